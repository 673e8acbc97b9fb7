import PyProof.Rows.All
import Wide.All
import OpenK.AllK
import Wide.FinOn
import HandS.Base
import HandS.ForMost
import HandS.ForExc
import HandS.CallSlots
import HandS.HeadHook2
import HandS.Zip
import HandS.TupAny
import HandS.Style
import HandS.SortInts
import HandS.Deep
import HandS.IsInst
import HandS.Wide
import HandS.Lambda
import HandS.HeadHook4
import HandS.ExcCtx
import HandS.TupMul
import HandS.TupLe
import HandS.Conv
import KE.GoesEnum
import KE.GoesMore
import KE.SortData
import KE.DataMinMax
import HandS.HotCalls
import HandS.Nested
import HandS.Head2
import HandS.Codes
import HandS.ExcIs
import HandS.FStr
import HandS.SetFor
import HandS.Strs
import HandS.RaiseMore
import KE.KIndexOf
import HandS.HeadEnd
import HandS.HeadWalk
import HandS.Defaults
import PyProof.StrLawsChain
import PySem.Challenge.RW_testedlots_k01_plans_and_views_known
set_option Elab.async false
set_option linter.all false
namespace Ip
open PySem
/-- the defs of this law that make lambdas -/
def lams : List Str := ["_law_all_refused", "_law_refused", "law"]
end Ip
set_option Elab.async false
set_option linter.all false
set_option maxRecDepth 100000
set_option maxHeartbeats 4000000
namespace Ip
open PySem PySem.Spec PyProof.Rows L2

/-! ### how the abstract heap bears data -/
/-- the addresses of the mutable lists (by their number), and of the lists that are being made -/
structure MX where
  l : List Addr
  x : List Addr
def MX.has (m : MX) (a : Addr) : Prop := a ∈ m.l ∨ a ∈ m.x
/-- further mutable lists -/
def MX.add (m : MX) (r : List Addr) : MX := ⟨m.l ++ r, m.x⟩
theorem MX.add_nil (m : MX) : m.add [] = m := by cases m; simp [MX.add]
theorem MX.add_add (m : MX) (r t : List Addr) : (m.add r).add t = m.add (r ++ t) := by simp [MX.add]
/-- what data need to stand -/
structure Wk (m : MX) (H : Hp) (m' : MX) (H' : Hp) : Prop where
  kp : ∀ a o, H a = some o → (∀ ps, o ≠ .tbl ps) → ¬ m.has a → H' a = some o ∧ ¬ m'.has a
  kt : ∀ a xs, H a = some (.tup xs) → H' a = some (.tup xs)
  kz : ∀ a o u, H a = some (.frz o u) → H' a = some (.frz o u)
  gt : ∀ (n : Nat) (a : Addr), m.l[n]? = some a → m'.l[n]? = some a
/-! ### plain data, results -/
/-- plain data: lst a list that nobody changes, scr the script, ref n the n-th mutable list of the store, glo x the module's name x, clo a something to be called that was made at (m0, H0), ins C an object of the class C that nobody changes -/
inductive D where
  | non | bl (b : Bool) | int (i : Int) | str (x : Str) | tup (xs : List D) | lst (xs : List D) | scr (xs : List D) | ref (n : Nat) | glo (x : Str) | clo (a : Addr) (m0 : MX) (H0 : Hp) | ins (C : Str) (xs : List D)
  deriving Inhabited
abbrev Sto := List (List D)
abbrev Sl := List (Option D)
/-- a run's result: a value, an error of the class c, or nothing that is told -/
inductive R (α : Type) where
  | ok (a : α) (s : Sto)
  | exc (c : Str) (s : Sto)
  | bad
def R.bind {α β : Type} : R α → (α → Sto → R β) → R β
  | .ok a s, g => g a s
  | .exc c s, _ => .exc c s
  | .bad, _ => .bad
@[simp] theorem R.bind_ok {α β : Type} (a : α) (s : Sto) (g : α → Sto → R β) : (R.ok a s).bind g = g a s := Eq.trans rfl rfl
@[simp] theorem R.bind_exc {α β : Type} (c : Str) (s : Sto) (g : α → Sto → R β) : (R.exc c s).bind g = .exc c s := Eq.trans rfl rfl
@[simp] theorem R.bind_bad {α β : Type} (g : α → Sto → R β) : (R.bad : R α).bind g = .bad := Eq.trans rfl rfl
def R.lift {α : Type} (o : Option α) (s : Sto) : R α := match o with
  | some a => .ok a s
  | none => .bad
@[simp] theorem R.lift_some {α : Type} (a : α) (s : Sto) : R.lift (some a) s = .ok a s := Eq.trans rfl rfl
@[simp] theorem R.lift_none {α : Type} (s : Sto) : R.lift (none : Option α) s = .bad := Eq.trans rfl rfl

/-- the attributes of a class's objects, in their order -/
def fldN (C : Str) : List Str := if C = "Plan" then ["kept"] else []
mutual
def Rep (K : PySem.W.Frag) (m : MX) (H : Hp) : D → V → Prop
  | .non, v => v = .non
  | .bl b, v => v = .bl b
  | .int i, v => v = .int i
  | .str x, v => v = .str x
  | .tup ds, v => ∃ a vs, v = .ref a ∧ SqT K H a vs ∧ Reps K m H ds vs
  | .lst ds, v => ∃ a vs, v = .ref a ∧ Rd H a (.lst vs) ∧ ¬ m.has a ∧ Reps K m H ds vs
  | .scr ds, v => ∃ a vs, v = .ref a ∧ ((Rd H a (.lst vs) ∧ ¬ m.has a) ∨ ∀ H', SqL K H' a vs) ∧ Reps K m H ds vs
  | .ref n, v => ∃ a, v = .ref a ∧ m.l[n]? = some a
  | .glo x, v => v = .ref (He.ga K x)
  | .clo a m0 H0, v => v = .ref a ∧ Wk m0 H0 m H
  | .ins C ds, v => ∃ a dx vs, v = .ref a ∧ H a = some (.ins (He.ga K C) dx ((fldN C).zip vs)) ∧ ¬ m.has a ∧ vs.length = (fldN C).length ∧ Reps K m H ds vs
def Reps (K : PySem.W.Frag) (m : MX) (H : Hp) : List D → List V → Prop
  | [], vs => vs = []
  | d :: ds, vs => ∃ v r, vs = v :: r ∧ Rep K m H d v ∧ Reps K m H ds r
end

/-- nothing but a table is known at a -/
def Nix (H : Hp) (a : Addr) : Prop := ∀ o, H a = some o → ∃ ps, o = .tbl ps
theorem Nix.of {H : Hp} {a : Addr} (h : H a = none) : Nix H a := fun o e => by rw [h] at e; cases e
theorem Nix.no {H : Hp} {a : Addr} {o : HO} (n : Nix H a) (h : H a = some o) (t : ∀ ps, o ≠ .tbl ps) : False := (n o h).elim t
structure Ext (K : PySem.W.Frag) (m : MX) (H : Hp) (m' : MX) (H' : Hp) : Prop where
  pre : ∃ r, m' = m.add r ∧ ∀ a ∈ r, Nix H a
  kp : ∀ a o, H a = some o → (∀ ps, o ≠ .tbl ps) → a ∉ m.l → H' a = some o
  kt : ∀ a xs, H a = some (.tup xs) → H' a = some (.tup xs)
  kz : ∀ a o u, H a = some (.frz o u) → H' a = some (.frz o u)
  th : ∀ a, Nix H' a → Nix H a
section
variable {K : PySem.W.Frag} {m m' m1 m2 : MX} {H H' H1 H2 : Hp}
theorem Ext.refl : Ext K m H m H := ⟨⟨[], m.add_nil.symm, fun _ z => nomatch z⟩, fun _ _ e _ _ => e, fun _ _ e => e, fun _ _ _ e => e, fun _ e => e⟩
theorem Ext.trans (a : Ext K m H m1 H1) (b : Ext K m1 H1 m2 H2) : Ext K m H m2 H2 := by
  obtain ⟨r, e1, f1⟩ := a.pre
  obtain ⟨r2, e2, f2⟩ := b.pre
  refine ⟨⟨r ++ r2, by rw [e2, e1, MX.add_add], fun c hc => ?_⟩, fun c o e nt n => ?_, fun c xs e => b.kt c xs (a.kt c xs e), fun c o u e => b.kz c o u (a.kz c o u e), fun c e => a.th c (b.th c e)⟩
  · rcases List.mem_append.mp hc with z | z
    · exact f1 c z
    · exact a.th c (f2 c z)
  · refine b.kp c o (a.kp c o e nt n) nt fun z => ?_
    rw [e1] at z
    rcases List.mem_append.mp z with z | z
    · exact n z
    · exact (f1 c z).no e nt
/-- a new object -/
theorem Ext.new {p : Addr} {o : HO} (h : H p = none) : Ext K m H m (upd H p o) := by
  have k : ∀ a u, H a = some u → upd H p o a = some u := fun a u e => by rw [upd_ne (ne_of_none e h)]; exact e
  exact ⟨⟨[], m.add_nil.symm, fun _ z => nomatch z⟩, fun a u e _ _ => k a u e, fun a xs e => k a _ e, fun a u z e => k a _ e, fun a e o q => e o (k a o q)⟩
/-- a mutable list is written -/
theorem Ext.write {p : Addr} {vs vs' : List V} (hm : p ∈ m.l) (h : H p = some (.lst vs)) : Ext K m H m (upd H p (.lst vs')) := by
  refine ⟨⟨[], m.add_nil.symm, fun _ z => nomatch z⟩, fun a o e _ n => ?_, fun a xs e => ?_, fun a o u e => ?_, fun a e => ?_⟩
  · rw [upd_ne (fun z => n (by rw [z]; exact hm))]; exact e
  · rw [upd_ne (ne_of e h (by intro z; cases z))]; exact e
  · rw [upd_ne (ne_of e h (by intro z; cases z))]; exact e
  · intro o q
    by_cases hb : a = p
    · obtain ⟨ps, z⟩ := e (.lst vs') (by rw [hb, upd_same])
      cases z
    · exact e o (by rw [upd_ne hb]; exact q)
/-- a list that is new since H joins the mutable ones -/
theorem Ext.grow {p : Addr} (a : Ext K m H m' H') (hn : H p = none) : Ext K m H (m'.add [p]) H' := by
  obtain ⟨r, e1, f1⟩ := a.pre
  refine ⟨⟨r ++ [p], by rw [e1, MX.add_add], fun c hc => ?_⟩, a.kp, a.kt, a.kz, a.th⟩
  rcases List.mem_append.mp hc with z | z
  · exact f1 c z
  · rw [List.mem_singleton.mp z]; exact .of hn
theorem Ext.nin {a : Addr} {o : HO} (e : Ext K m H m' H') (h : H a = some o) (nt : ∀ ps, o ≠ .tbl ps) (n : ¬ m.has a) : ¬ m'.has a := fun z => by
  obtain ⟨r, e1, f1⟩ := e.pre
  rw [e1] at z
  rcases z with z | z
  · rcases List.mem_append.mp z with z | z
    · exact n (.inl z)
    · exact (f1 a z).no h nt
  · exact n (.inr z)
theorem Ext.get {n : Nat} {a : Addr} (e : Ext K m H m' H') (h : m.l[n]? = some a) : m'.l[n]? = some a := by
  obtain ⟨r, e1, _⟩ := e.pre
  rw [e1]
  show (m.l ++ r)[n]? = some a
  rw [List.getElem?_append_left (List.getElem?_eq_some_iff.mp h).1]
  exact h
theorem Ext.xs (e : Ext K m H m' H') : m'.x = m.x := by
  obtain ⟨r, e1, _⟩ := e.pre
  rw [e1]; rfl
theorem Ext.wk (e : Ext K m H m' H') : Wk m H m' H' := ⟨fun a o h nt n => ⟨e.kp a o h nt fun z => n (.inl z), e.nin h nt n⟩, e.kt, e.kz, fun _ _ h => e.get h⟩
theorem Wk.refl : Wk m H m H := ⟨fun _ _ h _ n => ⟨h, n⟩, fun _ _ h => h, fun _ _ _ h => h, fun _ _ h => h⟩
theorem Wk.trans (a : Wk m H m1 H1) (b : Wk m1 H1 m2 H2) : Wk m H m2 H2 := ⟨fun c o h nt n => let ⟨h1, n1⟩ := a.kp c o h nt n; b.kp c o h1 nt n1, fun c xs h => b.kt c xs (a.kt c xs h), fun c o u h => b.kz c o u (a.kz c o u h), fun n c h => b.gt n c (a.gt n c h)⟩
theorem Wk.sqT {a : Addr} {xs : List V} (e : Wk m H m' H') (h : SqT K H a xs) : SqT K H' a xs := by
  rcases h with (h | ⟨o, h⟩) | h
  · exact .inl (.inl (e.kt _ _ h))
  · exact .inl (.inr ⟨o, e.kz _ _ _ h⟩)
  · exact .inr h
theorem Wk.rd {a : Addr} {xs : List V} (e : Wk m H m' H') (h : Rd H a (.lst xs)) (n : ¬ m.has a) : Rd H' a (.lst xs) ∧ ¬ m'.has a := by
  rcases h with h | ⟨o, h⟩
  · exact ⟨.inl (e.kp _ _ h (fun _ z => nomatch z) n).1, (e.kp _ _ h (fun _ z => nomatch z) n).2⟩
  · exact ⟨.inr ⟨o, e.kz _ _ _ h⟩, (e.kp _ _ h (fun _ z => nomatch z) n).2⟩
mutual
theorem Rep.wk (e : Wk m H m' H') : ∀ {d : D} {v : V}, Rep K m H d v → Rep K m' H' d v
  | .non, _, h => by simpa only [Rep] using h
  | .bl _, _, h => by simpa only [Rep] using h
  | .int _, _, h => by simpa only [Rep] using h
  | .str _, _, h => by simpa only [Rep] using h
  | .glo _, _, h => by simpa only [Rep] using h
  | .clo _ _ _, _, h => by
    simp only [Rep] at h ⊢
    exact ⟨h.1, h.2.trans e⟩
  | .ins C ds, _, h => by
    simp only [Rep] at h ⊢
    obtain ⟨a, dx, vs, rfl, h1, h3, h4, h2⟩ := h
    have k := e.kp _ _ h1 (fun _ z => nomatch z) h3
    exact ⟨a, dx, vs, rfl, k.1, k.2, h4, Reps.wk e h2⟩
  | .tup ds, _, h => by
    simp only [Rep] at h ⊢
    obtain ⟨a, vs, rfl, h1, h2⟩ := h
    exact ⟨a, vs, rfl, e.sqT h1, Reps.wk e h2⟩
  | .lst ds, _, h => by
    simp only [Rep] at h ⊢
    obtain ⟨a, vs, rfl, h1, h3, h2⟩ := h
    exact ⟨a, vs, rfl, (e.rd h1 h3).1, (e.rd h1 h3).2, Reps.wk e h2⟩
  | .scr ds, _, h => by
    simp only [Rep] at h ⊢
    obtain ⟨a, vs, rfl, h1, h2⟩ := h
    exact ⟨a, vs, rfl, h1.imp (fun ⟨x, y⟩ => e.rd x y) id, Reps.wk e h2⟩
  | .ref n, _, h => by
    simp only [Rep] at h ⊢
    obtain ⟨a, rfl, h1⟩ := h
    exact ⟨a, rfl, e.gt _ _ h1⟩
theorem Reps.wk (e : Wk m H m' H') : ∀ {ds : List D} {vs : List V}, Reps K m H ds vs → Reps K m' H' ds vs
  | [], _, h => by simpa only [Reps] using h
  | d :: ds, _, h => by
    simp only [Reps] at h ⊢
    obtain ⟨v, r, rfl, h1, h2⟩ := h
    exact ⟨v, r, rfl, Rep.wk e h1, Reps.wk e h2⟩
end
theorem Rep.mono (e : Ext K m H m' H') {d : D} {v : V} (h : Rep K m H d v) : Rep K m' H' d v := h.wk e.wk
theorem Reps.mono (e : Ext K m H m' H') {ds : List D} {vs : List V} (h : Reps K m H ds vs) : Reps K m' H' ds vs := h.wk e.wk
theorem Reps.nil : Reps K m H [] [] := by simp only [Reps]
theorem Reps.cons {d : D} {ds : List D} {v : V} {vs : List V} (h : Rep K m H d v) (t : Reps K m H ds vs) : Reps K m H (d :: ds) (v :: vs) := by
  simp only [Reps]; exact ⟨v, vs, rfl, h, t⟩
theorem Reps.nil_inv {vs : List V} (h : Reps K m H [] vs) : vs = [] := by simpa only [Reps] using h
theorem Reps.cons_inv {d : D} {ds : List D} {vs : List V} (h : Reps K m H (d :: ds) vs) : ∃ v r, vs = v :: r ∧ Rep K m H d v ∧ Reps K m H ds r := by simpa only [Reps] using h
theorem Reps.len : ∀ {ds : List D} {vs : List V}, Reps K m H ds vs → vs.length = ds.length
  | [], _, h => by rw [h.nil_inv]; rfl
  | d :: ds, _, h => by
    obtain ⟨v, r, rfl, _, h2⟩ := h.cons_inv
    rw [List.length_cons, List.length_cons, Reps.len h2]
theorem Reps.get : ∀ {ds : List D} {vs : List V} {i : Nat} {d : D}, Reps K m H ds vs → ds[i]? = some d → ∃ v, vs[i]? = some v ∧ Rep K m H d v
  | [], _, _, _, _, e => by simp at e
  | d :: ds, _, 0, x, h, e => by
    obtain ⟨v, r, rfl, h1, h2⟩ := h.cons_inv
    simp at e; subst e
    exact ⟨v, rfl, h1⟩
  | d :: ds, _, i + 1, x, h, e => by
    obtain ⟨v, r, rfl, h1, h2⟩ := h.cons_inv
    obtain ⟨w, a, b⟩ := Reps.get (i := i) h2 (by simpa using e)
    exact ⟨w, by simpa using a, b⟩
theorem Reps.getV : ∀ {ds : List D} {vs : List V} {i : Nat} {v : V}, Reps K m H ds vs → vs[i]? = some v → ∃ d, ds[i]? = some d ∧ Rep K m H d v := fun {ds vs i v} h e => by
  have hl : i < ds.length := by rw [← h.len]; exact (List.getElem?_eq_some_iff.mp e).1
  obtain ⟨w, a, b⟩ := h.get (List.getElem?_eq_getElem hl)
  rw [e] at a; cases a
  exact ⟨_, List.getElem?_eq_getElem hl, b⟩
theorem Reps.append : ∀ {ds es : List D} {vs us : List V}, Reps K m H ds vs → Reps K m H es us → Reps K m H (ds ++ es) (vs ++ us)
  | [], _, _, _, h, t => by rw [h.nil_inv]; exact t
  | d :: ds, _, _, _, h, t => by
    obtain ⟨v, r, rfl, h1, h2⟩ := h.cons_inv
    exact .cons h1 (Reps.append h2 t)
theorem Reps.take : ∀ {ds : List D} {vs : List V} (n : Nat), Reps K m H ds vs → Reps K m H (ds.take n) (vs.take n)
  | _, _, 0, _ => by simpa using Reps.nil
  | [], _, n + 1, h => by rw [h.nil_inv]; simpa using Reps.nil
  | d :: ds, _, n + 1, h => by
    obtain ⟨v, r, rfl, h1, h2⟩ := h.cons_inv
    exact .cons h1 (Reps.take n h2)
theorem Reps.drop : ∀ {ds : List D} {vs : List V} (n : Nat), Reps K m H ds vs → Reps K m H (ds.drop n) (vs.drop n)
  | _, _, 0, h => by simpa using h
  | [], _, n + 1, h => by rw [h.nil_inv]; simpa using Reps.nil
  | d :: ds, _, n + 1, h => by
    obtain ⟨v, r, rfl, h1, h2⟩ := h.cons_inv
    simpa using Reps.drop n h2
theorem Reps.reverse : ∀ {ds : List D} {vs : List V}, Reps K m H ds vs → Reps K m H ds.reverse vs.reverse
  | [], _, h => by rw [h.nil_inv]; simpa using Reps.nil
  | d :: ds, _, h => by
    obtain ⟨v, r, rfl, h1, h2⟩ := h.cons_inv
    rw [List.reverse_cons, List.reverse_cons]
    exact (Reps.reverse h2).append (.cons h1 .nil)
theorem Reps.eraseIdx : ∀ {ds : List D} {vs : List V} (n : Nat), Reps K m H ds vs → Reps K m H (ds.eraseIdx n) (vs.eraseIdx n)
  | [], _, n, h => by rw [h.nil_inv]; simpa using Reps.nil
  | d :: ds, _, 0, h => by
    obtain ⟨v, r, rfl, h1, h2⟩ := h.cons_inv
    simpa using h2
  | d :: ds, _, n + 1, h => by
    obtain ⟨v, r, rfl, h1, h2⟩ := h.cons_inv
    simpa using Reps.cons h1 (Reps.eraseIdx n h2)
theorem Reps.ints : ∀ {ns : List Int}, Reps K m H (ns.map D.int) (ns.map V.int)
  | [] => .nil
  | n :: ns => .cons (by simp only [Rep]) Reps.ints
end

theorem ndx {α : Type} {N : List α} (hN : N.Nodup) {i j : Nat} {x : α} (a : N[i]? = some x) (b : N[j]? = some x) : i = j := by
  obtain ⟨h1, e1⟩ := List.getElem?_eq_some_iff.mp a
  obtain ⟨h2, e2⟩ := List.getElem?_eq_some_iff.mp b
  exact (List.getElem_inj hN).mp (e1.trans e2.symm)
/-- the slots -/
def RepSl (K : PySem.W.Frag) (m : MX) (H : Hp) (ρ : Sl) (σ : L2.St) : Prop :=
  ρ.length = σ.length ∧ ∀ (i : Nat) (d : D), ρ[i]? = some (some d) → ∃ v, σ[i]? = some (some v) ∧ Rep K m H d v
/-- the tables of code objects of the defs that make lambdas -/
def lamT (K : PySem.W.Frag) : List (Addr × Str) := lams.map fun x => ((He.cT K (x, none)).2, x ++ ".<locals>." ++ "<lambda>")
/-- the store -/
structure RepSt (K : PySem.W.Frag) (m : MX) (H : Hp) (st : Sto) : Prop where
  len : m.l.length = st.length
  nd : (m.l ++ m.x).Nodup
  at_ : ∀ (n : Nat) (xs : List D), st[n]? = some xs → ∃ a vs, m.l[n]? = some a ∧ H a = some (.lst vs) ∧ Reps K m H xs vs
  bz : ∀ a, a ∈ m.x → ∃ vs, H a = some (.lst vs)
  tab : LamX.Tabs (lamT K) H
/-- the tables stand where they and the code objects that they tell stand -/
theorem tabs_keep {T : List (Addr × Str)} {H H' : Hp} (t : LamX.Tabs T H) (k : ∀ b ps, H b = some (.tbl ps) → H' b = some (.tbl ps)) (kc : ∀ b q, H b = some (LamX.CodeO b q) → H' b = some (LamX.CodeO b q)) : LamX.Tabs T H' := fun p hp => by
  obtain ⟨ps, h1, h2, h3⟩ := t p hp
  refine ⟨ps, k _ _ h1, h2, fun pos cv hc => ?_⟩
  obtain ⟨c, e1, e2⟩ := h3 pos cv hc
  exact ⟨c, e1, kc _ _ e2⟩
theorem codeO_lst {c : Addr} {q : Str} (vs : List V) : LamX.CodeO c q ≠ .lst vs := fun z => by
  unfold LamX.CodeO at z
  cases z
section
variable {K : PySem.W.Frag} {m m' m1 m2 : MX} {H H' H1 H2 : Hp} {ρ : Sl} {σ : L2.St} {st : Sto}
theorem RepSl.wk (e : Wk m H m' H') (h : RepSl K m H ρ σ) : RepSl K m' H' ρ σ := ⟨h.1, fun i d q => let ⟨v, a, b⟩ := h.2 i d q; ⟨v, a, b.wk e⟩⟩
theorem RepSl.mono (e : Ext K m H m' H') (h : RepSl K m H ρ σ) : RepSl K m' H' ρ σ := h.wk e.wk
theorem RepSl.set {i : Nat} {d : D} {v : V} (h : RepSl K m H ρ σ) (r : Rep K m H d v) : RepSl K m H (ρ.set i (some d)) (σ.set i (some v)) := by
  refine ⟨by simp [h.1], fun j x q => ?_⟩
  by_cases hj : i = j
  · subst hj
    rw [List.getElem?_set] at q
    simp only [if_true] at q
    split at q
    · rename_i hl
      cases q
      rw [List.getElem?_set_self (by rw [← h.1]; exact hl)]
      exact ⟨v, rfl, r⟩
    · cases q
  · rw [List.getElem?_set_ne hj] at q ⊢
    exact h.2 j x q
theorem RepSt.there (h : RepSt K m H st) {a : Addr} (ha : m.has a) : ∃ vs, H a = some (.lst vs) := by
  rcases ha with ha | ha
  · obtain ⟨n, hn, e⟩ := List.mem_iff_getElem.mp ha
    have hl : n < st.length := by rw [← h.len]; exact hn
    obtain ⟨b, vs, h1, h2, _⟩ := h.at_ n _ (List.getElem?_eq_getElem hl)
    rw [List.getElem?_eq_getElem hn, e] at h1
    cases h1
    exact ⟨vs, h2⟩
  · exact h.bz a ha
/-- the store stands where its lists stand -/
theorem RepSt.move (h : RepSt K m H st) (e : Ext K m H m H') (k : ∀ a vs, m.has a → H a = some (.lst vs) → H' a = some (.lst vs)) (kt : ∀ b ps, H b = some (.tbl ps) → H' b = some (.tbl ps)) : RepSt K m H' st :=
  ⟨h.len, h.nd, fun n xs q => by
    obtain ⟨a, vs, h1, h2, h3⟩ := h.at_ n xs q
    exact ⟨a, vs, h1, k a vs (.inl (List.mem_of_getElem? h1)) h2, h3.mono e⟩, fun a ha => let ⟨vs, e⟩ := h.bz a ha; ⟨vs, k a vs (.inr ha) e⟩, tabs_keep h.tab kt fun b q hb => e.kp b _ hb (LamX.codeO_ne) fun z => by
    obtain ⟨vs, e1⟩ := h.there (.inl z)
    rw [hb] at e1
    exact codeO_lst vs (Option.some.inj e1)⟩
theorem RepSt.new {p : Addr} {o : HO} (h : RepSt K m H st) (hn : H p = none) : RepSt K m (upd H p o) st :=
  h.move (.new hn) (fun a vs _ e => by rw [upd_ne (ne_of_none e hn)]; exact e) fun a ps e => by rw [upd_ne (ne_of_none e hn)]; exact e
theorem RepSt.ndl (h : RepSt K m H st) : m.l.Nodup := (List.nodup_append.mp h.nd).1
theorem RepSt.apart (h : RepSt K m H st) {a : Addr} (ha : a ∈ m.l) (hx : a ∈ m.x) : False := (List.nodup_append.mp h.nd).2.2 a ha a hx rfl
theorem RepSt.write {p : Addr} {n : Nat} {vs vs' : List V} {ds : List D} (h : RepSt K m H st) (hm : m.l[n]? = some p) (hp : H p = some (.lst vs)) (r : Reps K m H ds vs') : RepSt K m (upd H p (.lst vs')) (st.set n ds) := by
  have e : Ext K m H m (upd H p (.lst vs')) := .write (List.mem_of_getElem? hm) hp
  refine ⟨by simp [h.len], h.nd, fun j xs q => ?_, fun a ha => ?_, tabs_keep h.tab (fun b ps hb => by rw [upd_ne (ne_of hb hp (by intro z; cases z))]; exact hb) fun b q hb => by rw [upd_ne (ne_of hb hp (codeO_lst _))]; exact hb⟩
  · by_cases hj : n = j
    · subst hj
      rw [List.getElem?_set] at q
      simp only [if_true] at q
      split at q
      · cases q
        exact ⟨p, vs', hm, upd_same, r.mono e⟩
      · cases q
    · rw [List.getElem?_set_ne hj] at q
      obtain ⟨a, us, h1, h2, h3⟩ := h.at_ j xs q
      refine ⟨a, us, h1, ?_, h3.mono e⟩
      rw [upd_ne]
      · exact h2
      · intro z
        subst z
        exact hj (ndx h.ndl hm h1)
  · obtain ⟨us, e1⟩ := h.bz a ha
    refine ⟨us, ?_⟩
    rw [upd_ne]
    · exact e1
    · intro z
      subst z
      exact h.apart (List.mem_of_getElem? hm) ha
theorem RepSt.get {n : Nat} {xs : List D} (h : RepSt K m H st) (q : st[n]? = some xs) : ∃ a vs, m.l[n]? = some a ∧ H a = some (.lst vs) ∧ Reps K m H xs vs := h.at_ n xs q
theorem fresh_nin (hst : RepSt K m H st) {p : Addr} (h : H p = none) : ¬ m.has p := fun z => by
  obtain ⟨vs, e⟩ := hst.there z
  rw [h] at e; cases e
/-- a new list joins the mutable ones -/
theorem RepSt.grow {p : Addr} {ds : List D} {vs : List V} (hst : RepSt K m H st) (h : H p = none) (r : Reps K m H ds vs) : RepSt K (m.add [p]) (upd H p (.lst vs)) (st ++ [ds]) := by
  have e : Ext K m H (m.add [p]) (upd H p (.lst vs)) := (Ext.new h).grow h
  have n := fresh_nin hst h
  refine ⟨by show (m.l ++ [p]).length = _; simp [hst.len], ?_, fun j xs q => ?_, fun a ha => ?_, tabs_keep hst.tab (fun b ps hb => by rw [upd_ne (ne_of_none hb h)]; exact hb) fun b q hb => by rw [upd_ne (ne_of_none hb h)]; exact hb⟩
  · show (m.l ++ [p] ++ m.x).Nodup
    have nd := List.nodup_append.mp hst.nd
    rw [List.append_assoc, List.nodup_append]
    refine ⟨nd.1, ?_, fun a ha b hb => ?_⟩
    · rw [List.singleton_append, List.nodup_cons]
      exact ⟨fun z => n (.inr z), nd.2.1⟩
    · rcases List.mem_append.mp hb with hb | hb
      · rw [List.mem_singleton.mp hb]
        exact fun z => n (.inl (z ▸ ha))
      · exact nd.2.2 a ha b hb
  · by_cases hj : j < st.length
    · rw [List.getElem?_append_left hj] at q
      obtain ⟨a, us, h1, h2, h3⟩ := hst.get q
      exact ⟨a, us, e.get h1, by rw [upd_ne (ne_of_none h2 h)]; exact h2, h3.mono e⟩
    · rw [List.getElem?_append_right (by omega)] at q
      have hj2 : j = st.length := by
        have := (List.getElem?_eq_some_iff.mp q).1
        simp at this; omega
      subst hj2
      simp at q
      subst q
      refine ⟨p, vs, ?_, upd_same, r.mono e⟩
      show (m.l ++ [p])[st.length]? = _
      rw [List.getElem?_append_right (by rw [hst.len]; exact Nat.le_refl _), hst.len]
      simp
  · obtain ⟨us, e1⟩ := hst.bz a ha
    exact ⟨us, by rw [upd_ne (ne_of_none e1 h)]; exact e1⟩
end
end Ip
set_option Elab.async false
set_option linter.all false
set_option maxRecDepth 100000
set_option maxHeartbeats 4000000
namespace Ip
open PySem PySem.Spec PyProof.Rows L2

/-! ### what a run is to end in -/
def Post {α : Type} (K : PySem.W.Frag) (W : WX) (σ : L2.St) (m : MX) (H : Hp) (r : R α) (P : α → Sto → MX → Hp → Prop) : Prop := match r with
  | .ok a st => ∀ m' H', Ext K m H m' H' → RepSt K m' H' st → P a st m' H'
  | .exc c st => ∀ m' H', Ext K m H m' H' → RepSt K m' H' st → W (.ref (He.ga K c)) none σ H'
  | .bad => False
section
variable {α β : Type} {K : PySem.W.Frag} {W : WX} {σ : L2.St} {m m1 : MX} {H H1 : Hp} {r : R α} {P P' : α → Sto → MX → Hp → Prop}
theorem Post.ext (e : Ext K m H m1 H1) (h : Post K W σ m H r P) : Post K W σ m1 H1 r P := by
  cases r with
  | ok a st => exact fun m' H' x y => h m' H' (e.trans x) y
  | exc c st => exact fun m' H' x y => h m' H' (e.trans x) y
  | bad => exact h
theorem Post.bind {g : α → Sto → R β} {Pb : β → Sto → MX → Hp → Prop} (h : Post K W σ m H (r.bind g) Pb) : Post K W σ m H r (fun a st m1 H1 => Post K W σ m1 H1 (g a st) Pb) := by
  cases r with
  | ok a st => exact fun m' H' x _ => Post.ext x h
  | exc c st => exact h
  | bad => exact h
theorem Post.imp (h : Post K W σ m H r P) (k : ∀ a st m' H', Ext K m H m' H' → RepSt K m' H' st → P a st m' H' → P' a st m' H') : Post K W σ m H r P' := by
  cases r with
  | ok a st => exact fun m' H' x y => k a st m' H' x y (h m' H' x y)
  | exc c st => exact h
  | bad => exact h
end
abbrev Ev := Sl → Sto → R D
abbrev Eb := Sl → Sto → R Bool
abbrev Ea := Sl → Sto → R (List D)
/-- an expression is run as f -/
def tE (K : PySem.W.Frag) (W : WX) (f : Ev) : TE := fun σ H Q => ∃ m ρ st, RepSl K m H ρ σ ∧ RepSt K m H st ∧ Post K W σ m H (f ρ st) fun d _ m' H' => ∀ v, Rep K m' H' d v → Q v H'
def tT (K : PySem.W.Frag) (W : WX) (f : Eb) : TT := fun σ H Q => ∃ m ρ st, RepSl K m H ρ σ ∧ RepSt K m H st ∧ Post K W σ m H (f ρ st) fun b _ _ H' => Q b H'
def tA (K : PySem.W.Frag) (W : WX) (f : Ea) : TA := fun σ H Q => ∃ m ρ st, RepSl K m H ρ σ ∧ RepSt K m H st ∧ Post K W σ m H (f ρ st) fun ds _ m' H' => ∀ vs, Reps K m' H' ds vs → Q vs H'
/-- an expression makes a new list, last of all -/
def tN (K : PySem.W.Frag) (W : WX) (f : Ea) : TE := fun σ H Q => ∃ m ρ st, RepSl K m H ρ σ ∧ RepSt K m H st ∧ Post K W σ m H (f ρ st) fun ds _ m' H' => ∀ a vs, H' a = none → Reps K m' H' ds vs → vs.length ≤ sizeLine → Q (.ref a) (upd H' a (.lst vs))
section
variable {X : Cx} {W : WX} {pins : List (Addr × Obj)} {σ : L2.St} {H : Hp} {s : Shared} {m : MX} {ρ : Sl} {st : Sto} {α β : Type}
variable {e a b c : Expr} {es : List Expr} {pos : Pos}

theorem seqE {fa : Ev} (ha : PE X e (tE X.K W fa)) (I : Inv X pins σ H s) (hsl : RepSl X.K m H ρ σ) (hst : RepSt X.K m H st) {g : D → Sto → R β} {P : β → Sto → MX → Hp → Prop}
    (hp : Post X.K W σ m H ((fa ρ st).bind g) P) {Q : Value → Shared → Prop}
    (k : ∀ u s1 v H1 m1 d st1, Inv X pins σ H1 s1 → RelV v u → Ext X.K m H m1 H1 → RepSl X.K m1 H1 ρ σ → RepSt X.K m1 H1 st1 → Rep X.K m1 H1 d v → Post X.K W σ m1 H1 (g d st1) P → Q u s1) :
    wpAny (model X.prog X.w) X.A (eval e X.env) Q X.xe s := by
  refine thn (ha.run pins s σ H (fun v H1 => ∃ m1 d st1, Ext X.K m H m1 H1 ∧ RepSl X.K m1 H1 ρ σ ∧ RepSt X.K m1 H1 st1 ∧ Rep X.K m1 H1 d v ∧ Post X.K W σ m1 H1 (g d st1) P) I ⟨m, ρ, st, hsl, hst, hp.bind.imp fun d st1 m1 H1 x y q v rv => ⟨m1, d, st1, x, hsl.mono x, y, rv, q⟩⟩) fun u s1 hu => ?_
  obtain ⟨v, H1, I1, r1, m1, d, st1, x, sl1, y, rv, q⟩ := hu
  exact k u s1 v H1 m1 d st1 I1 r1 x sl1 y rv q
theorem seqA {fa : Ea} (ha : PA X es (tA X.K W fa)) (I : Inv X pins σ H s) (hsl : RepSl X.K m H ρ σ) (hst : RepSt X.K m H st) {g : List D → Sto → R β} {P : β → Sto → MX → Hp → Prop}
    (hp : Post X.K W σ m H ((fa ρ st).bind g) P) {Q : List Value → Shared → Prop}
    (k : ∀ us s1 vs H1 m1 ds st1, Inv X pins σ H1 s1 → Vals vs us → Ext X.K m H m1 H1 → RepSl X.K m1 H1 ρ σ → RepSt X.K m1 H1 st1 → Reps X.K m1 H1 ds vs → Post X.K W σ m1 H1 (g ds st1) P → Q us s1) :
    wpAny (model X.prog X.w) X.A (spliced (backTo pos (starEach es X.env))) Q X.xe s := by
  refine thn (ha.run pos pins s σ H (fun vs H1 => ∃ m1 ds st1, Ext X.K m H m1 H1 ∧ RepSl X.K m1 H1 ρ σ ∧ RepSt X.K m1 H1 st1 ∧ Reps X.K m1 H1 ds vs ∧ Post X.K W σ m1 H1 (g ds st1) P) I ⟨m, ρ, st, hsl, hst, hp.bind.imp fun d st1 m1 H1 x y q v rv => ⟨m1, d, st1, x, hsl.mono x, y, rv, q⟩⟩) fun u s1 hu => ?_
  obtain ⟨vs, H1, I1, r1, m1, ds, st1, x, sl1, y, rv, q⟩ := hu
  exact k u s1 vs H1 m1 ds st1 I1 r1 x sl1 y rv q
theorem seqT {fa : Eb} (ha : PT X e (tT X.K W fa)) (I : Inv X pins σ H s) (hsl : RepSl X.K m H ρ σ) (hst : RepSt X.K m H st) {g : Bool → Sto → R β} {P : β → Sto → MX → Hp → Prop}
    (hp : Post X.K W σ m H ((fa ρ st).bind g) P) {Q : Bool → Shared → Prop}
    (k : ∀ b s1 H1 m1 st1, Inv X pins σ H1 s1 → Ext X.K m H m1 H1 → RepSl X.K m1 H1 ρ σ → RepSt X.K m1 H1 st1 → Post X.K W σ m1 H1 (g b st1) P → Q b s1) :
    wpAny (model X.prog X.w) X.A (isTrue e X.env (eval e X.env)) Q X.xe s := by
  refine thn (ha.run pins s σ H (fun b H1 => ∃ m1 st1, Ext X.K m H m1 H1 ∧ RepSl X.K m1 H1 ρ σ ∧ RepSt X.K m1 H1 st1 ∧ Post X.K W σ m1 H1 (g b st1) P) I ⟨m, ρ, st, hsl, hst, hp.bind.imp fun b st1 m1 H1 x y q => ⟨m1, st1, x, hsl.mono x, y, q⟩⟩) fun u s1 hu => ?_
  obtain ⟨H1, I1, m1, st1, x, sl1, y, q⟩ := hu
  exact k u s1 H1 m1 st1 I1 x sl1 y q
/-- the end of an expression -/
abbrev PQ (K : PySem.W.Frag) (Q : VK) : D → Sto → MX → Hp → Prop := fun d _ m' H' => ∀ v, Rep K m' H' d v → Q v H'
theorem endE {Q : VK} {d : D} {v : V} {u : Value} {m1 : MX} {H1 : Hp} (I : Inv X pins σ H1 s) (r : RelV v u) (x : Ext X.K m H m1 H1) (hst : RepSt X.K m1 H1 st) (rv : Rep X.K m1 H1 d v) (hp : Post X.K W σ m H (.ok d st) (PQ X.K Q)) : EP X pins σ Q u s :=
  ⟨v, H1, I, r, hp m1 H1 x hst v rv⟩

/-! ### names, constants -/
def evVar (i : Nat) : Ev := fun ρ st => match ρ[i]? with
  | some (some d) => .ok d st
  | _ => .bad
def evC (d : D) : Ev := fun _ st => .ok d st
theorem e_var {i : Nat} {x : Str} (hN : X.N[i]? = some x) (hv : Vis X.env.scope x) (hd : (x == ("__debug__" : Str)) = false) (hcd : (x == ("__classdict__" : Str)) = false) : PE X (.Name x pos) (tE X.K W (evVar i)) := by
  refine ⟨fun pins s σ H Q I h => ?_⟩
  obtain ⟨m, ρ, st, hsl, hst, hp⟩ := h
  refine (pe_var (pos := pos) hN hv hd hcd).run pins s σ H Q I ?_
  unfold evVar at hp
  cases e : ρ[i]? with
  | none => rw [e] at hp; exact hp.elim
  | some o =>
    rw [e] at hp
    cases o with
    | none => exact hp.elim
    | some d =>
      obtain ⟨v, h1, h2⟩ := hsl.2 i d e
      exact ⟨v, h1, hp m H .refl hst v h2⟩
theorem e_const {t : V} {d : D} (h : PE X e (tC t)) (r : ∀ m H, Rep X.K m H d t) : PE X e (tE X.K W (evC d)) := by
  refine ⟨fun pins s σ H Q I hw => ?_⟩
  obtain ⟨m, ρ, st, hsl, hst, hp⟩ := hw
  exact h.run pins s σ H Q I (hp m H .refl hst t (r m H))
theorem e_int {i j} : PE X (.Constant (.int i) j pos) (tE X.K W (evC (.int i))) := e_const pe_int fun _ _ => by simp only [Rep]
theorem e_bl {i j} : PE X (.Constant (.bool i) j pos) (tE X.K W (evC (.bl i))) := e_const pe_bl fun _ _ => by simp only [Rep]
theorem e_non {j} : PE X (.Constant .none j pos) (tE X.K W (evC .non)) := e_const pe_non fun _ _ => by simp only [Rep]
theorem e_str {i j} : PE X (.Constant (.str i) j pos) (tE X.K W (evC (.str i))) := e_const pe_str fun _ _ => by simp only [Rep]

/-! ### operators -/
/-- f computes o of data (store, left, right) -/
def OpS (X : Cx) (f : Value → Value → Sem Value) (o : Sto → D → D → Option D) : Prop :=
  ∀ (pins : List (Addr × Obj)) (s : Shared) (σ : L2.St) (H : Hp) (m : MX) (st : Sto) (x y z : D) (v w : V) (u t : Value) (Q : VK), Inv X pins σ H s → RepSt X.K m H st → Rep X.K m H x v → Rep X.K m H y w → RelV v u → RelV w t → o st x y = some z →
    (∀ m' H' v', Ext X.K m H m' H' → RepSt X.K m' H' st → Rep X.K m' H' z v' → Q v' H') → wpAny (model X.prog X.w) X.A (f u t) (EP X pins σ Q) X.xe s
def evOp (o : Sto → D → D → Option D) (a b : Ev) : Ev := fun ρ st => (a ρ st).bind fun x st1 => (b ρ st1).bind fun y st2 => .lift (o st2 x y) st2
theorem e_op {op : Operator} {o : Sto → D → D → Option D} {fa fb : Ev} (ho : OpS X (binaryOp op) o) (ha : PE X a (tE X.K W fa)) (hb : PE X b (tE X.K W fb)) : PE X (.BinOp a op b pos) (tE X.K W (evOp o fa fb)) := by
  refine ⟨fun pins s σ H Q I h => ?_⟩
  obtain ⟨m, ρ, st, hsl, hst, hp⟩ := h
  refine wpAny_BinOp (seqE ha I hsl hst hp fun u s1 v H1 m1 d st1 I1 r1 x1 sl1 y1 rv1 p1 => ?_)
  refine seqE hb I1 sl1 y1 p1 fun t s2 w H2 m2 d2 st2 I2 r2 x2 sl2 y2 rv2 p2 => ?_
  cases e : o st2 d d2 with
  | none => rw [e] at p2; exact p2.elim
  | some z =>
    rw [e] at p2
    exact ho pins s2 σ H2 m2 st2 d d2 z v w u t Q I2 y2 (rv1.mono x2) rv2 r1 r2 e fun m' H' v' x y r => p2 m' H' x y v' r
theorem e_cmp {op : CmpOp} {o : Sto → D → D → Option D} {fa fb : Ev} (ho : OpS X (compareOp op) o) (ha : PE X a (tE X.K W fa)) (hb : PE X b (tE X.K W fb)) (h1 : behindInMarks op b = false) : PE X (.Compare a [op] [b] pos) (tE X.K W (evOp o fa fb)) := by
  refine ⟨fun pins s σ H Q I h => ?_⟩
  obtain ⟨m, ρ, st, hsl, hst, hp⟩ := h
  refine wpAny_Compare1 (seqE ha I hsl hst hp fun u s1 v H1 m1 d st1 I1 r1 x1 sl1 y1 rv1 p1 => ?_) h1
  refine seqE hb I1 sl1 y1 p1 fun t s2 w H2 m2 d2 st2 I2 r2 x2 sl2 y2 rv2 p2 => ?_
  cases e : o st2 d d2 with
  | none => rw [e] at p2; exact p2.elim
  | some z =>
    rw [e] at p2
    exact ho pins s2 σ H2 m2 st2 d d2 z v w u t Q I2 y2 (rv1.mono x2) rv2 r1 r2 e fun m' H' v' x y r => p2 m' H' x y v' r
/-- a value's truth where it is a bool -/
def asB : D → Option Bool
  | .bl b => some b
  | _ => none
def ebOf (f : Ev) : Eb := fun ρ st => (f ρ st).bind fun d st1 => .lift (asB d) st1
theorem asB_rep {K : PySem.W.Frag} {H : Hp} {d : D} {b : Bool} {v : V} (h : asB d = some b) (r : Rep K m H d v) : v = .bl b := by
  cases d with
  | bl c => cases h; simpa only [Rep] using r
  | _ => cases h
theorem t_cmp {op : CmpOp} {o : Sto → D → D → Option D} {fa fb : Ev} (ho : OpS X (compareOp op) o) (ha : PE X a (tE X.K W fa)) (hb : PE X b (tE X.K W fb)) (h1 : behindInMarks op b = false) : PT X (.Compare a [op] [b] pos) (tT X.K W (ebOf (evOp o fa fb))) := by
  refine ⟨fun pins s σ H Q I h => ?_⟩
  obtain ⟨m, ρ, st, hsl, hst, hp⟩ := h
  have hp' : Post X.K W σ m H ((fa ρ st).bind fun x st1 => ((fb ρ st1).bind fun y st2 => (R.lift (o st2 x y) st2).bind fun d st3 => .lift (asB d) st3)) (fun b _ _ H' => Q b H') := by
    have e : (ebOf (evOp o fa fb)) ρ st = ((fa ρ st).bind fun x st1 => ((fb ρ st1).bind fun y st2 => (R.lift (o st2 x y) st2).bind fun d st3 => .lift (asB d) st3)) := by
      unfold ebOf evOp
      cases fa ρ st with
      | ok x st1 =>
        simp only [R.bind_ok]
        cases fb ρ st1 <;> rfl
      | _ => rfl
    rw [← e]; exact hp
  refine wpAny_isTrue_Compare1 (seqE ha I hsl hst hp' fun u s1 v H1 m1 d st1 I1 r1 x1 sl1 y1 rv1 p1 => ?_) h1
  refine seqE hb I1 sl1 y1 p1 fun t s2 w H2 m2 d2 st2 I2 r2 x2 sl2 y2 rv2 p2 => ?_
  cases e : o st2 d d2 with
  | none => rw [e] at p2; exact p2.elim
  | some z =>
    rw [e] at p2
    cases e2 : asB z with
    | none => simp only [R.lift_some, R.bind_ok, e2] at p2; exact p2.elim
    | some b =>
      simp only [R.lift_some, R.bind_ok, e2] at p2
      refine thn (ho pins s2 σ H2 m2 st2 d d2 z v w u t (fun v' H' => v' = .bl b ∧ Q b H') I2 y2 (rv1.mono x2) rv2 r1 r2 e fun m' H' v' x y r => ⟨asB_rep e2 r, p2 m' H' x y⟩) fun c s3 hc => ?_
      obtain ⟨v', H3, I3, r3, rfl, q3⟩ := hc
      cases r3
      exact wpAny_truthy_bool ⟨H3, I3, q3⟩
theorem t_val {f : Ev} (h : PE X e (tE X.K W f)) (he : ∀ whole, isTrue e X.env whole = (do let v ← whole; standAt e.pos; holding [v] (truthy v))) : PT X e (tT X.K W (ebOf f)) := by
  refine ⟨fun pins s σ H Q I hw => ?_⟩
  obtain ⟨m, ρ, st, hsl, hst, hp⟩ := hw
  refine isTrue_plain (seqE h I hsl hst hp fun u s1 v H1 m1 d st1 I1 r1 x1 sl1 y1 rv1 p1 => ?_) (he _)
  cases e2 : asB d with
  | none => rw [e2] at p1; exact p1.elim
  | some b =>
    rw [e2] at p1
    obtain rfl := asB_rep e2 rv1
    cases r1
    exact wpAny_truthy_bool ⟨H1, I1, p1 m1 H1 .refl y1⟩
/-! ### and, or, not, if else -/
def ebAnd (a b : Eb) : Eb := fun ρ st => (a ρ st).bind fun x st1 => if x = true then b ρ st1 else .ok false st1
def ebOr (a b : Eb) : Eb := fun ρ st => (a ρ st).bind fun x st1 => if x = true then .ok true st1 else b ρ st1
def ebNot (a : Eb) : Eb := fun ρ st => (a ρ st).bind fun x st1 => .ok (!x) st1
variable {rest : List Expr} {fa fb : Eb}
theorem t_and1 (ha : PT X a (tT X.K W fa)) : PW X (.BoolOp .And [a] pos) (tT X.K W fa) := pw_and1 ha
theorem t_or1 (ha : PT X a (tT X.K W fa)) : PW X (.BoolOp .Or [a] pos) (tT X.K W fa) := pw_or1 ha
theorem t_and (ha : PT X a (tT X.K W fa)) (hb : PW X (.BoolOp .And (b :: rest) pos) (tT X.K W fb)) : PW X (.BoolOp .And (a :: b :: rest) pos) (tT X.K W (ebAnd fa fb)) := by
  refine ⟨fun wh pins s σ H Q I h => ?_⟩
  obtain ⟨m, ρ, st, hsl, hst, hp⟩ := h
  refine isTrue_and (seqT ha I hsl hst hp fun c s1 H1 m1 st1 I1 x1 sl1 y1 p1 => ?_)
  cases c with
  | true => exact hb.run wh pins s1 σ H1 Q I1 ⟨m1, ρ, st1, sl1, y1, by simpa using p1⟩
  | false => exact ⟨H1, I1, by simpa using (show Post X.K W σ m1 H1 (.ok false st1) _ from by simpa using p1) m1 H1 .refl y1⟩
theorem t_or (ha : PT X a (tT X.K W fa)) (hb : PW X (.BoolOp .Or (b :: rest) pos) (tT X.K W fb)) : PW X (.BoolOp .Or (a :: b :: rest) pos) (tT X.K W (ebOr fa fb)) := by
  refine ⟨fun wh pins s σ H Q I h => ?_⟩
  obtain ⟨m, ρ, st, hsl, hst, hp⟩ := h
  refine isTrue_or (seqT ha I hsl hst hp fun c s1 H1 m1 st1 I1 x1 sl1 y1 p1 => ?_)
  cases c with
  | false => exact hb.run wh pins s1 σ H1 Q I1 ⟨m1, ρ, st1, sl1, y1, by simpa using p1⟩
  | true => exact ⟨H1, I1, by simpa using (show Post X.K W σ m1 H1 (.ok true st1) _ from by simpa using p1) m1 H1 .refl y1⟩
theorem t_not (ha : PT X a (tT X.K W fa)) : PT X (.UnaryOp .Not a pos) (tT X.K W (ebNot fa)) := by
  refine ⟨fun pins s σ H Q I h => ?_⟩
  obtain ⟨m, ρ, st, hsl, hst, hp⟩ := h
  refine isTrue_not (seqT ha I hsl hst hp fun c s1 H1 m1 st1 I1 x1 sl1 y1 p1 => ?_)
  exact ⟨H1, I1, p1 m1 H1 .refl y1⟩
/-- as values: all but the last are bools -/
def evAnd (a b : Ev) : Ev := fun ρ st => (a ρ st).bind fun x st1 => match x with
  | .bl true => b ρ st1
  | .bl false => .ok (.bl false) st1
  | _ => .bad
def evOr (a b : Ev) : Ev := fun ρ st => (a ρ st).bind fun x st1 => match x with
  | .bl false => b ρ st1
  | .bl true => .ok (.bl true) st1
  | _ => .bad
def evNot (a : Ev) : Ev := fun ρ st => (a ρ st).bind fun x st1 => match x with
  | .bl b => .ok (.bl (!b)) st1
  | _ => .bad
variable {va vb : Ev}
theorem e_one {op} (h : PE X a (tE X.K W va)) : PE X (.BoolOp op [a] pos) (tE X.K W va) := pe_one h
theorem e_and (ha : PE X a (tE X.K W va)) (hb : PE X (.BoolOp .And (b :: rest) pos) (tE X.K W vb)) : PE X (.BoolOp .And (a :: b :: rest) pos) (tE X.K W (evAnd va vb)) := by
  refine ⟨fun pins s σ H Q I h => ?_⟩
  obtain ⟨m, ρ, st, hsl, hst, hp⟩ := h
  refine BoolOp_and (seqE ha I hsl hst hp fun u s1 v H1 m1 d st1 I1 r1 x1 sl1 y1 rv1 p1 => ?_)
  cases d with
  | bl k =>
    obtain rfl : v = .bl k := by simpa only [Rep] using rv1
    cases r1
    refine wpAny_truthy_bool ?_
    cases k with
    | true => exact hb.run pins s1 σ H1 Q I1 ⟨m1, ρ, st1, sl1, y1, p1⟩
    | false => exact ⟨.bl false, H1, I1, rfl, p1 m1 H1 .refl y1 _ (by simp only [Rep])⟩
  | _ => exact p1.elim
theorem e_or (ha : PE X a (tE X.K W va)) (hb : PE X (.BoolOp .Or (b :: rest) pos) (tE X.K W vb)) : PE X (.BoolOp .Or (a :: b :: rest) pos) (tE X.K W (evOr va vb)) := by
  refine ⟨fun pins s σ H Q I h => ?_⟩
  obtain ⟨m, ρ, st, hsl, hst, hp⟩ := h
  refine BoolOp_or (seqE ha I hsl hst hp fun u s1 v H1 m1 d st1 I1 r1 x1 sl1 y1 rv1 p1 => ?_)
  cases d with
  | bl k =>
    obtain rfl : v = .bl k := by simpa only [Rep] using rv1
    cases r1
    refine wpAny_truthy_bool ?_
    cases k with
    | false => exact hb.run pins s1 σ H1 Q I1 ⟨m1, ρ, st1, sl1, y1, p1⟩
    | true => exact ⟨.bl true, H1, I1, rfl, p1 m1 H1 .refl y1 _ (by simp only [Rep])⟩
  | _ => exact p1.elim
theorem e_not (ha : PE X a (tE X.K W va)) : PE X (.UnaryOp .Not a pos) (tE X.K W (evNot va)) := by
  refine ⟨fun pins s σ H Q I h => ?_⟩
  obtain ⟨m, ρ, st, hsl, hst, hp⟩ := h
  refine UnaryOp_ (seqE ha I hsl hst hp fun u s1 v H1 m1 d st1 I1 r1 x1 sl1 y1 rv1 p1 => ?_)
  cases d with
  | bl k =>
    obtain rfl : v = .bl k := by simpa only [Rep] using rv1
    cases r1
    exact not_of (wpAny_truthy_bool ⟨.bl (!k), H1, I1, rfl, p1 m1 H1 .refl y1 _ (by simp only [Rep])⟩)
  | _ => exact p1.elim
def evIf (t : Eb) (a b : Ev) : Ev := fun ρ st => (t ρ st).bind fun x st1 => if x = true then a ρ st1 else b ρ st1
theorem e_if {f : Eb} (hc : PT X c (tT X.K W f)) (ha : PE X a (tE X.K W va)) (hb : PE X b (tE X.K W vb)) : PE X (.IfExp c a b pos) (tE X.K W (evIf f va vb)) := by
  refine ⟨fun pins s σ H Q I h => ?_⟩
  obtain ⟨m, ρ, st, hsl, hst, hp⟩ := h
  refine wpAny_IfExp (seqT hc I hsl hst hp fun k s1 H1 m1 st1 I1 x1 sl1 y1 p1 => ?_)
  cases k with
  | true => exact ha.run pins s1 σ H1 Q I1 ⟨m1, ρ, st1, sl1, y1, by simpa using p1⟩
  | false => exact hb.run pins s1 σ H1 Q I1 ⟨m1, ρ, st1, sl1, y1, by simpa using p1⟩
/-! ### arguments, displays -/
def eaNil : Ea := fun _ st => .ok [] st
def eaCons (a : Ev) (r : Ea) : Ea := fun ρ st => (a ρ st).bind fun x st1 => (r ρ st1).bind fun xs st2 => .ok (x :: xs) st2
theorem a_nil : PA X [] (tA X.K W eaNil) := by
  refine ⟨fun pos pins s σ H Q I h => ?_⟩
  obtain ⟨m, ρ, st, hsl, hst, hp⟩ := h
  exact pa_nil.run pos pins s σ H Q I (hp m H .refl hst [] .nil)
theorem a_cons {f : Ev} {g : Ea} (ha : PE X e (tE X.K W f)) (hr : PA X es (tA X.K W g)) (hst : starEach (e :: es) X.env = (false, eval e X.env) :: starEach es X.env) : PA X (e :: es) (tA X.K W (eaCons f g)) := by
  refine ⟨fun pos pins s σ H Q I h => ?_⟩
  obtain ⟨m, ρ, st, hsl, hst', hp⟩ := h
  refine (pa_cons (t := tA X.K W g) ha hr hst).run pos pins s σ H Q I ?_
  refine ⟨m, ρ, st, hsl, hst', hp.bind.imp fun d st1 m1 H1 x1 y1 p1 v rv => ?_⟩
  refine ⟨m1, ρ, st1, hsl.mono x1, y1, p1.bind.imp fun ds st2 m2 H2 x2 y2 p2 vs rvs => ?_⟩
  exact p2 m2 H2 .refl y2 _ (.cons (rv.mono x2) rvs)
/-- a tuple of at most 1,000 items -/
def evTup (g : Ea) : Ev := fun ρ st => (g ρ st).bind fun ds st1 => if ds.length ≤ 1000 then .ok (.tup ds) st1 else .bad
theorem small_line {n : Nat} (h : n ≤ 1000) : n ≤ sizeLine := Nat.le_of_lt (small1000 h)
end
end Ip
set_option Elab.async false
set_option linter.all false
set_option maxRecDepth 100000
set_option maxHeartbeats 4000000
namespace Ip
open PySem PySem.Spec PyProof.Rows L2

theorem PE_imp {X : Cx} {e : Expr} {t t' : TE} (h : PE X e t) (k : ∀ σ H Q, t' σ H Q → t σ H Q) : PE X e t' := ⟨fun pins s σ H Q I q => h.run pins s σ H Q I (k σ H Q q)⟩
theorem PS_imp {X : Cx} {e : Stmt} {t t' : TS} (h : PS X e t) (k : ∀ D σ H, t' D σ H → t D σ H) : PS X e t' := ⟨fun pins s σ H D I q => h.run pins s σ H D I (k D σ H q)⟩
section
variable {K : PySem.W.Frag} {W : WX} {σ : L2.St} {H : Hp} {m : MX} {ρ : Sl} {st : Sto} {α β : Type}
theorem tE_seq {f : Ev} (hsl : RepSl K m H ρ σ) (hst : RepSt K m H st) {g : D → Sto → R β} {P : β → Sto → MX → Hp → Prop} (hp : Post K W σ m H ((f ρ st).bind g) P) {Q : VK}
    (k : ∀ v H1 m1 d st1, Ext K m H m1 H1 → RepSl K m1 H1 ρ σ → RepSt K m1 H1 st1 → Rep K m1 H1 d v → Post K W σ m1 H1 (g d st1) P → Q v H1) : tE K W f σ H Q :=
  ⟨m, ρ, st, hsl, hst, hp.bind.imp fun d st1 m1 H1 x y q v rv => k v H1 m1 d st1 x (hsl.mono x) y rv q⟩
theorem tA_seq {f : Ea} (hsl : RepSl K m H ρ σ) (hst : RepSt K m H st) {g : List D → Sto → R β} {P : β → Sto → MX → Hp → Prop} (hp : Post K W σ m H ((f ρ st).bind g) P) {Q : List V → Hp → Prop}
    (k : ∀ vs H1 m1 ds st1, Ext K m H m1 H1 → RepSl K m1 H1 ρ σ → RepSt K m1 H1 st1 → Reps K m1 H1 ds vs → Post K W σ m1 H1 (g ds st1) P → Q vs H1) : tA K W f σ H Q :=
  ⟨m, ρ, st, hsl, hst, hp.bind.imp fun ds st1 m1 H1 x y q v rv => k v H1 m1 ds st1 x (hsl.mono x) y rv q⟩
theorem tT_seq {f : Eb} (hsl : RepSl K m H ρ σ) (hst : RepSt K m H st) {g : Bool → Sto → R β} {P : β → Sto → MX → Hp → Prop} (hp : Post K W σ m H ((f ρ st).bind g) P) {Q : Bool → Hp → Prop}
    (k : ∀ b H1 m1 st1, Ext K m H m1 H1 → RepSl K m1 H1 ρ σ → RepSt K m1 H1 st1 → Post K W σ m1 H1 (g b st1) P → Q b H1) : tT K W f σ H Q :=
  ⟨m, ρ, st, hsl, hst, hp.bind.imp fun b st1 m1 H1 x y q => k b H1 m1 st1 x (hsl.mono x) y q⟩
theorem Rep.lst_new {p : Addr} {ds : List D} {vs : List V} (hst : RepSt K m H st) (hn : H p = none) (r : Reps K m H ds vs) : Rep K m (upd H p (.lst vs)) (.lst ds) (.ref p) := by
  simp only [Rep]
  exact ⟨p, vs, rfl, .inl upd_same, fresh_nin hst hn, r.mono (.new hn)⟩
theorem Rep.tup_new {p : Addr} {ds : List D} {vs : List V} (hn : H p = none) (r : Reps K m H ds vs) : Rep K m (upd H p (.tup vs)) (.tup ds) (.ref p) := by
  simp only [Rep]
  exact ⟨p, vs, rfl, .inl (.inl upd_same), r.mono (.new hn)⟩
end
/-- the items of a sequence: of a list that may be joined, of any list, of a list or tuple -/
def itemsR (st : Sto) : D → Option (List D)
  | .lst xs => some xs
  | .ref n => st[n]?
  | _ => none
def itemsL (st : Sto) : D → Option (List D)
  | .lst xs => some xs
  | .scr xs => some xs
  | .ref n => st[n]?
  | _ => none
def items (st : Sto) : D → Option (List D)
  | .tup xs => some xs
  | .lst xs => some xs
  | .scr xs => some xs
  | .ref n => st[n]?
  | _ => none
section
variable {K : PySem.W.Frag} {W : WX} {σ : L2.St} {H : Hp} {m : MX} {ρ : Sl} {st : Sto} {d : D} {xs : List D} {v : V}
theorem ref_rep {n : Nat} (hst : RepSt K m H st) (h : st[n]? = some xs) (r : Rep K m H (.ref n) v) : ∃ a vs, v = .ref a ∧ H a = some (.lst vs) ∧ m.l[n]? = some a ∧ Reps K m H xs vs := by
  simp only [Rep] at r
  obtain ⟨a, rfl, h1⟩ := r
  obtain ⟨b, vs, e1, e2, e3⟩ := hst.get h
  rw [h1] at e1; cases e1
  exact ⟨a, vs, rfl, e2, h1, e3⟩
theorem itemsR_rep (hst : RepSt K m H st) (h : itemsR st d = some xs) (r : Rep K m H d v) : ∃ a vs, v = .ref a ∧ Rd H a (.lst vs) ∧ Reps K m H xs vs := by
  cases d with
  | lst ys =>
    cases h
    simp only [Rep] at r
    obtain ⟨a, vs, rfl, h1, _, h2⟩ := r
    exact ⟨a, vs, rfl, h1, h2⟩
  | ref n =>
    obtain ⟨a, vs, rfl, e2, _, e3⟩ := ref_rep hst h r
    exact ⟨a, vs, rfl, .inl e2, e3⟩
  | _ => cases h
theorem itemsL_rep (hst : RepSt K m H st) (h : itemsL st d = some xs) (r : Rep K m H d v) : ∃ a vs, v = .ref a ∧ SqL K H a vs ∧ Reps K m H xs vs := by
  cases d with
  | scr ys =>
    cases h
    simp only [Rep] at r
    obtain ⟨a, vs, rfl, h1, h2⟩ := r
    exact ⟨a, vs, rfl, h1.elim (fun z => .inl z.1) fun z => z H, h2⟩
  | lst ys =>
    obtain ⟨a, vs, e, h1, h2⟩ := itemsR_rep (d := .lst ys) hst h r
    exact ⟨a, vs, e, .inl h1, h2⟩
  | ref n =>
    obtain ⟨a, vs, e, h1, h2⟩ := itemsR_rep (d := .ref n) hst h r
    exact ⟨a, vs, e, .inl h1, h2⟩
  | _ => cases h
theorem items_rep (hst : RepSt K m H st) (h : items st d = some xs) (r : Rep K m H d v) : ∃ a vs, v = .ref a ∧ (SqL K H a vs ∨ SqT K H a vs) ∧ Reps K m H xs vs := by
  have go : itemsL st d = some xs → ∃ a vs, v = .ref a ∧ (SqL K H a vs ∨ SqT K H a vs) ∧ Reps K m H xs vs := fun h => by
    obtain ⟨a, vs, e, h1, h2⟩ := itemsL_rep hst h r
    exact ⟨a, vs, e, .inl h1, h2⟩
  cases d with
  | tup ys =>
    cases h
    simp only [Rep] at r
    obtain ⟨a, vs, rfl, h1, h2⟩ := r
    exact ⟨a, vs, rfl, .inr h1, h2⟩
  | lst _ => exact go h
  | scr _ => exact go h
  | ref _ => exact go h
  | _ => cases h
theorem tup_rep (r : Rep K m H (.tup xs) v) : ∃ a vs, v = .ref a ∧ SqT K H a vs ∧ Reps K m H xs vs := by simpa only [Rep] using r
end
section
variable {X : Cx} {W : WX} {pins : List (Addr × Obj)} {σ : L2.St} {H : Hp} {s : Shared} {m : MX} {ρ : Sl} {st : Sto} {α β : Type}
variable {e a b c : Expr} {es : List Expr} {pos p2 : Pos}
/-! ### displays -/
theorem e_tup {g : Ea} {k : Nat} (h : PA X es (tA X.K W g)) : PE X (.Tuple es k pos) (tE X.K W (evTup g)) := by
  refine PE_imp (pe_tup h) fun σ H Q hw => ?_
  obtain ⟨m, ρ, st, hsl, hst, hp⟩ := hw
  refine tA_seq hsl hst hp fun vs H1 m1 ds st1 x sl1 y rv p => ?_
  by_cases hl : ds.length ≤ 1000
  · rw [if_pos hl] at p
    refine ⟨by rw [rv.len]; exact small_line hl, fun t ht => ?_⟩
    exact p m1 _ (.new ht) (y.new ht) _ (.tup_new ht rv)
  · rw [if_neg hl] at p; exact p.elim
def elDisp (g : Ea) : Ea := fun ρ st => (g ρ st).bind fun ds st1 => if ds.length ≤ 1000 then .ok ds st1 else .bad
theorem n_disp {g : Ea} (h : PA X es (tA X.K W g)) : PE X (.List es pos) (tN X.K W (elDisp g)) := by
  refine PE_imp (pe_lst h) fun σ H Q hw => ?_
  obtain ⟨m, ρ, st, hsl, hst, hp⟩ := hw
  refine tA_seq hsl hst hp fun vs H1 m1 ds st1 x sl1 y rv p => ?_
  by_cases hl : ds.length ≤ 1000
  · rw [if_pos hl] at p
    have hz : vs.length ≤ sizeLine := by rw [rv.len]; exact small_line hl
    exact ⟨hz, fun t ht => p m1 H1 .refl y t vs ht rv hz⟩
  · rw [if_neg hl] at p; exact p.elim
/-- a new list as a value; as a mutable list -/
def evL (g : Ea) : Ev := fun ρ st => (g ρ st).bind fun ds st1 => .ok (.lst ds) st1
def evM (g : Ea) : Ev := fun ρ st => (g ρ st).bind fun ds st1 => .ok (.ref st1.length) (st1 ++ [ds])
theorem e_ofN {g : Ea} (h : PE X e (tN X.K W g)) : PE X e (tE X.K W (evL g)) := by
  refine PE_imp h fun σ H Q hw => ?_
  obtain ⟨m, ρ, st, hsl, hst, hp⟩ := hw
  exact ⟨m, ρ, st, hsl, hst, hp.bind.imp fun ds st1 m1 H1 x y q a vs ha rv hz => q m1 _ (.new ha) (y.new ha) _ (.lst_new y ha rv)⟩
theorem e_ofM {g : Ea} (h : PE X e (tN X.K W g)) : PE X e (tE X.K W (evM g)) := by
  refine PE_imp h fun σ H Q hw => ?_
  obtain ⟨m, ρ, st, hsl, hst, hp⟩ := hw
  refine ⟨m, ρ, st, hsl, hst, hp.bind.imp fun ds st1 m1 H1 x y q p vs ha rv hz => q (m1.add [p]) _ ((Ext.new ha).grow ha) (y.grow ha rv) _ ?_⟩
  simp only [Rep]
  refine ⟨p, rfl, ?_⟩
  show (m1.l ++ [p])[st1.length]? = _
  rw [List.getElem?_append_right (by rw [y.len]; exact Nat.le_refl _), y.len]
  simp

/-! ### subscripts -/
def oIx (st : Sto) (x i : D) : Option D := match i with
  | .int k => (items st x).bind fun xs => atI xs k
  | _ => none
theorem atI_reps {K : PySem.W.Frag} {m : MX} {H : Hp} {xs : List D} {vs : List V} {k : Int} {d : D} (r : Reps K m H xs vs) (h : atI xs k = some d) : ∃ v, atI vs k = some v ∧ Rep K m H d v := by
  unfold atI at h ⊢
  rw [r.len]
  cases e : ixN xs.length k with
  | none => rw [e] at h; cases h
  | some j =>
    rw [e] at h
    exact r.get h
theorem e_ix {fa fb : Ev} (ha : PE X a (tE X.K W fa)) (hb : PE X b (tE X.K W fb)) (hs : PlainIx b) : PE X (.Subscript a b pos) (tE X.K W (evOp oIx fa fb)) := by
  refine PE_imp (pe_ix ix_seq ha hb hs) fun σ H Q hw => ?_
  obtain ⟨m, ρ, st, hsl, hst, hp⟩ := hw
  refine tE_seq hsl hst hp fun v H1 m1 d st1 x1 sl1 y1 rv1 p1 => ?_
  refine tE_seq sl1 y1 p1 fun w H2 m2 d2 st2 x2 sl2 y2 rv2 p2 => ?_
  have hp2 := p2
  cases d2 with
  | int k =>
    obtain rfl : w = .int k := by simpa only [Rep] using rv2
    cases e : items st2 d with
    | none => simp only [oIx, e] at hp2; exact hp2.elim
    | some xs =>
      simp only [oIx, e, Option.bind_some] at hp2
      cases e2 : atI xs k with
      | none => rw [e2] at hp2; exact hp2.elim
      | some z =>
        rw [e2] at hp2
        obtain ⟨a, vs, rfl, h1, h2⟩ := items_rep y2 e (rv1.mono x2)
        obtain ⟨z', e3, r3⟩ := atI_reps h2 e2
        have fin := hp2 m2 H2 .refl y2 z' r3
        rcases h1 with h1 | h1
        · exact .inl ⟨a, vs, k, z', rfl, rfl, h1, e3, fin⟩
        · exact .inr (.inl ⟨a, vs, k, z', rfl, rfl, h1, e3, fin⟩)
  | _ => exact hp2.elim
/-- bounds of a slice -/
abbrev Eo := Sl → Sto → R (Option Int)
def eoNone : Eo := fun _ st => .ok none st
def eoSome (f : Ev) : Eo := fun ρ st => (f ρ st).bind fun d st1 => match d with
  | .int i => .ok (some i) st1
  | _ => .bad
def tO (K : PySem.W.Frag) (W : WX) (f : Eo) : TO := fun σ H Q => ∃ m ρ st, RepSl K m H ρ σ ∧ RepSt K m H st ∧ Post K W σ m H (f ρ st) fun o _ _ H' => Q o H'
theorem tO_seq {K : PySem.W.Frag} {f : Eo} (hsl : RepSl K m H ρ σ) (hst : RepSt K m H st) {g : Option Int → Sto → R β} {P : β → Sto → MX → Hp → Prop} (hp : Post K W σ m H ((f ρ st).bind g) P) {Q : Option Int → Hp → Prop}
    (k : ∀ o H1 m1 st1, Ext K m H m1 H1 → RepSl K m1 H1 ρ σ → RepSt K m1 H1 st1 → Post K W σ m1 H1 (g o st1) P → Q o H1) : tO K W f σ H Q :=
  ⟨m, ρ, st, hsl, hst, hp.bind.imp fun b st1 m1 H1 x y q => k b H1 m1 st1 x (hsl.mono x) y q⟩
theorem PO_imp {X : Cx} {e : Option Expr} {t t' : TO} (h : PO X e t) (k : ∀ σ H Q, t' σ H Q → t σ H Q) : PO X e t' := ⟨fun pins s σ H Q I q => h.run pins s σ H Q I (k σ H Q q)⟩
theorem o_none : PO X none (tO X.K W eoNone) := PO_imp po_none fun σ H Q ⟨m, ρ, st, hsl, hst, hp⟩ => hp m H .refl hst
theorem o_some {f : Ev} (h : PE X e (tE X.K W f)) : PO X (some e) (tO X.K W (eoSome f)) := by
  refine PO_imp (po_some h) fun σ H Q hw => ?_
  obtain ⟨m, ρ, st, hsl, hst, hp⟩ := hw
  refine tE_seq hsl hst hp fun v H1 m1 d st1 x1 sl1 y1 rv1 p1 => ?_
  cases d with
  | int k =>
    obtain rfl : v = .int k := by simpa only [Rep] using rv1
    exact ⟨k, rfl, p1 m1 H1 .refl y1⟩
  | _ => exact p1.elim
def cutD {α : Type} (xs : List α) (lo hi : Option Int) : List α := (xs.drop (HT.sIx xs.length 0 lo)).take (HT.sIx xs.length xs.length hi - HT.sIx xs.length 0 lo)
def oSl (st : Sto) (x : D) (lo hi : Option Int) : Option D := match x with
  | .tup xs => some (.tup (cutD xs lo hi))
  | .lst xs => some (.lst (cutD xs lo hi))
  | .scr xs => some (.lst (cutD xs lo hi))
  | .ref n => (st[n]?).map fun xs => .lst (cutD xs lo hi)
  | .str z => if z.length ≤ 1000000 then some (.str (cutS z lo hi)) else none
  | _ => none
def evSl (f : Ev) (l h : Eo) : Ev := fun ρ st => (f ρ st).bind fun x st1 => (l ρ st1).bind fun lo st2 => (h ρ st2).bind fun hi st3 => .lift (oSl st3 x lo hi) st3
theorem cut_reps {K : PySem.W.Frag} {m : MX} {H : Hp} {xs : List D} {vs : List V} {lo hi : Option Int} (r : Reps K m H xs vs) : Reps K m H (cutD xs lo hi) (cutV vs lo hi) := by
  unfold cutD cutV
  rw [r.len]
  exact (r.drop _).take _
theorem cutD_whole {α : Type} {xs : List α} {lo hi : Option Int} (h : HT.sIx xs.length 0 lo = 0 ∧ HT.sIx xs.length xs.length hi = xs.length) : cutD xs lo hi = xs := by
  unfold cutD
  rw [h.1, h.2]
  simp
theorem e_slice {f : Ev} {l h : Eo} {lo hi : Option Expr} (he : PE X e (tE X.K W f)) (hl : PO X lo (tO X.K W l)) (hu : PO X hi (tO X.K W h)) : PE X (.Subscript e (.Slice lo hi none p2) pos) (tE X.K W (evSl f l h)) := by
  refine PE_imp (pe_slice (sl_tupA.or (sl_list.or sl_str)) he hl hu) fun σ H Q hw => ?_
  obtain ⟨m, ρ, st, hsl, hst, hp⟩ := hw
  refine tE_seq hsl hst hp fun v H1 m1 d st1 x1 sl1 y1 rv1 p1 => ?_
  refine tO_seq sl1 y1 p1 fun lo H2 m2 st2 x2 sl2 y2 p2 => ?_
  refine tO_seq sl2 y2 p2 fun hi H3 m3 st3 x3 sl3 y3 p3 => ?_
  have rv := (rv1.mono x2).mono x3
  have lst : ∀ xs, itemsL st3 d = some xs → oSl st3 d lo hi = some (.lst (cutD xs lo hi)) → rSlL X.K v lo hi H3 Q := fun xs e eo => by
    rw [eo] at p3
    obtain ⟨a, vs, rfl, h1, h2⟩ := itemsL_rep y3 e rv
    exact ⟨a, vs, rfl, h1, fun p hp => p3 m3 _ (.new hp) (y3.new hp) _ (.lst_new y3 hp (cut_reps h2))⟩
  cases d with
  | tup xs =>
    obtain ⟨a, vs, rfl, h1, h2⟩ := tup_rep rv
    have p3 : Post X.K W σ m3 H3 (.ok (.tup (cutD xs lo hi)) st3) (PQ X.K Q) := p3
    refine .inl ⟨a, vs, rfl, h1, fun hw => ?_, fun hw p hp => ?_⟩
    · rw [h2.len] at hw
      have e := cutD_whole (xs := xs) hw
      rw [e] at p3
      exact p3 m3 H3 .refl y3 _ rv
    · exact p3 m3 _ (.new hp) (y3.new hp) _ (.tup_new hp (cut_reps h2))
  | lst xs => exact .inr (.inl (lst xs rfl rfl))
  | scr xs => exact .inr (.inl (lst xs rfl rfl))
  | ref n =>
    cases e : st3[n]? with
    | none =>
      have p3 : Post X.K W σ m3 H3 (R.lift ((st3[n]?).map fun xs => D.lst (cutD xs lo hi)) st3) (PQ X.K Q) := p3
      rw [e] at p3; exact p3.elim
    | some xs => exact .inr (.inl (lst xs e (by show (st3[n]?).map _ = _; rw [e]; rfl)))
  | str z =>
    obtain rfl : v = .str z := by simpa only [Rep] using rv
    have p3 : Post X.K W σ m3 H3 (R.lift (if z.length ≤ 1000000 then some (.str (cutS z lo hi)) else none) st3) (PQ X.K Q) := p3
    by_cases hz : z.length ≤ 1000000
    · rw [if_pos hz] at p3
      exact .inr (.inr ⟨z, rfl, Nat.le_trans hz (by decide), p3 m3 H3 .refl y3 _ (by simp only [Rep])⟩)
    · rw [if_neg hz] at p3; exact p3.elim
  | _ => exact p3.elim
/-! ### a chain of two comparisons -/
def evChain (o o' : Sto → D → D → Option D) (a b c : Ev) : Ev := fun ρ st => (a ρ st).bind fun x st1 => (b ρ st1).bind fun y st2 => (R.lift (o st2 x y) st2).bind fun z st3 => match z with
  | .bl true => (c ρ st3).bind fun w st4 => .lift (o' st4 y w) st4
  | .bl false => .ok (.bl false) st3
  | _ => .bad
theorem e_chain {op op' : CmpOp} {o o' : Sto → D → D → Option D} {fa fb fc : Ev} (ho : OpS X (compareOp op) o) (ho' : OpS X (compareOp op') o') (ha : PE X a (tE X.K W fa)) (hb : PE X b (tE X.K W fb)) (hc : PE X c (tE X.K W fc))
    (hm : lastMarks [op, op'] [b, c] = false) : PE X (.Compare a [op, op'] [b, c] pos) (tE X.K W (evChain o o' fa fb fc)) := by
  refine ⟨fun pins s σ H Q I h => ?_⟩
  obtain ⟨m, ρ, st, hsl, hst, hp⟩ := h
  refine Compare_chain (seqE ha I hsl hst hp fun u s1 v H1 m1 d st1 I1 r1 x1 sl1 y1 rv1 p1 => ?_) hm
  refine chain_link (seqE hb I1 sl1 y1 p1 fun t s2 w H2 m2 d2 st2 I2 r2 x2 sl2 y2 rv2 p2 => ?_)
  cases e : o st2 d d2 with
  | none => rw [e] at p2; exact p2.elim
  | some z =>
    rw [e] at p2
    refine thn (ho pins s2 σ H2 m2 st2 d d2 z v w u t (fun v' H' => ∃ m', Ext X.K m2 H2 m' H' ∧ RepSt X.K m' H' st2 ∧ Rep X.K m' H' z v') I2 y2 (rv1.mono x2) rv2 r1 r2 e fun m' H' v' x y r => ⟨m', x, y, r⟩) fun c' s3 hc3 => ?_
    obtain ⟨v', H3, I3, r3, m3, x3, y3, rv3⟩ := hc3
    have p3 := Post.ext x3 p2
    cases z with
    | bl k =>
      obtain rfl : v' = .bl k := by simpa only [Rep] using rv3
      cases r3
      refine wpAny_truthy_bool ?_
      cases k with
      | false => exact ite_ff ⟨.bl false, H3, I3, rfl, p3 m3 H3 .refl y3 _ (by simp only [Rep])⟩
      | true =>
        refine ite_tt (chain_last (seqE hc I3 (sl2.mono x3) y3 p3 fun w' s4 z' H4 m4 d4 st4 I4 r4 x4 sl4 y4 rv4 p4 => ?_))
        cases e2 : o' st4 d2 d4 with
        | none => rw [e2] at p4; exact p4.elim
        | some q =>
          rw [e2] at p4
          exact ho' pins s4 σ H4 m4 st4 d2 d4 q w z' t w' Q I4 y4 ((rv2.mono x3).mono x4) rv4 r2 r4 e2 fun m' H' v' x y r => p4 m' H' x y v' r
    | _ => exact p3.elim
end
end Ip
set_option Elab.async false
set_option linter.all false
set_option maxRecDepth 100000
set_option maxHeartbeats 4000000
namespace Ip
open PySem PySem.Spec PyProof.Rows L2

/-! ### t[::-1] of a tuple -/
section
variable {prog : Program} {w : World} {A : Around} {E : Value → Shared → Prop} {s : Shared}
theorem places_rev (n : Nat) : Builtin.Slice.sliceAdjust none none (-1) (n : Int) = ((n : Int) - 1, -1) := by
  unfold Builtin.Slice.sliceAdjust
  simp
theorem places_rev2 (n : Nat) : Builtin.Slice.slicePlaces ((n : Int) - 1) (-1) (-1) = n := by
  unfold Builtin.Slice.slicePlaces
  simp
  omega
theorem sliceApplied_rev {sl : Addr} {vs : Value} {n : Nat} {Q : Int × Int × Nat → Shared → Prop} (hs : s.heap.IsSliceOf sl .none .none vs) (ps : IsPart vs (some (-1)))
    (h : Q ((n : Int) - 1, -1, n) s) : wpAny (model prog w) A (Builtin.Slice.sliceApplied (.ref sl) (pure (n : Int))) Q E s := by
  obtain ⟨os, hos, hcs, hds⟩ := id hs
  unfold Builtin.Slice.sliceApplied Builtin.Slice.sliceFields
  refine wpAny_bind (wpAny_bind (wpAny_field hos hds (x := .none) rfl (wpAny_bind (wpAny_field hos hds (x := .none) rfl (wpAny_bind (wpAny_field hos hds (x := vs) rfl (wpAny_pure ?_)))))))
  refine wpAny_bind (HT.slicePart_ ps ?_)
  show wpAny _ _ (if ((-1 : Int) == 0) = true then _ else _) _ _ s
  rw [if_neg (by decide)]
  refine wpAny_bind (HT.slicePart_ .none (wpAny_bind (HT.slicePart_ .none (wpAny_bind (wpAny_pure ?_)))))
  show wpAny _ _ (match Builtin.Slice.sliceAdjust none none (-1) (n : Int) with | (lo, hi) => pure (lo, (-1 : Int), Builtin.Slice.slicePlaces lo hi (-1))) _ _ s
  rw [places_rev]
  show wpAny _ _ (pure ((n : Int) - 1, (-1 : Int), Builtin.Slice.slicePlaces ((n : Int) - 1) (-1) (-1))) _ _ s
  rw [places_rev2]
  exact wpAny_pure h
theorem fm_congr {α β : Type} {f g : α → Option β} : ∀ {l : List α}, (∀ x ∈ l, f x = g x) → l.filterMap f = l.filterMap g
  | [], _ => rfl
  | x :: l, h => by
    have ih := fm_congr (f := f) (g := g) (l := l) fun y hy => h y (List.mem_cons_of_mem _ hy)
    rw [List.filterMap_cons, List.filterMap_cons, h x (List.mem_cons_self ..), ih]
theorem pick_rev (xs : Array Value) : ((List.range xs.size).filterMap fun (m : Nat) => xs[(((xs.size : Int) - 1) + (m : Int) * (-1)).toNat]?).toArray = xs.toList.reverse.toArray := by
  have h := PySem.W.krv_all xs
  have e : ((List.range xs.size).filterMap fun (m : Nat) => xs[(((xs.size : Int) - 1) + (m : Int) * (-1)).toNat]?) = (List.range xs.size).filterMap ((xs[·]?) ∘ fun k => xs.size - 1 - k) := fm_congr fun m hm => by
    have := List.mem_range.mp hm
    have e : (((xs.size : Int) - 1) + (m : Int) * (-1)).toNat = xs.size - 1 - m := by omega
    show xs[(((xs.size : Int) - 1) + (m : Int) * (-1)).toNat]? = xs[xs.size - 1 - m]?
    rw [e]
  rw [e, ← List.filterMap_map, PySem.W.krv_range, List.filterMap_reverse, h]
theorem getItem_tuple_rev {t sl : Addr} {items : Array Value} {vs : Value} {Q : Value → Shared → Prop} (ht : IsTup s.heap t items) (hs : s.heap.IsSliceOf sl .none .none vs) (ps : IsPart vs (some (-1)))
    (h : Q (.ref s.heap.objs.size) { s with heap := s.heap.push { cls := .type "tuple", data := .seq items.toList.reverse.toArray } })
    (hsz : items.size ≤ sizeLine) : wpAny (model prog w) A (getItem (.ref t) (.ref sl)) Q E s := by
  have htake : sizeOk (.seq items.toList.reverse.toArray) := by
    show items.toList.reverse.toArray.size ≤ sizeLine
    rw [List.size_toArray, List.length_reverse, Array.length_toList]
    exact hsz
  obtain ⟨os, hos, hcs, hds⟩ := id hs
  have hTs : s.TypeIs (.ref sl) "slice" := ⟨os, hos, hcs⟩
  unfold getItem
  try with_reducible refine wpAny_holding ?_
  first | refine wpAny_bind (wpAny_pure ?_) | skip
  refine wpAny_bind (wpAny_sequenceKey ht.typeIs (by decide) ?_)
  refine wpAny_bind (wpAny_callSpecial?_slot (name := Str.ofString "__getitem__") ht.typeIs PyProof.Rows.slot_tuple_getitem
    (wpAny_call_entry PyProof.Rows.slot_tuple_getitem ht.typeIs entry_tuple_getitem ?_ (args_tuple_getitem _ _)))
  show wpAny _ _ (Builtin.Tuple.tupleItemsOf (.ref t) >>= _) _ _ s
  refine wpAny_bind (tupleItemsOf_ ht ?_)
  refine wpAny_bind (wpAny_typeOf hTs ?_)
  rw [if_pos (by decide)]
  refine wpAny_bind (sliceApplied_rev hs ps ?_)
  have hno : ¬ ((((items.size : Int) - 1) == 0 && (-1 : Int) == 1 && items.size == items.size) = true) := by simp
  show wpAny _ _ (if (((items.size : Int) - 1) == 0 && (-1 : Int) == 1 && items.size == items.size) = true then _ else _) _ _ s
  rw [if_neg hno, pick_rev]
  first
    | exact wpAny_bind (m := Builtin.Tuple.tupleExact _) (wpAny_newObj_type (wpAny_pure ⟨_, rfl, wpAny_pure h⟩) htake)
    | exact wpAny_bind (m := Builtin.Tuple.tupleExact _) (wpAny_newObj_type (wpAny_bind (wpAny_pure (wpAny_pure ⟨_, rfl, wpAny_pure h⟩))) htake)
    | exact wpAny_bind (wpAny_bind (m := Builtin.Tuple.tupleExact _) (wpAny_newObj_type (wpAny_pure (wpAny_pure ⟨_, rfl, wpAny_pure h⟩)) htake))
    | exact wpAny_bind (wpAny_bind (m := Builtin.Tuple.tupleExact _) (wpAny_newObj_type (wpAny_pure ⟨_, rfl, wpAny_pure h⟩) htake))
end
section
variable {X : Cx}
def tRevA (K : PySem.W.Frag) (te : TE) : TE := fun σ H Q => te σ H fun x H1 => ∃ a xs, x = .ref a ∧ ((SqL K H1 a xs ∧ ∀ p, H1 p = none → Q (.ref p) (upd H1 p (.lst xs.reverse))) ∨ (SqT K H1 a xs ∧ ∀ p, H1 p = none → Q (.ref p) (upd H1 p (.tup xs.reverse))))
theorem pe_revA {e : Expr} {te : TE} {k : Nat} {p1 p2 p3 pos : Pos} (he : PE X e te) : PE X (.Subscript e (.Slice none none (some (.UnaryOp .USub (.Constant (.int 1) k p1) p2)) p3) pos) (tRevA X.K te) := by
  refine ⟨fun pins s σ H Q I h => ?_⟩
  refine Subscript_ (thn (he.run pins s σ H _ I h) fun v s1 ⟨x, H1, I1, r1, q1⟩ => ?_)
  obtain ⟨a, xs, ex, q⟩ := q1
  subst ex
  cases r1
  have hst : PO X (some (.UnaryOp .USub (.Constant (.int 1) k p1) p2)) (tPart (tUn (rU fun i => .int (-i)) (tC (.int 1)))) := po_some (pe_un un_neg pe_int)
  refine wpAny_Slice (thn (po_none.run pins s1 σ H1 (fun o H2 => o = none ∧ H2 = H1) I1 ⟨rfl, rfl⟩) fun vl s2 ⟨l, H2, I2, pl, el, e2⟩ => ?_)
  subst el e2
  refine thn (po_none.run pins s2 σ H2 (fun o H3 => o = none ∧ H3 = H2) I2 ⟨rfl, rfl⟩) fun vu s3 ⟨u, H3, I3, pu, eu, e3⟩ => ?_
  subst eu e3
  refine thn (hst.run pins s3 σ H3 (fun o H4 => o = some (-1) ∧ H4 = H3) I3 ⟨1, rfl, -1, rfl, rfl, rfl⟩) fun vs s4 ⟨o, H4, I4, ps, eo, e4⟩ => ?_
  subst eo e4
  have I5 : Inv X pins σ H4 { s4 with heap := s4.heap.push { cls := .type "slice", data := .fields #[vl, vu, vs] } } := I4.kept (t' := s4.toks) fun b ob q => Heap.get?_push_of_some _ q
  show wpAny (model X.prog X.w) X.A (subscriptTail e (.Slice none none (some (.UnaryOp .USub (.Constant (.int 1) k p1) p2)) p3) (.ref a) (.ref s4.heap.objs.size)) (EP X pins σ Q) X.xe { s4 with heap := s4.heap.push { cls := .type "slice", data := .fields #[vl, vu, vs] } }
  rcases q with ⟨hx, q⟩ | ⟨hx, q⟩
  · obtain ⟨its, r, ht, hz⟩ := I5.list hx
    have hlen := r.length
    refine tail_any (ops := [.ref a, .ref s4.heap.objs.size]) ht.isList.typeIs (PySem.slot_list_getitem.lookup) ?_ (by with_unfolding_all rfl)
    refine wpAny_getItem_list_slice ht.isList (Heap.IsSliceOf.new _ vl vu vs) pl pu ps (by decide) ?_ (by rw [List.size_toArray]; omega)
    rw [PySem.W.krv_pick]
    refine ⟨.ref _, _, I5.laid (t' := s4.toks) (o := .lst xs.reverse) (fun b ob q => Heap.get?_push_of_some _ q) (Nat.le_refl _) ?_, rfl, q _ (I5.hok.fresh (Nat.le_refl _))⟩
    exact ⟨by rw [List.length_reverse]; exact hz, _, 0, r.reverse, Heap.get?_push_size _ rfl⟩
  · obtain ⟨its, r, ht, hz⟩ := I5.tuple hx
    have hlen : its.toArray.size = xs.length := by rw [List.size_toArray]; exact r.length.symm
    cases pl
    cases pu
    refine tail_any (ops := [.ref a, .ref s4.heap.objs.size]) ht.typeIs PyProof.Rows.slot_tuple_getitem.lookup ?_ (by with_unfolding_all rfl)
    refine getItem_tuple_rev ht (Heap.IsSliceOf.new _ _ _ vs) ps ?_ (by rw [hlen]; exact hz)
    refine ⟨.ref _, _, I5.laid (t' := s4.toks) (o := .tup xs.reverse) (fun b ob q => Heap.get?_push_of_some _ q) (Nat.le_refl _) ?_, rfl, q _ (I5.hok.fresh (Nat.le_refl _))⟩
    exact ⟨by rw [List.length_reverse]; exact hz, _, r.reverse, IsTup.new _ _⟩
end
section
variable {X : Cx} {W : WX} {e : Expr} {pos : Pos}
def revD (st : Sto) (x : D) : Option D := match x with
  | .tup xs => some (.tup xs.reverse)
  | _ => (itemsL st x).map fun xs => .lst xs.reverse
/-- xs[::-1] -/
def evRevL (f : Ev) : Ev := fun ρ st => (f ρ st).bind fun x st1 => .lift (revD st1 x) st1
theorem e_revL {f : Ev} {k : Nat} {p1 p2 p3 : Pos} (he : PE X e (tE X.K W f)) : PE X (.Subscript e (.Slice none none (some (.UnaryOp .USub (.Constant (.int 1) k p1) p2)) p3) pos) (tE X.K W (evRevL f)) := by
  refine PE_imp (pe_revA he) fun σ H Q hw => ?_
  obtain ⟨m, ρ, st, hsl, hst, hp⟩ := hw
  refine tE_seq hsl hst hp fun v H1 m1 d st1 x1 sl1 y1 rv1 p1 => ?_
  by_cases ht : ∃ xs, d = .tup xs
  · obtain ⟨xs, rfl⟩ := ht
    obtain ⟨a, vs, rfl, h1, h2⟩ := tup_rep rv1
    have p1 : Post X.K W σ m1 H1 (.ok (.tup xs.reverse) st1) (PQ X.K Q) := p1
    exact ⟨a, vs, rfl, .inr ⟨h1, fun p hp => p1 m1 _ (.new hp) (y1.new hp) _ (.tup_new hp h2.reverse)⟩⟩
  · have er : revD st1 d = (itemsL st1 d).map fun xs => .lst xs.reverse := by
      cases d <;> first | rfl | exact absurd ⟨_, rfl⟩ ht
    rw [er] at p1
    cases e : itemsL st1 d with
    | none => rw [e] at p1; exact p1.elim
    | some xs =>
      rw [e] at p1
      obtain ⟨a, vs, rfl, h1, h2⟩ := itemsL_rep y1 e rv1
      exact ⟨a, vs, rfl, .inl ⟨h1, fun p hp => p1 m1 _ (.new hp) (y1.new hp) _ (.lst_new y1 hp h2.reverse)⟩⟩
end
end Ip
set_option Elab.async false
set_option linter.all false
set_option maxRecDepth 100000
set_option maxHeartbeats 4000000
namespace Ip
open PySem PySem.Spec PyProof.Rows L2

/-! ### data as the library's data, for == and in -/
mutual
def py : D → PyData
  | .non => .none
  | .bl b => .bool b
  | .int i => .int i
  | .str x => .str x
  | .tup xs => .tuple (pys xs)
  | .lst xs => .list (pys xs)
  | .scr xs => .list (pys xs)
  | .ref _ => .none
  | .glo _ => .none
  | .clo _ _ _ => .none
  | .ins _ _ => .none
def pys : List D → List PyData
  | [] => []
  | x :: xs => py x :: pys xs
end
mutual
def okS : D → Bool
  | .non | .bl _ | .int _ => true
  | .str x => PyData.strOk x
  | .tup xs => okSs xs
  | .lst xs => okSs xs
  | .scr xs => okSs xs
  | .ref _ | .glo _ | .clo _ _ _ | .ins _ _ => false
def okSs : List D → Bool
  | [] => true
  | x :: xs => okS x && okSs xs
end
mutual
theorem okS_lay : ∀ {d : D}, okS d = true → (py d).canLay0 = true
  | .non, _ => rfl
  | .bl _, _ => rfl
  | .int _, _ => rfl
  | .str _, h => h
  | .tup xs, h => okSs_lay (xs := xs) h
  | .lst xs, h => okSs_lay (xs := xs) h
  | .scr xs, h => okSs_lay (xs := xs) h
  | .ref _, h => by cases h
  | .glo _, h => by cases h
  | .clo _ _ _, h => by cases h
  | .ins _ _, h => by cases h
theorem okSs_lay : ∀ {xs : List D}, okSs xs = true → PyData.canLayAll0 (pys xs) = true
  | [], _ => rfl
  | x :: xs, h => by
    have h' : (okS x && okSs xs) = true := h
    rw [Bool.and_eq_true] at h'
    show ((py x).canLay0 && PyData.canLayAll0 (pys xs)) = true
    rw [okS_lay h'.1, okSs_lay h'.2]; rfl
end
mutual
theorem Rep.dp {K : PySem.W.Frag} {m : MX} {H : Hp} : ∀ {d : D} {v : V}, okS d = true → Rep K m H d v → Dp K H v (py d)
  | .non, _, _, r => by simp only [Rep] at r; subst r; exact .non
  | .bl _, _, _, r => by simp only [Rep] at r; subst r; exact .bl _
  | .int _, _, _, r => by simp only [Rep] at r; subst r; exact .int _
  | .str _, _, _, r => by simp only [Rep] at r; subst r; exact .str _
  | .tup xs, _, h, r => by
    simp only [Rep] at r
    obtain ⟨a, vs, rfl, h1, h2⟩ := r
    exact .tup h1 (Reps.dp (xs := xs) h h2)
  | .lst xs, _, h, r => by
    simp only [Rep] at r
    obtain ⟨a, vs, rfl, h1, _, h2⟩ := r
    exact .lst (.inl h1) (Reps.dp (xs := xs) h h2)
  | .scr xs, _, h, r => by
    simp only [Rep] at r
    obtain ⟨a, vs, rfl, h1, h2⟩ := r
    exact .lst (h1.elim (fun z => .inl z.1) fun z => z H) (Reps.dp (xs := xs) h h2)
  | .ref _, _, h, _ => by cases h
  | .glo _, _, h, _ => by cases h
  | .clo _ _ _, _, h, _ => by cases h
  | .ins _ _, _, h, _ => by cases h
theorem Reps.dp {K : PySem.W.Frag} {m : MX} {H : Hp} : ∀ {xs : List D} {vs : List V}, okSs xs = true → Reps K m H xs vs → DpAll K H vs (pys xs)
  | [], _, _, r => by rw [r.nil_inv]; exact .nil
  | x :: xs, _, h, r => by
    have h' : (okS x && okSs xs) = true := h
    rw [Bool.and_eq_true] at h'
    obtain ⟨v, t, rfl, h1, h2⟩ := r.cons_inv
    exact .cons (Rep.dp h'.1 h1) (Reps.dp h'.2 h2)
end
/-- a mutable list as it stands -/
def deref (st : Sto) : D → D
  | .ref n => match st[n]? with
    | some xs => .lst xs
    | none => .ref n
  | d => d
theorem deref_rep {K : PySem.W.Frag} {m : MX} {H : Hp} {st : Sto} {d : D} {v : V} (hst : RepSt K m H st) (h : okS (deref st d) = true) (r : Rep K m H d v) : Dp K H v (py (deref st d)) := by
  cases d with
  | ref n =>
    unfold deref at h ⊢
    dsimp only at h ⊢
    cases e : st[n]? with
    | none => rw [e] at h; cases h
    | some xs =>
      rw [e] at h
      obtain ⟨a, vs, rfl, h1, _, h2⟩ := ref_rep hst e r
      exact .lst (.inl (.inl h1)) (Reps.dp (xs := xs) h h2)
  | _ => exact Rep.dp h r
def okD (d : D) : Bool := okS d && decide ((py d).depth ≤ 64)
theorem okD_shaped {d : D} (h : okD d = true) : SeqAt.shaped (py d) = true := by
  unfold okD at h
  rw [Bool.and_eq_true] at h
  unfold SeqAt.shaped
  rw [okS_lay h.1, h.2]; rfl
theorem okD_s {d : D} (h : okD d = true) : okS d = true := by
  unfold okD at h
  rw [Bool.and_eq_true] at h
  exact h.1
def eqD (x y : D) : Bool := PyData.eqv (py x) (py y)

section
variable {X : Cx} {W : WX}
theorem rBl {K : PySem.W.Frag} {m : MX} {H : Hp} {b : Bool} : Rep K m H (.bl b) (.bl b) := by simp only [Rep]
theorem rInt {K : PySem.W.Frag} {m : MX} {H : Hp} {i : Int} : Rep K m H (.int i) (.int i) := by simp only [Rep]
theorem rStr {K : PySem.W.Frag} {m : MX} {H : Hp} {x : Str} : Rep K m H (.str x) (.str x) := by simp only [Rep]
theorem rNon {K : PySem.W.Frag} {m : MX} {H : Hp} : Rep K m H .non .non := by simp only [Rep]
theorem iBl {K : PySem.W.Frag} {m : MX} {H : Hp} {b : Bool} {v : V} (r : Rep K m H (.bl b) v) : v = .bl b := by simpa only [Rep] using r
theorem iInt {K : PySem.W.Frag} {m : MX} {H : Hp} {i : Int} {v : V} (r : Rep K m H (.int i) v) : v = .int i := by simpa only [Rep] using r
theorem iStr {K : PySem.W.Frag} {m : MX} {H : Hp} {x : Str} {v : V} (r : Rep K m H (.str x) v) : v = .str x := by simpa only [Rep] using r
theorem iNon {K : PySem.W.Frag} {m : MX} {H : Hp} {v : V} (r : Rep K m H .non v) : v = .non := by simpa only [Rep] using r

/-! ### ==, != -/
def oEq (st : Sto) (x y : D) : Option D := if okD (deref st x) = true ∧ okD (deref st y) = true then some (.bl (eqD (deref st x) (deref st y))) else none
def oNe (st : Sto) (x y : D) : Option D := if okD (deref st x) = true ∧ okD (deref st y) = true then some (.bl (!eqD (deref st x) (deref st y))) else none
theorem opEq (hu : X.A.units + 64 < cLine) : OpS X (compareOp .Eq) oEq := by
  intro pins s σ H m st x y z v w u t Q I hst rx ry ru rt ho q
  unfold oEq at ho
  split at ho
  · rename_i hc
    cases ho
    exact op_eqD hu pins s σ H v w u t Q I ru rt ⟨_, _, deref_rep hst (okD_s hc.1) rx, deref_rep hst (okD_s hc.2) ry, okD_shaped hc.1, okD_shaped hc.2, q m H _ .refl hst rBl⟩
  · cases ho
theorem opNe (hu : X.A.units + 64 < cLine) : OpS X (compareOp .NotEq) oNe := by
  intro pins s σ H m st x y z v w u t Q I hst rx ry ru rt ho q
  unfold oNe at ho
  split at ho
  · rename_i hc
    cases ho
    exact op_neD hu pins s σ H v w u t Q I ru rt ⟨_, _, deref_rep hst (okD_s hc.1) rx, deref_rep hst (okD_s hc.2) ry, okD_shaped hc.1, okD_shaped hc.2, q m H _ .refl hst rBl⟩
  · cases ho
/-! ### in, not in: lists and tuples -/
def inD (xs : List D) (x : D) : Bool := xs.any fun z => eqD z x
theorem pys_any (f : PyData → Bool) : ∀ xs : List D, (pys xs).any f = xs.any fun z => f (py z)
  | [] => rfl
  | x :: xs => by
    show (py x :: pys xs).any f = _
    rw [List.any_cons, List.any_cons, pys_any f xs]
def oIn (st : Sto) (x y : D) : Option D := match items st y with
  | some xs => if okD x = true ∧ okSs xs = true then some (.bl (inD xs x)) else none
  | none => none
def oNotIn (st : Sto) (x y : D) : Option D := match items st y with
  | some xs => if okD x = true ∧ okSs xs = true then some (.bl (!inD xs x)) else none
  | none => none
theorem in_any (hu : X.A.units + 65 < cLine) {pins : List (Addr × Obj)} {s : Shared} {σ : L2.St} {H : Hp} {m : MX} {st : Sto} {x y : D} {v w : V} {u t : Value} {Q : VK} {xs : List D} (I : Inv X pins σ H s) (hst : RepSt X.K m H st) (rx : Rep X.K m H x v) (ry : Rep X.K m H y w) (ru : RelV v u) (rt : RelV w t)
    (e : items st y = some xs) (hx : okD x = true) (hs : okSs xs = true) : (Q (.bl (inD xs x)) H → wpAny (model X.prog X.w) X.A (compareOp .In u t) (EP X pins σ Q) X.xe s) ∧ (Q (.bl (!inD xs x)) H → wpAny (model X.prog X.w) X.A (compareOp .NotIn u t) (EP X pins σ Q) X.xe s) := by
  obtain ⟨a, vs, rfl, h1, h2⟩ := items_rep hst e ry
  obtain ⟨as, r1⟩ := Dp.reads I _ v u (Rep.dp (okD_s hx) rx) ru
  have ea : inD xs x = (pys xs).any (fun z => PyData.eqv z (py x)) := by rw [pys_any]; rfl
  have hd := Reps.dp hs h2
  have hl := okSs_lay hs
  have hr := room_in_shaped (A := X.A) (xs := pys xs) (okD_shaped hx) hu
  rcases h1 with h1 | h1
  · obtain ⟨bs, r2⟩ := Dp.reads I (.list (pys xs)) (.ref a) t (.lst h1 hd) rt
    refine ⟨fun q => SeqAt.in_list_reads r2 r1 hl (okS_lay (okD_s hx)) hr ⟨.bl _, H, I, rfl, ?_⟩, fun q => SeqAt.notIn_list_reads r2 r1 hl (okS_lay (okD_s hx)) hr ⟨.bl _, H, I, rfl, ?_⟩⟩
    · rw [ea] at q; exact q
    · rw [ea] at q; exact q
  · obtain ⟨bs, r2⟩ := Dp.reads I (.tuple (pys xs)) (.ref a) t (.tup h1 hd) rt
    refine ⟨fun q => SeqAt.in_tuple_reads r2 r1 hl (okS_lay (okD_s hx)) hr ⟨.bl _, H, I, rfl, ?_⟩, fun q => SeqAt.notIn_tuple_reads r2 r1 hl (okS_lay (okD_s hx)) hr ⟨.bl _, H, I, rfl, ?_⟩⟩
    · rw [ea] at q; exact q
    · rw [ea] at q; exact q
theorem opIn (hu : X.A.units + 65 < cLine) : OpS X (compareOp .In) oIn := by
  intro pins s σ H m st x y z v w u t Q I hst rx ry ru rt ho q
  unfold oIn at ho
  split at ho
  · rename_i xs e
    split at ho
    · rename_i hc
      cases ho
      exact (in_any hu I hst rx ry ru rt e hc.1 hc.2).1 (q m H _ .refl hst rBl)
    · cases ho
  · cases ho
theorem opNotIn (hu : X.A.units + 65 < cLine) : OpS X (compareOp .NotIn) oNotIn := by
  intro pins s σ H m st x y z v w u t Q I hst rx ry ru rt ho q
  unfold oNotIn at ho
  split at ho
  · rename_i xs e
    split at ho
    · rename_i hc
      cases ho
      exact (in_any hu I hst rx ry ru rt e hc.1 hc.2).2 (q m H _ .refl hst rBl)
    · cases ho
  · cases ho
/-! ### is, is not: None; two bools -/
def oIs (_ : Sto) (x y : D) : Option D := match x, y with
  | .bl a, .bl b => some (.bl (decide (a = b)))
  | .non, .non => some (.bl true)
  | .ref _, .non => some (.bl false)
  | .glo _, .non => some (.bl false)
  | .bl _, .non => some (.bl false)
  | .int _, .non => some (.bl false)
  | .str _, .non => some (.bl false)
  | .tup _, .non => some (.bl false)
  | .lst _, .non => some (.bl false)
  | .scr _, .non => some (.bl false)
  | .clo _ _ _, .non => some (.bl false)
  | .ins _ _, .non => some (.bl false)
  | _, _ => none
def oIsNot (st : Sto) (x y : D) : Option D := match oIs st x y with
  | some (.bl b) => some (.bl (!b))
  | _ => none
theorem is_none_rep {K : PySem.W.Frag} {m : MX} {H : Hp} {x : D} {v : V} (r : Rep K m H x v) : (∃ b, x = .bl b) ∨ oIs [] x .non = some (.bl (decide (v = .non))) := by
  cases x with
  | non => rw [iNon r]; exact .inr rfl
  | bl b => exact .inl ⟨b, rfl⟩
  | int i => rw [iInt r]; exact .inr rfl
  | str i => rw [iStr r]; exact .inr rfl
  | tup xs => obtain ⟨a, vs, rfl, _⟩ := tup_rep r; exact .inr rfl
  | lst xs => simp only [Rep] at r; obtain ⟨a, vs, rfl, _⟩ := r; exact .inr rfl
  | scr xs => simp only [Rep] at r; obtain ⟨a, vs, rfl, _⟩ := r; exact .inr rfl
  | ref xs => simp only [Rep] at r; obtain ⟨a, rfl, _⟩ := r; exact .inr rfl
  | glo xs => simp only [Rep] at r; rw [r]; exact .inr rfl
  | clo a m0 H0 => simp only [Rep] at r; rw [r.1]; exact .inr rfl
  | ins C xs => simp only [Rep] at r; obtain ⟨a, dx, vs, rfl, _⟩ := r; exact .inr rfl
theorem is_case {K : PySem.W.Frag} {m : MX} {H : Hp} {st : Sto} {x y z : D} {v w : V} (rx : Rep K m H x v) (ry : Rep K m H y w) (h : oIs st x y = some z) : (∃ a b, v = .bl a ∧ w = .bl b ∧ z = .bl (decide (a = b))) ∨ (w = .non ∧ z = .bl (decide (v = .non))) := by
  cases y with
  | non =>
    right
    refine ⟨iNon ry, ?_⟩
    rcases is_none_rep rx with ⟨b, rfl⟩ | e
    · rw [iBl rx]; cases h; rfl
    · have e' : oIs st x .non = some (.bl (decide (v = .non))) := by cases x <;> exact e
      rw [e'] at h; cases h; rfl
  | bl b =>
    left
    cases x with
    | bl a => cases h; exact ⟨a, b, iBl rx, iBl ry, rfl⟩
    | _ => cases h
  | _ => cases x <;> cases h
theorem opIs : OpS X (compareOp .Is) oIs := by
  intro pins s σ H m st x y z v w u t Q I hst rx ry ru rt ho q
  rcases is_case rx ry ho with ⟨a, b, rfl, rfl, rfl⟩ | ⟨rfl, rfl⟩
  · exact op_is_bl pins s σ H _ _ u t Q I ru rt ⟨a, b, rfl, rfl, q m H _ .refl hst rBl⟩
  · exact op_isN pins s σ H _ _ u t Q I ru rt ⟨rfl, q m H _ .refl hst rBl⟩
theorem opIsNot : OpS X (compareOp .IsNot) oIsNot := by
  intro pins s σ H m st x y z v w u t Q I hst rx ry ru rt ho q
  unfold oIsNot at ho
  split at ho
  · rename_i b e
    cases ho
    rcases is_case rx ry e with ⟨a, c, rfl, rfl, e1⟩ | ⟨rfl, e1⟩
    · cases e1
      exact op_isnot_bl pins s σ H _ _ u t Q I ru rt ⟨a, c, rfl, rfl, q m H _ .refl hst rBl⟩
    · cases e1
      exact op_notN pins s σ H _ _ u t Q I ru rt ⟨rfl, q m H _ .refl hst rBl⟩
  · cases ho
/-! ### order of ints -/
def oLt (_ : Sto) (x y : D) : Option D := match x, y with
  | .int i, .int j => some (.bl (decide (i < j)))
  | _, _ => none
def oLe (_ : Sto) (x y : D) : Option D := match x, y with
  | .int i, .int j => some (.bl (decide (i ≤ j)))
  | _, _ => none
def oGt (_ : Sto) (x y : D) : Option D := match x, y with
  | .int i, .int j => some (.bl (decide (j < i)))
  | _, _ => none
def oGe (_ : Sto) (x y : D) : Option D := match x, y with
  | .int i, .int j => some (.bl (decide (j ≤ i)))
  | _, _ => none
theorem ints2 {α : Type} {x y : D} {z : α} {f : Int → Int → Option α} (h : (match x, y with | .int i, .int j => f i j | _, _ => none) = some z) : ∃ i j, x = .int i ∧ y = .int j ∧ f i j = some z := by
  cases x with
  | int i =>
    cases y with
    | int j => exact ⟨i, j, rfl, rfl, h⟩
    | _ => cases h
  | _ => cases h
theorem opLt : OpS X (compareOp .Lt) oLt := by
  intro pins s σ H m st x y z v w u t Q I hst rx ry ru rt ho q
  obtain ⟨i, j, rfl, rfl, e⟩ := ints2 ho
  cases e
  exact op_lt pins s σ H v w u t Q I ru rt ⟨i, j, iInt rx, iInt ry, q m H _ .refl hst rBl⟩
theorem opLe : OpS X (compareOp .LtE) oLe := by
  intro pins s σ H m st x y z v w u t Q I hst rx ry ru rt ho q
  obtain ⟨i, j, rfl, rfl, e⟩ := ints2 ho
  cases e
  exact op_le pins s σ H v w u t Q I ru rt ⟨i, j, iInt rx, iInt ry, q m H _ .refl hst rBl⟩
theorem opGt : OpS X (compareOp .Gt) oGt := by
  intro pins s σ H m st x y z v w u t Q I hst rx ry ru rt ho q
  obtain ⟨i, j, rfl, rfl, e⟩ := ints2 ho
  cases e
  exact op_gt pins s σ H v w u t Q I ru rt ⟨i, j, iInt rx, iInt ry, q m H _ .refl hst rBl⟩
theorem opGe : OpS X (compareOp .GtE) oGe := by
  intro pins s σ H m st x y z v w u t Q I hst rx ry ru rt ho q
  obtain ⟨i, j, rfl, rfl, e⟩ := ints2 ho
  cases e
  exact op_ge pins s σ H v w u t Q I ru rt ⟨i, j, iInt rx, iInt ry, q m H _ .refl hst rBl⟩
/-! ### arithmetic -/
def lim : Nat := 100000
def oAdd (st : Sto) (x y : D) : Option D := match x, y with
  | .int i, .int j => some (.int (i + j))
  | .tup a, .tup b => if a.length + b.length ≤ 1000000 then some (.tup (a ++ b)) else none
  | .str a, .str b => if a.length + b.length ≤ 1000000 then some (.str (a ++ b)) else none
  | x, y => match itemsR st x, itemsR st y with
    | some a, some b => if a.length + b.length ≤ 1000000 then some (.lst (a ++ b)) else none
    | _, _ => none
def oSub (_ : Sto) (x y : D) : Option D := match x, y with
  | .int i, .int j => some (.int (i - j))
  | _, _ => none
def oMul (_ : Sto) (x y : D) : Option D := match x, y with
  | .int i, .int j => if i.natAbs < 2 ^ 4000 ∧ j.natAbs < 2 ^ 4000 then some (.int (i * j)) else none
  | .tup xs, .int k => if xs ≠ [] ∧ 2 ≤ k ∧ k ≤ 1000 ∧ xs.length ≤ 1000 then some (.tup (List.replicate k.toNat xs).flatten) else none
  | .lst xs, .int k => if 0 ≤ k ∧ k ≤ 1000 ∧ xs.length ≤ 1000 then some (.lst (List.replicate k.toNat xs).flatten) else none
  | .str z, .int k => if 0 ≤ k ∧ k ≤ 1000 ∧ z.length ≤ 1000 then some (.str (PySem.Txt.mul z k)) else none
  | _, _ => none
theorem Reps.rep {K : PySem.W.Frag} {m : MX} {H : Hp} {xs : List D} {vs : List V} (h : Reps K m H xs vs) : ∀ n, Reps K m H (List.replicate n xs).flatten (List.replicate n vs).flatten
  | 0 => .nil
  | n + 1 => by
    rw [List.replicate_succ, List.replicate_succ, List.flatten_cons, List.flatten_cons]
    exact h.append (Reps.rep h n)
def oDiv (_ : Sto) (x y : D) : Option D := match x, y with
  | .int i, .int j => if 0 < j ∧ j.natAbs < 2 ^ 4000 then some (.int (i / j)) else none
  | _, _ => none
def oMod (_ : Sto) (x y : D) : Option D := match x, y with
  | .int i, .int j => if 0 < j then some (.int (i % j)) else none
  | _, _ => none
def oPow (_ : Sto) (x y : D) : Option D := match x, y with
  | .int i, .int j => if 0 ≤ j ∧ j ≤ 1000000 ∧ i.natAbs < 2 ^ 64 then some (.int (i ^ j.toNat)) else none
  | _, _ => none
theorem opSub : OpS X (binaryOp .Sub) oSub := by
  intro pins s σ H m st x y z v w u t Q I hst rx ry ru rt ho q
  obtain ⟨i, j, rfl, rfl, e⟩ := ints2 ho
  cases e
  exact op_sub pins s σ H v w u t Q I ru rt ⟨i, j, iInt rx, iInt ry, q m H _ .refl hst rInt⟩
theorem Inv.rdL {pins : List (Addr × Obj)} {s : Shared} {σ : L2.St} {H : Hp} {l : Addr} {xs : List V} (I : Inv X pins σ H s) (h : Rd H l (.lst xs)) :
    xs.length ≤ sizeLine ∧ ∃ (its : List Value) (n : Nat), Vals xs its ∧ xs.length = its.length ∧ s.heap.get? l = some { cls := .type "list", data := .seq its.toArray n } := by
  obtain ⟨z, its, n, r, e⟩ := h.ok I.hok
  exact ⟨z, its, n, r, r.length, e⟩
/-- a list that is only read, so many times -/
theorem op_repL {pins : List (Addr × Obj)} {s : Shared} {σ : L2.St} {H : Hp} {l : Addr} {vs : List V} {k : Int} {t : Tok} {Q : VK} (I : Inv X pins σ H s) (h : Rd H l (.lst vs)) (k0 : 0 ≤ k) (k1 : k ≤ 1000) (hz : vs.length ≤ 1000)
    (q : ∀ p, H p = none → Q (.ref p) (upd H p (.lst (List.replicate k.toNat vs).flatten))) : wpAny (model X.prog X.w) X.A (binaryOp .Mult (.ref l) (.int k t)) (EP X pins σ Q) X.xe s := by
  obtain ⟨_, its, n, r, hl, e⟩ := Inv.rdL I h
  have kz : its.length = vs.length := r.length.symm
  have sz : its.toArray.size * k.toNat ≤ sizeLine := by
    rw [List.size_toArray, kz, sizeLine_eq]
    have := Nat.mul_le_mul hz (show k.toNat ≤ 1000 by omega)
    omega
  have cap : ¬ its.toArray.size * k.toNat > (2 ^ 63 - 1) / 8 := fun z => absurd (Nat.lt_of_lt_of_le z sz) (by decide)
  have fit : ¬ (!Builtin.List.listFitsIndex k) = true := by rw [fitsIndex_both (by omega) (by omega)]; decide
  have lng : ¬ Builtin.List.listTooLong (its.toArray.size * k.toNat) = true := by rw [notLongL sz]; decide
  have new : List.foldl (fun x1 x2 => x1 ++ x2) #[] (List.replicate (if its.toArray.isEmpty = true then 0 else k.toNat) its.toArray) = (List.replicate k.toNat its).flatten.toArray := by
    have fo : ∀ m : Nat, List.foldl (fun x1 x2 => x1 ++ x2) #[] (List.replicate m its.toArray) = (List.replicate m its).flatten.toArray := size_rep its
    rw [fo]
    cases its with
    | nil => simp
    | cons _ _ => rfl
  have body := AutoListH.list___mul___list_int_3 l its.toArray n k t fit cap lng
  refine wpAny_binaryOp_repeat_ref (T := "list") (U := "int") (by decide) ⟨_, e, rfl⟩ (fun s2 => typeIs_int s2 k t) noFill_list_mul
    F.fills_int_mul F.slot_int_rmul repeat_list F.slot_int_index.lookup (call_meets F.slot_int_rmul (typeIs_int s k t) F.entry_int_rmul
      (F.args_int_rmul_2 _ _) (int___rmul___int_list k t l its.toArray n) ⟨e, rfl, ⟨_, e, rfl⟩, ?_⟩)
  refine call_meets F.slot_list_mul ⟨_, e, rfl⟩ F.entry_list_mul (F.args_list_mul_2 _ _) body ⟨e, ?_⟩
  rw [new]
  refine ⟨.ref _, _, I.lnew (t' := s.toks) (r.rep k.toNat) ?_, rfl, q _ I.fresh⟩
  rw [PyProof.Rows.lm_len_rep_flat, Nat.mul_comm, ← kz, ← List.size_toArray]
  exact sz
theorem opMul : OpS X (binaryOp .Mult) oMul := by
  intro pins s σ H m st x y z v w u t Q I hst rx ry ru rt ho q
  cases x with
  | str a =>
    cases y with
    | int k =>
      have e : (if 0 ≤ k ∧ k ≤ 1000 ∧ a.length ≤ 1000 then some (D.str (PySem.Txt.mul a k)) else none) = some z := ho
      split at e
      · rename_i hc
        cases e
        have ea := iStr rx
        have ek := iInt ry
        subst ea ek
        obtain ⟨ta, rfl⟩ := ru
        obtain ⟨tk, rfl⟩ := rt
        exact PySem.SB.mul (mulOk_of 1000 1000 hc.2.2 hc.2.1 (by omega) (by decide) (by decide)) fun t' k' => ⟨.str _, H, I.tok _, ⟨_, rfl⟩, q m H _ .refl hst rStr⟩
      · cases e
    | _ => cases ho
  | lst xs =>
    cases y with
    | int k =>
      have e : (if 0 ≤ k ∧ k ≤ 1000 ∧ xs.length ≤ 1000 then some (D.lst (List.replicate k.toNat xs).flatten) else none) = some z := ho
      split at e
      · rename_i hc
        cases e
        simp only [Rep] at rx
        obtain ⟨p, vs, rfl, h1, h0, h2⟩ := rx
        have ek := iInt ry
        subst ek
        cases ru
        obtain ⟨tk, rfl⟩ := rt
        exact op_repL I h1 hc.1 hc.2.1 (by rw [h2.len]; exact hc.2.2) fun l hl => q m _ _ (.new hl) (hst.new hl) (.lst_new hst hl (h2.rep _))
      · cases e
    | _ => cases ho
  | int i =>
    cases y with
    | int j =>
      have e : (if i.natAbs < 2 ^ 4000 ∧ j.natAbs < 2 ^ 4000 then some (D.int (i * j)) else none) = some z := ho
      split at e
      · rename_i hc
        cases e
        exact op_mulW pins s σ H v w u t Q I ru rt ⟨i, j, iInt rx, iInt ry, wide_mul hc.1 hc.2 (by decide) (by decide) (by decide), q m H _ .refl hst rInt⟩
      · cases e
    | _ => cases ho
  | tup xs =>
    cases y with
    | int k =>
      have e : (if xs ≠ [] ∧ 2 ≤ k ∧ k ≤ 1000 ∧ xs.length ≤ 1000 then some (D.tup (List.replicate k.toNat xs).flatten) else none) = some z := ho
      split at e
      · rename_i hc
        cases e
        obtain ⟨p, vs, rfl, h1, h2⟩ := tup_rep rx
        refine op_repT pins s σ H _ _ u t Q I ru rt ⟨p, k, vs, rfl, iInt ry, h1, fun e => hc.1 ?_, hc.2.1, hc.2.2.1, by rw [h2.len]; exact hc.2.2.2, fun l hl => q m _ _ (.new hl) (hst.new hl) (.tup_new hl (h2.rep _))⟩
        have := h2.len
        rw [e] at this
        exact List.length_eq_zero_iff.mp this.symm
      · cases e
    | _ => cases ho
  | _ => cases ho
theorem opDiv : OpS X (binaryOp .FloorDiv) oDiv := by
  intro pins s σ H m st x y z v w u t Q I hst rx ry ru rt ho q
  obtain ⟨i, j, rfl, rfl, e⟩ := ints2 ho
  split at e
  · rename_i hc
    cases e
    exact op_fdivW pins s σ H v w u t Q I ru rt ⟨i, j, iInt rx, iInt ry, wide_div hc.1 hc.2 (by decide) (by decide), q m H _ .refl hst rInt⟩
  · cases e
theorem opMod : OpS X (binaryOp .Mod) oMod := by
  intro pins s σ H m st x y z v w u t Q I hst rx ry ru rt ho q
  obtain ⟨i, j, rfl, rfl, e⟩ := ints2 ho
  split at e
  · rename_i hc
    cases e
    exact op_mod pins s σ H v w u t Q I ru rt ⟨i, j, iInt rx, iInt ry, hc, q m H _ .refl hst rInt⟩
  · cases e
theorem opPow : OpS X (binaryOp .Pow) oPow := by
  intro pins s σ H m st x y z v w u t Q I hst rx ry ru rt ho q
  obtain ⟨i, j, rfl, rfl, e⟩ := ints2 ho
  split at e
  · rename_i hc
    cases e
    exact op_pow pins s σ H v w u t Q I ru rt ⟨i, j, iInt rx, iInt ry, hc, q m H _ .refl hst rInt⟩
  · cases e
theorem mil_line {n : Nat} (h : n ≤ 1000000) : n ≤ sizeLine := Nat.le_trans h (by decide)
theorem opAdd : OpS X (binaryOp .Add) oAdd := by
  intro pins s σ H m st x y z v w u t Q I hst rx ry ru rt ho q
  have go : (match itemsR st x, itemsR st y with
    | some a, some b => if a.length + b.length ≤ 1000000 then some (D.lst (a ++ b)) else none
    | _, _ => none) = some z → wpAny (model X.prog X.w) X.A (binaryOp .Add u t) (EP X pins σ Q) X.xe s := fun ho => by
    cases ea : itemsR st x with
    | none => rw [ea] at ho; cases ho
    | some a =>
      cases eb : itemsR st y with
      | none => rw [ea, eb] at ho; cases ho
      | some b =>
        rw [ea, eb] at ho
        dsimp only at ho
        split at ho
        · rename_i hz
          cases ho
          obtain ⟨p, vs, rfl, h1, h2⟩ := itemsR_rep hst ea rx
          obtain ⟨p', ws, rfl, h1', h2'⟩ := itemsR_rep hst eb ry
          cases ru
          cases rt
          obtain ⟨_, its, n, r, hl, e⟩ := Inv.rdL I h1
          obtain ⟨_, its2, n2, r2, hl2, e2⟩ := Inv.rdL I h1'
          have hz' : vs.length + ws.length ≤ sizeLine := by rw [h2.len, h2'.len]; exact mil_line hz
          refine PySem.P.add_list e e2 ?_ (by rw [List.size_toArray, List.size_toArray]; omega)
          have ea : its.toArray ++ its2.toArray = (its ++ its2).toArray := by simp
          rw [ea]
          exact ⟨.ref _, _, I.lnew (t' := s.toks) (r.append r2) (by rw [List.length_append]; omega), rfl, q m _ _ (.new I.fresh) (hst.new I.fresh) (.lst_new hst I.fresh (h2.append h2'))⟩
        · cases ho
  cases x with
  | int i =>
    cases y with
    | int j =>
      cases ho
      exact op_add pins s σ H v w u t Q I ru rt ⟨i, j, iInt rx, iInt ry, q m H _ .refl hst rInt⟩
    | _ => exact go ho
  | tup a =>
    cases y with
    | tup b =>
      have ho : (if a.length + b.length ≤ 1000000 then some (D.tup (a ++ b)) else none) = some z := ho
      split at ho
      · rename_i hz
        cases ho
        obtain ⟨p, vs, rfl, h1, h2⟩ := tup_rep rx
        obtain ⟨p', ws, rfl, h1', h2'⟩ := tup_rep ry
        refine op_catA pins s σ H _ _ u t Q I ru rt ⟨p, p', vs, ws, rfl, rfl, h1, h1', by rw [h2.len, h2'.len]; exact mil_line hz, fun e => ?_, fun e e' => ?_, fun e e' p hp => ?_⟩
        · subst e
          have ea : a = [] := by
            have := h2.len
            cases a with
            | nil => rfl
            | cons _ _ => simp at this
          rw [ea, List.nil_append] at q
          exact q m H _ .refl hst ry
        · subst e'
          have ea : b = [] := by
            have := h2'.len
            cases b with
            | nil => rfl
            | cons _ _ => simp at this
          rw [ea, List.append_nil] at q
          exact q m H _ .refl hst rx
        · exact q m _ _ (.new hp) (hst.new hp) (.tup_new hp (h2.append h2'))
      · cases ho
    | _ => exact go ho
  | str a =>
    cases y with
    | str b =>
      have ho : (if a.length + b.length ≤ 1000000 then some (D.str (a ++ b)) else none) = some z := ho
      split at ho
      · rename_i hz
        cases ho
        exact op_add_str pins s σ H v w u t Q I ru rt ⟨a, b, iStr rx, iStr ry, mil_line hz, q m H _ .refl hst rStr⟩
      · cases ho
    | _ => exact go ho
  | lst a => exact go (by cases y <;> exact ho)
  | ref a => exact go (by cases y <;> exact ho)
  | non => exact go ho
  | bl _ => exact go ho
  | scr _ => exact go ho
  | glo _ => exact go ho
  | clo _ _ _ => exact go ho
  | ins _ _ => exact go ho
end
end Ip
set_option Elab.async false
set_option linter.all false
set_option maxRecDepth 100000
set_option maxHeartbeats 4000000
namespace Ip
open PySem PySem.Spec PyProof.Rows L2

/-! ### a def's promise: its run -/
abbrev Fn := List D → Sto → R D
/-- the promise of a def of n parameters that is run as f -/
def spF (K : PySem.W.Frag) (n : Nat) (f : Fn) : Sp := fun vs H Q E => ∃ m ds st, Reps K m H ds vs ∧ ds.length = n ∧ RepSt K m H st ∧ Post K (fun c d _ H' => E c d H') [] m H (f ds st) (PQ K Q)
theorem Post.wish {α : Type} {K : PySem.W.Frag} {W : WX} {σ : L2.St} {m : MX} {H : Hp} {r : R α} {P : α → Sto → MX → Hp → Prop} (h : Post K W σ m H r P) : Post K (fun c d _ H' => W c d σ H') [] m H r P := by
  cases r with
  | ok a st => exact h
  | exc c st => exact h
  | bad => exact h
/-- the module's name x holds a def of n parameters that is run as f -/
def FnHas (X : Cx) (x : Str) (n lv : Nat) (f : Fn) : Prop := ∃ (a : Addr) (fd : FuncData) (ps : List Str), X.mg x = some (.ref a) ∧ PySem.W.keepIn X.K (.ref a) = true ∧ Binds X.K fd ps [] ∧ FnOk X.prog X.w X.K X.mg X.base (L2N.CX X.prog X.w) lv a fd ps (spF X.K n f)
def evCall (n : Nat) (f : Fn) (g : Ea) : Ev := fun ρ st => (g ρ st).bind fun ds st1 => if ds.length = n then f ds st1 else .bad
section
variable {X : Cx} {W : WX} {pins : List (Addr × Obj)} {σ : L2.St} {H : Hp} {s : Shared} {m : MX} {ρ : Sl} {st : Sto} {α β : Type}
variable {e a b c : Expr} {es : List Expr} {pos p p2 : Pos} {x : Str} {n lv : Nat} {f : Fn}
theorem e_call {g : Ea} (F : FnHas X x n lv f) (hr : Room lv X.A) (hg : Gl X x) (hdb : (x == ("__debug__" : Str)) = false) (tk : L2N.Takes X W) (ha : PA X (e :: es) (tA X.K W g))
    (he : starEach (e :: es) X.env = (false, eval e X.env) :: starEach es X.env) (hpl : (backTo pos (starEach es X.env)).any (·.1) = false) : PE X (.Call (.Name x p) (e :: es) [] pos) (tE X.K W (evCall n f g)) := by
  obtain ⟨a, fd, ps, hm, hk, hb, G⟩ := F
  refine PE_imp (pe_callSD G hr hg hm hk hb .nil (fun σ => L2N.passAt tk σ) ha hdb he hpl) fun σ H Q hw => ?_
  obtain ⟨m, ρ, st, hsl, hst, hp⟩ := hw
  refine tA_seq hsl hst hp fun vs H1 m1 ds st1 x1 sl1 y1 rv p1 => ?_
  by_cases hn : ds.length = n
  · rw [if_pos hn] at p1
    rw [List.append_nil]
    exact ⟨m1, ds, st1, rv, hn, y1, p1.wish⟩
  · rw [if_neg hn] at p1; exact p1.elim
theorem e_call0 (F : FnHas X x n lv f) (hr : Room lv X.A) (hg : Gl X x) (hdb : (x == ("__debug__" : Str)) = false) (tk : L2N.Takes X W) : PE X (.Call (.Name x p) [] [] pos) (tE X.K W (evCall n f eaNil)) := by
  obtain ⟨a, fd, ps, hm, hk, hb, G⟩ := F
  refine ⟨fun pins s σ H Q I hw => ?_⟩
  obtain ⟨m, ρ, st, hsl, hst, hp⟩ := hw
  refine wpAny_Call_Name_kw (ld_glob I hg hm ?_ hdb)
  refine PySem.W.callWith_K0 I.kIn hk (run_fnSD (us := []) (dvs := []) G hr hb .nil (L2N.passAt tk σ) I .nil ?_)
  have hp : Post X.K W σ m H (if ([] : List D).length = n then f [] st else .bad) (PQ X.K Q) := hp
  by_cases hn : ([] : List D).length = n
  · rw [if_pos hn] at hp
    exact ⟨m, [], st, .nil, hn, hst, hp.wish⟩
  · rw [if_neg hn] at hp; exact hp.elim

/-! ### built-in functions and types, by values -/
def CallS (X : Cx) (f : Value) (o : Sto → List D → Option D) : Prop :=
  ∀ (pins : List (Addr × Obj)) (s : Shared) (σ : L2.St) (H : Hp) (m : MX) (st : Sto) (ds : List D) (z : D) (vs : List V) (us : List Value) (Q : VK), Inv X pins σ H s → RepSt X.K m H st → Reps X.K m H ds vs → Vals vs us → o st ds = some z →
    (∀ m' H' v', Ext X.K m H m' H' → RepSt X.K m' H' st → Rep X.K m' H' z v' → Q v' H') → wpAny (model X.prog X.w) X.A (call f us) (EP X pins σ Q) X.xe s
def evB (o : Sto → List D → Option D) (g : Ea) : Ev := fun ρ st => (g ρ st).bind fun ds st1 => .lift (o st1 ds) st1
theorem e_callB {id : String} {o : Sto → List D → Option D} {g : Ea} (hc : CallS X (.builtin id) o) (hg : Gl X x) (hm : X.mg x = none) (hv : bootBuiltins x = some (.builtin id)) (ha : PA X (e :: es) (tA X.K W g)) (hn : x ≠ "__name__") (hdb : (x == ("__debug__" : Str)) = false)
    (he : starEach (e :: es) X.env = (false, eval e X.env) :: starEach es X.env) (hpl : (backTo pos (starEach es X.env)).any (·.1) = false) : PE X (.Call (.Name x p) (e :: es) [] pos) (tE X.K W (evB o g)) := by
  refine ⟨fun pins s σ H Q I hw => ?_⟩
  obtain ⟨m, ρ, st, hsl, hst, hp⟩ := hw
  refine wpAny_Call_Name_kw (ld_blt I hg hm hv ?_ hn hdb)
  refine PyProof.Rows.callWith_builtin1 (seqA ha I hsl hst hp fun us s1 vs H1 m1 ds st1 I1 r1 x1 sl1 y1 rv p1 => ?_) he hpl
  cases ez : o st1 ds with
  | none => rw [ez] at p1; exact p1.elim
  | some z =>
    rw [ez] at p1
    exact hc pins s1 σ H1 m1 st1 ds z vs us Q I1 y1 rv r1 ez fun m' H' v' x y r => p1 m' H' x y v' r
theorem e_callTy {T : String} {o : Sto → List D → Option D} {g : Ea} (hc : CallS X (.type T) o) (hg : Gl X x) (hm : X.mg x = none) (hv : bootBuiltins x = some (.type T)) (ha : PA X (e :: es) (tA X.K W g)) (hn : x ≠ "__name__") (hdb : (x == ("__debug__" : Str)) = false)
    (he : starEach (e :: es) X.env = (false, eval e X.env) :: starEach es X.env) (hpl : (backTo pos (starEach es X.env)).any (·.1) = false) : PE X (.Call (.Name x p) (e :: es) [] pos) (tE X.K W (evB o g)) := by
  refine ⟨fun pins s σ H Q I hw => ?_⟩
  obtain ⟨m, ρ, st, hsl, hst, hp⟩ := hw
  refine wpAny_Call_Name_kw (ld_blt I hg hm hv ?_ hn hdb)
  refine PyProof.Rows.callWith_type1 (seqA ha I hsl hst hp fun us s1 vs H1 m1 ds st1 I1 r1 x1 sl1 y1 rv p1 => ?_) he hpl
  cases ez : o st1 ds with
  | none => rw [ez] at p1; exact p1.elim
  | some z =>
    rw [ez] at p1
    exact hc pins s1 σ H1 m1 st1 ds z vs us Q I1 y1 rv r1 ez fun m' H' v' x y r => p1 m' H' x y v' r

/-- lists of ints, of bools -/
def intsOf : List D → Option (List Int)
  | [] => some []
  | .int i :: r => (intsOf r).map (i :: ·)
  | _ => none
def blsOf : List D → Option (List Bool)
  | [] => some []
  | .bl b :: r => (blsOf r).map (b :: ·)
  | _ => none
theorem intsOf_map : ∀ ns : List Int, intsOf (ns.map D.int) = some ns
  | [] => rfl
  | n :: ns => by rw [List.map_cons, intsOf, intsOf_map ns]; rfl
theorem blsOf_map : ∀ ns : List Bool, blsOf (ns.map D.bl) = some ns
  | [] => rfl
  | n :: ns => by rw [List.map_cons, blsOf, blsOf_map ns]; rfl
theorem intsOf_inv : ∀ {xs : List D} {ns : List Int}, intsOf xs = some ns → xs = ns.map D.int
  | [], _, h => by cases h; rfl
  | d :: r, ns, h => by
    cases d with
    | int i =>
      rw [intsOf] at h
      cases e : intsOf r with
      | none => rw [e] at h; cases h
      | some ms => rw [e] at h; cases h; rw [intsOf_inv e]; rfl
    | _ => cases h
theorem blsOf_inv : ∀ {xs : List D} {ns : List Bool}, blsOf xs = some ns → xs = ns.map D.bl
  | [], _, h => by cases h; rfl
  | d :: r, ns, h => by
    cases d with
    | bl i =>
      rw [blsOf] at h
      cases e : blsOf r with
      | none => rw [e] at h; cases h
      | some ms => rw [e] at h; cases h; rw [blsOf_inv e]; rfl
    | _ => cases h
theorem reps_ints {K : PySem.W.Frag} {H : Hp} : ∀ {ns : List Int} {vs : List V}, Reps K m H (ns.map D.int) vs → vs = ns.map V.int
  | [], _, h => h.nil_inv
  | n :: ns, _, h => by
    obtain ⟨v, r, rfl, h1, h2⟩ := h.cons_inv
    rw [iInt h1, reps_ints h2]; rfl
theorem reps_bls {K : PySem.W.Frag} {H : Hp} : ∀ {ns : List Bool} {vs : List V}, Reps K m H (ns.map D.bl) vs → vs = ns.map V.bl
  | [], _, h => h.nil_inv
  | n :: ns, _, h => by
    obtain ⟨v, r, rfl, h1, h2⟩ := h.cons_inv
    rw [iBl h1, reps_bls h2]; rfl
theorem reps1 {K : PySem.W.Frag} {H : Hp} {d : D} {vs : List V} (h : Reps K m H [d] vs) : ∃ v, vs = [v] ∧ Rep K m H d v := by
  obtain ⟨v, r, rfl, h1, h2⟩ := h.cons_inv
  rw [h2.nil_inv]; exact ⟨v, rfl, h1⟩
theorem reps2 {K : PySem.W.Frag} {H : Hp} {d d' : D} {vs : List V} (h : Reps K m H [d, d'] vs) : ∃ v v', vs = [v, v'] ∧ Rep K m H d v ∧ Rep K m H d' v' := by
  obtain ⟨v, r, rfl, h1, h2⟩ := h.cons_inv
  obtain ⟨w, rfl, h3⟩ := reps1 h2
  exact ⟨v, w, rfl, h1, h3⟩

def one1 {α : Type} (f : D → Option α) : List D → Option α
  | [d] => f d
  | _ => none
theorem one1_inv {α : Type} {f : D → Option α} {ds : List D} {z : α} (h : one1 f ds = some z) : ∃ d, ds = [d] ∧ f d = some z := by
  match ds, h with
  | [d], h => exact ⟨d, rfl, h⟩
/-- len -/
def bLen (st : Sto) : List D → Option D := one1 fun d => match d with
  | .str z => if z.length ≤ 1000000 then some (.int z.length) else none
  | d => (items st d).map fun xs => .int xs.length
theorem cLen : CallS X (.builtin "len") bLen := by
  intro pins s σ H m st ds z vs us Q I hst rv ru ho q
  obtain ⟨d, rfl, ho⟩ := one1_inv ho
  obtain ⟨v, rfl, r⟩ := reps1 rv
  have go : (items st d).map (fun xs => D.int xs.length) = some z → wpAny (model X.prog X.w) X.A (call (.builtin "len") us) (EP X pins σ Q) X.xe s := fun ho => by
    obtain ⟨xs, e, rfl⟩ := Option.map_eq_some_iff.mp ho
    obtain ⟨a, vs, rfl, h1, h2⟩ := items_rep hst e r
    exact call_len_seq pins s σ H _ us Q I ru ⟨a, vs, rfl, h1, q m H _ .refl hst (by rw [h2.len]; exact rInt)⟩
  cases d with
  | str y =>
    have ho : (if y.length ≤ 1000000 then some (D.int y.length) else none) = some z := ho
    split at ho
    · rename_i hz
      cases ho
      rw [iStr r] at ru
      exact call_len_str pins s σ H _ us Q I ru ⟨_, rfl, mil_line hz, q m H _ .refl hst rInt⟩
    · cases ho
  | _ => exact go ho
def bAll (st : Sto) : List D → Option D := one1 fun d => ((itemsL st d).bind blsOf).map fun bs => .bl (bs.all id)
def bAny (st : Sto) : List D → Option D := one1 fun d => ((itemsL st d).bind blsOf).map fun bs => .bl (bs.any id)
def bSum (st : Sto) : List D → Option D := one1 fun d => ((itemsL st d).bind intsOf).map fun ns => .int ns.sum
theorem bls_rep {K : PySem.W.Frag} {H : Hp} {d : D} {v : V} {bs : List Bool} (hst : RepSt K m H st) (h : (itemsL st d).bind blsOf = some bs) (r : Rep K m H d v) : ∃ a, v = .ref a ∧ SqL K H a (bs.map V.bl) := by
  obtain ⟨xs, e, e2⟩ := Option.bind_eq_some_iff.mp h
  obtain ⟨a, vs, rfl, h1, h2⟩ := itemsL_rep hst e r
  rw [blsOf_inv e2] at h2
  rw [reps_bls h2] at h1
  exact ⟨a, rfl, h1⟩
theorem ints_rep {K : PySem.W.Frag} {H : Hp} {d : D} {v : V} {bs : List Int} (hst : RepSt K m H st) (h : (itemsL st d).bind intsOf = some bs) (r : Rep K m H d v) : ∃ a, v = .ref a ∧ SqL K H a (bs.map V.int) := by
  obtain ⟨xs, e, e2⟩ := Option.bind_eq_some_iff.mp h
  obtain ⟨a, vs, rfl, h1, h2⟩ := itemsL_rep hst e r
  rw [intsOf_inv e2] at h2
  rw [reps_ints h2] at h1
  exact ⟨a, rfl, h1⟩
theorem cAll (hc : X.calm = true) : CallS X (.builtin "all") bAll := by
  intro pins s σ H m st ds z vs us Q I hst rv ru ho q
  obtain ⟨d, rfl, ho⟩ := one1_inv ho
  obtain ⟨v, rfl, r⟩ := reps1 rv
  obtain ⟨bs, e, rfl⟩ := Option.map_eq_some_iff.mp ho
  obtain ⟨a, rfl, h1⟩ := bls_rep hst e r
  exact cr_all hc pins s σ H _ us Q I ru ⟨a, bs, rfl, h1, q m H _ .refl hst rBl⟩
theorem cAny (hc : X.calm = true) : CallS X (.builtin "any") bAny := by
  intro pins s σ H m st ds z vs us Q I hst rv ru ho q
  obtain ⟨d, rfl, ho⟩ := one1_inv ho
  obtain ⟨v, rfl, r⟩ := reps1 rv
  obtain ⟨bs, e, rfl⟩ := Option.map_eq_some_iff.mp ho
  obtain ⟨a, rfl, h1⟩ := bls_rep hst e r
  exact cr_any hc pins s σ H _ us Q I ru ⟨a, bs, rfl, h1, q m H _ .refl hst rBl⟩
theorem cSum (hc : X.calm = true) : CallS X (.builtin "sum") bSum := by
  intro pins s σ H m st ds z vs us Q I hst rv ru ho q
  obtain ⟨d, rfl, ho⟩ := one1_inv ho
  obtain ⟨v, rfl, r⟩ := reps1 rv
  obtain ⟨bs, e, rfl⟩ := Option.map_eq_some_iff.mp ho
  obtain ⟨a, rfl, h1⟩ := ints_rep hst e r
  exact cr_sum hc pins s σ H _ us Q I ru ⟨a, bs, rfl, h1, q m H _ .refl hst rInt⟩
def maxI : List Int → Option Int
  | [] => none
  | x :: r => some (r.foldl max x)
def minI : List Int → Option Int
  | [] => none
  | x :: r => some (r.foldl min x)
theorem foldl_max : ∀ (r : List Int) (x : Int), (r.foldl max x = x ∨ r.foldl max x ∈ r) ∧ x ≤ r.foldl max x ∧ ∀ y ∈ r, y ≤ r.foldl max x
  | [], x => ⟨.inl rfl, Int.le_refl _, fun _ h => nomatch h⟩
  | z :: r, x => by
    obtain ⟨h1, h2, h3⟩ := foldl_max r (max x z)
    rw [List.foldl_cons]
    refine ⟨?_, by omega, fun y hy => ?_⟩
    · rcases h1 with h1 | h1
      · rw [h1]
        by_cases hz : x ≤ z
        · exact .inr (by rw [Int.max_eq_right hz]; exact List.mem_cons_self)
        · exact .inl (Int.max_eq_left (by omega))
      · exact .inr (List.mem_cons_of_mem _ h1)
    · rcases List.mem_cons.mp hy with rfl | hy
      · omega
      · exact h3 y hy
theorem foldl_min : ∀ (r : List Int) (x : Int), (r.foldl min x = x ∨ r.foldl min x ∈ r) ∧ r.foldl min x ≤ x ∧ ∀ y ∈ r, r.foldl min x ≤ y
  | [], x => ⟨.inl rfl, Int.le_refl _, fun _ h => nomatch h⟩
  | z :: r, x => by
    obtain ⟨h1, h2, h3⟩ := foldl_min r (min x z)
    rw [List.foldl_cons]
    refine ⟨?_, by omega, fun y hy => ?_⟩
    · rcases h1 with h1 | h1
      · rw [h1]
        by_cases hz : z ≤ x
        · exact .inr (by rw [Int.min_eq_right hz]; exact List.mem_cons_self)
        · exact .inl (Int.min_eq_left (by omega))
      · exact .inr (List.mem_cons_of_mem _ h1)
    · rcases List.mem_cons.mp hy with rfl | hy
      · omega
      · exact h3 y hy
theorem maxI_is {ns : List Int} {k : Int} (h : maxI ns = some k) : k ∈ ns ∧ ∀ y ∈ ns, y ≤ k := by
  cases ns with
  | nil => cases h
  | cons x r =>
    cases h
    obtain ⟨h1, h2, h3⟩ := foldl_max r x
    refine ⟨?_, fun y hy => ?_⟩
    · rcases h1 with h1 | h1
      · rw [h1]; exact List.mem_cons_self
      · exact List.mem_cons_of_mem _ h1
    · rcases List.mem_cons.mp hy with rfl | hy
      · exact h2
      · exact h3 y hy
theorem minI_is {ns : List Int} {k : Int} (h : minI ns = some k) : k ∈ ns ∧ ∀ y ∈ ns, k ≤ y := by
  cases ns with
  | nil => cases h
  | cons x r =>
    cases h
    obtain ⟨h1, h2, h3⟩ := foldl_min r x
    refine ⟨?_, fun y hy => ?_⟩
    · rcases h1 with h1 | h1
      · rw [h1]; exact List.mem_cons_self
      · exact List.mem_cons_of_mem _ h1
    · rcases List.mem_cons.mp hy with rfl | hy
      · exact h2
      · exact h3 y hy
def bMax (st : Sto) : List D → Option D
  | [.int i, .int j] => some (.int (if j > i then j else i))
  | [d] => (((itemsL st d).bind intsOf).bind maxI).map .int
  | _ => none
def bMin0 (st : Sto) : List D → Option D
  | [.int i, .int j] => some (.int (if j < i then j else i))
  | [d] => (((itemsL st d).bind intsOf).bind minI).map .int
  | _ => none
theorem cMax (hc : X.calm = true) : CallS X (.builtin "max") bMax := by
  intro pins s σ H m st ds z vs us Q I hst rv ru ho q
  unfold bMax at ho
  split at ho
  · rename_i i j
    cases ho
    obtain ⟨v, w, rfl, r1, r2⟩ := reps2 rv
    rw [iInt r1, iInt r2] at ru
    exact call_max2 hc pins s σ H _ us Q I ru ⟨i, j, rfl, q m H _ .refl hst rInt⟩
  · rename_i d
    obtain ⟨v, rfl, r⟩ := reps1 rv
    obtain ⟨k, e, rfl⟩ := Option.map_eq_some_iff.mp ho
    obtain ⟨ns, e1, e2⟩ := Option.bind_eq_some_iff.mp e
    obtain ⟨a, rfl, h1⟩ := ints_rep hst e1 r
    obtain ⟨k1, k2⟩ := maxI_is e2
    refine cr_max hc pins s σ H _ us Q I ru ⟨a, ns, rfl, h1, List.length_pos_of_mem k1, fun k' h1 h2 => ?_⟩
    have ek : k' = k := Int.le_antisymm (k2 k' h1) (h2 k k1)
    rw [ek]
    exact q m H _ .refl hst rInt
  · cases ho
theorem cMin0 (hc : X.calm = true) : CallS X (.builtin "min") bMin0 := by
  intro pins s σ H m st ds z vs us Q I hst rv ru ho q
  unfold bMin0 at ho
  split at ho
  · rename_i i j
    cases ho
    obtain ⟨v, w, rfl, r1, r2⟩ := reps2 rv
    rw [iInt r1, iInt r2] at ru
    exact call_min2 hc pins s σ H _ us Q I ru ⟨i, j, rfl, q m H _ .refl hst rInt⟩
  · rename_i d
    obtain ⟨v, rfl, r⟩ := reps1 rv
    obtain ⟨k, e, rfl⟩ := Option.map_eq_some_iff.mp ho
    obtain ⟨ns, e1, e2⟩ := Option.bind_eq_some_iff.mp e
    obtain ⟨a, rfl, h1⟩ := ints_rep hst e1 r
    obtain ⟨k1, k2⟩ := minI_is e2
    refine cr_min hc pins s σ H _ us Q I ru ⟨a, ns, rfl, h1, List.length_pos_of_mem k1, fun k' h1 h2 => ?_⟩
    have ek : k' = k := Int.le_antisymm (h2 k k1) (k2 k' h1)
    rw [ek]
    exact q m H _ .refl hst rInt
  · cases ho
/-- tuple(xs), list(xs), int(n), bool(b) -/
def bTuple (st : Sto) : List D → Option D := one1 fun d => match d with
  | .tup xs => some (.tup xs)
  | d => (itemsL st d).map .tup
def bList (st : Sto) : List D → Option D := one1 fun d => (items st d).map .lst
def bInt (_ : Sto) : List D → Option D := one1 fun d => match d with
  | .int i => some (.int i)
  | .bl b => some (.int (if b then 1 else 0))
  | .str a => if a.length ≤ 640 then (PySem.intText? a).map .int else none
  | _ => none
def bBool (_ : Sto) : List D → Option D := one1 fun d => match d with
  | .bl b => some (.bl b)
  | _ => none
theorem cTuple : CallS X (.type "tuple") bTuple := by
  intro pins s σ H m st ds z vs us Q I hst rv ru ho q
  obtain ⟨d, rfl, ho⟩ := one1_inv ho
  obtain ⟨v, rfl, r⟩ := reps1 rv
  have go : (itemsL st d).map D.tup = some z → wpAny (model X.prog X.w) X.A (call (.type "tuple") us) (EP X pins σ Q) X.xe s := fun ho => by
    obtain ⟨xs, e, rfl⟩ := Option.map_eq_some_iff.mp ho
    obtain ⟨a, vs, rfl, h1, h2⟩ := itemsL_rep hst e r
    exact call_tuple_of pins s σ H _ us Q I ru ⟨a, vs, rfl, .inl ⟨h1, fun l hl => q m _ _ (.new hl) (hst.new hl) (.tup_new hl h2)⟩⟩
  cases d with
  | tup xs =>
    cases ho
    obtain ⟨a, vs, rfl, h1, h2⟩ := tup_rep r
    exact call_tupleT pins s σ H _ us Q I ru ⟨a, vs, rfl, h1, q m H _ .refl hst r⟩
  | _ => exact go ho
theorem cList : CallS X (.type "list") bList := by
  intro pins s σ H m st ds z vs us Q I hst rv ru ho q
  obtain ⟨d, rfl, ho⟩ := one1_inv ho
  obtain ⟨v, rfl, r⟩ := reps1 rv
  obtain ⟨xs, e, rfl⟩ := Option.map_eq_some_iff.mp ho
  obtain ⟨a, vs, rfl, h1, h2⟩ := items_rep hst e r
  exact call_list_of pins s σ H _ us Q I ru ⟨a, vs, rfl, h1, fun l hl => q m _ _ (.new hl) (hst.new hl) (.lst_new hst hl h2)⟩
theorem cInt : CallS X (.type "int") bInt := by
  intro pins s σ H m st ds z vs us Q I hst rv ru ho q
  obtain ⟨d, rfl, ho⟩ := one1_inv ho
  obtain ⟨v, rfl, r⟩ := reps1 rv
  cases d with
  | int i =>
    cases ho
    rw [iInt r] at ru
    exact call_int1 pins s σ H _ us Q I ru (.inl ⟨i, rfl, q m H _ .refl hst rInt⟩)
  | bl b =>
    cases ho
    rw [iBl r] at ru
    exact call_int1 pins s σ H _ us Q I ru (.inr ⟨b, rfl, q m H _ .refl hst rInt⟩)
  | str a =>
    have e : (if a.length ≤ 640 then (PySem.intText? a).map D.int else none) = some z := ho
    split at e
    · rename_i hc
      obtain ⟨n, hn, rfl⟩ := Option.map_eq_some_iff.mp e
      rw [iStr r] at ru
      exact call_int_str pins s σ H _ us Q I ru ⟨a, n, rfl, hn, hc, q m H _ .refl hst rInt⟩
    · cases e
  | _ => cases ho
theorem cBool : CallS X (.type "bool") bBool := by
  intro pins s σ H m st ds z vs us Q I hst rv ru ho q
  obtain ⟨d, rfl, ho⟩ := one1_inv ho
  obtain ⟨v, rfl, r⟩ := reps1 rv
  cases d with
  | bl b =>
    cases ho
    rw [iBl r] at ru
    exact call_bool1 pins s σ H _ us Q I ru (.inr ⟨b, rfl, q m H _ .refl hst rBl⟩)
  | _ => cases ho
/-! ### isinstance(e, T), T a built-in type by its name -/
def tyName : D → Option String
  | .non => some "NoneType"
  | .bl _ => some "bool"
  | .int _ => some "int"
  | .str _ => some "str"
  | .tup _ => some "tuple"
  | .lst _ => some "list"
  | .scr _ => some "list"
  | .ref _ => some "list"
  | .glo _ => none
  | .clo _ _ _ => none
  | .ins _ _ => none
theorem tyX_of {K : PySem.W.Frag} {H : Hp} {d : D} {v : V} {n : String} (hst : RepSt K m H st) (h : tyName d = some n) (r : Rep K m H d v) : TyX K H v (.type n) := by
  have lst : ∀ {a xs}, SqL K H a xs → TyX K H (.ref a) (.type "list") := fun {a xs} h => by
    rcases h with (h | ⟨o, h⟩) | ⟨o, its, n, h, hc, _⟩
    · exact .base (.lst h)
    · exact .base (.frz h)
    · exact .kList h hc
  cases d with
  | non => cases h; rw [iNon r]; exact .base .non
  | bl _ => cases h; rw [iBl r]; exact .base (.bl _)
  | int _ => cases h; rw [iInt r]; exact .base (.int _)
  | str _ => cases h; rw [iStr r]; exact .base (.str _)
  | tup xs =>
    cases h
    obtain ⟨a, vs, rfl, h1, _⟩ := tup_rep r
    rcases h1 with (h1 | ⟨o, h1⟩) | ⟨o, its, n, h1, hc, _⟩
    · exact .base (.tup h1)
    · exact .fTuple h1
    · exact .kTuple h1 hc
  | lst xs =>
    cases h
    obtain ⟨a, vs, rfl, h1, _⟩ := itemsL_rep (d := .lst xs) hst rfl r
    exact lst h1
  | scr xs =>
    cases h
    obtain ⟨a, vs, rfl, h1, _⟩ := itemsL_rep (d := .scr xs) hst rfl r
    exact lst h1
  | ref n =>
    cases h
    simp only [Rep] at r
    obtain ⟨a, rfl, h1⟩ := r
    obtain ⟨vs, h2⟩ := hst.there (.inl (List.mem_of_getElem? h1))
    exact .base (.lst h2)
  | glo _ => cases h
  | clo _ _ _ => cases h
  | ins _ _ => cases h
/-- the answers -/
def isTab (T : String) : D → Option Bool
  | .non => kitB "NoneType" T
  | .bl _ => kitB "bool" T
  | .int _ => kitB "int" T
  | .str _ => kitB "str" T
  | .tup _ => kitB "tuple" T
  | .lst _ => kitB "list" T
  | .scr _ => kitB "list" T
  | .ref _ => kitB "list" T
  | .glo _ => none
  | .clo _ _ _ => none
  | .ins _ _ => none
inductive Ty where
  | int | bool | tuple | list | str
  deriving DecidableEq
def Ty.name : Ty → String
  | .int => "int"
  | .bool => "bool"
  | .tuple => "tuple"
  | .list => "list"
  | .str => "str"
/-- what isinstance tells -/
def isD (T : Ty) : D → Option Bool
  | .non => some false
  | .bl _ => some (T == .bool || T == .int)
  | .int _ => some (T == .int)
  | .str _ => some (T == .str)
  | .tup _ => some (T == .tuple)
  | .lst _ => some (T == .list)
  | .scr _ => some (T == .list)
  | .ref _ => some (T == .list)
  | .glo _ => none
  | .clo _ _ _ => none
  | .ins _ _ => none
theorem kit_tab : ∀ T : Ty, kitB "NoneType" T.name = some false ∧ kitB "bool" T.name = some (T == .bool || T == .int) ∧ kitB "int" T.name = some (T == .int) ∧ kitB "str" T.name = some (T == .str) ∧ kitB "tuple" T.name = some (T == .tuple) ∧ kitB "list" T.name = some (T == .list) := fun T => by
  cases T <;> decide +kernel
theorem isD_kit {T : Ty} {d : D} {b : Bool} (h : isD T d = some b) : ∃ n, tyName d = some n ∧ kitB n T.name = some b := by
  obtain ⟨k1, k2, k3, k4, k5, k6⟩ := kit_tab T
  cases d with
  | non => cases h; exact ⟨_, rfl, k1⟩
  | bl _ => cases h; exact ⟨_, rfl, k2⟩
  | int _ => cases h; exact ⟨_, rfl, k3⟩
  | str _ => cases h; exact ⟨_, rfl, k4⟩
  | tup _ => cases h; exact ⟨_, rfl, k5⟩
  | lst _ => cases h; exact ⟨_, rfl, k6⟩
  | scr _ => cases h; exact ⟨_, rfl, k6⟩
  | ref _ => cases h; exact ⟨_, rfl, k6⟩
  | glo _ => cases h
  | clo _ _ _ => cases h
  | ins _ _ => cases h
def evIs (T : Ty) (f : Ev) : Ev := fun ρ st => (f ρ st).bind fun d st1 => .lift ((isD T d).map .bl) st1
theorem e_isinst {T : Ty} {y : Str} {fa : Ev} {p3 : Pos} (hg : Gl X "isinstance") (hm : X.mg "isinstance" = none) (ha : PE X a (tE X.K W fa)) (hgT : Gl X y) (hmT : X.mg y = none) (hv : bootBuiltins y = some (.type T.name)) (hn : y ≠ "__name__") (hdb : (y == ("__debug__" : Str)) = false)
    (h1 : starEach (a :: [.Name y p3]) X.env = (false, eval a X.env) :: starEach [.Name y p3] X.env) :
    PE X (.Call (.Name "isinstance" p) [a, .Name y p3] [] pos) (tE X.K W (evIs T fa)) := by
  refine PE_imp (pe_callB call_isi hg hm boot_isinstance (pa_cons ha (pa_cons (pe_bltn (v := .ty T.name) hgT hmT hv rfl hn hdb) pa_nil) h1) (he := h1)) fun σ H Q hw => ?_
  obtain ⟨m, ρ, st, hsl, hst, hp⟩ := hw
  refine tE_seq hsl hst hp fun v H1 m1 d st1 x1 sl1 y1 rv1 p1 => ?_
  cases e : isD T d with
  | none => rw [e] at p1; exact p1.elim
  | some k =>
    rw [e] at p1
    obtain ⟨n, e1, e2⟩ := isD_kit e
    exact ⟨v, .ty T.name, .type n, .type T.name, k, rfl, .ty _, tyX_of y1 e1 rv1, kit_ty e2, p1 m1 H1 .refl y1 _ rBl⟩
end
end Ip
set_option Elab.async false
set_option linter.all false
set_option maxRecDepth 100000
set_option maxHeartbeats 4000000
namespace Ip
open PySem PySem.Spec PyProof.Rows L2

/-! ### enumerate of a tuple (one argument) -/
theorem mk_enum1 {v : Value} {ob : Obj} {P : Heap → Prop} (B : Begins v ob P) :
    Meets (Builtin.«enumerate.__new__» ⟨[.type "enumerate", v], []⟩) (fun _ R s => P s.heap ∧
      R (.ok (.ret (.ref (s.heap.push ob).objs.size))) { s with heap := (s.heap.push ob).push { cls := .type "enumerate", data := .fields #[.none, .bool false, .ref s.heap.objs.size, rawInt 0, .none, .none] } }) :=
  .of_wp fun prog w A R s hyp => by
    obtain ⟨hp0, g0, d0, t0, o0⟩ := s
    obtain ⟨hyp1, hyp2⟩ := hyp
    have hsub := sub_enumerate
    have gone : ∀ {A2 : Around} {E2 Q2 : Value → Shared → Prop}, Q2 (.ref hp0.objs.size) ⟨hp0.push ob, g0, d0, t0, o0⟩ → wpAny (model prog w) A2 (pyIter v) Q2 E2 ⟨hp0, g0, d0, t0, o0⟩ := fun q => B.iter prog w _ _ ⟨hp0, g0, d0, t0, o0⟩ _ hyp1 q
    wp_walk using gone
    refine wpAny_stack_any fun stk => wpAny_pure ?_
    split
    · rename_i c _ _ _ _ _
      cases (c == Value.type "enumerate")
      · wp_walk using gone
        exact ⟨_, rfl, hyp2⟩
      · wp_walk using gone
        exact ⟨_, rfl, hyp2⟩
    · wp_walk using gone
      exact ⟨_, rfl, hyp2⟩
theorem call_enum1 {prog : Program} {w : World} {A : Around} {E : Value → Shared → Prop} {s : Shared} {v : Value} {ob : Obj} {P : Heap → Prop} {Q : Value → Shared → Prop} (B : Begins v ob P) (hP : P s.heap)
    (k : ∀ h2, IsEnum h2 (s.heap.objs.size + 1) s.heap.objs.size 0 .none → h2.get? s.heap.objs.size = some ob → (∀ b u, s.heap.get? b = some u → h2.get? b = some u) → Q (.ref (s.heap.objs.size + 1)) { s with heap := h2 }) :
    wpAny (model prog w) A (call (.type "enumerate") [v]) Q E s := by
  refine callType_new F.called_enumerate (by decide) (F.typeCall_enumerate_1 _) (F.newCall_enumerate_1 _) (fun z => F.args_object_init_2 z _) F.entry_enumerate_new (mk_enum1 B) ⟨hP, ?_⟩
  have sz : (s.heap.push ob).objs.size = s.heap.objs.size + 1 := Heap.size_push ..
  show _ ∧ _
  rw [sz]
  have en : IsEnum ((s.heap.push ob).push { cls := .type "enumerate", data := .fields #[.none, .bool false, .ref s.heap.objs.size, rawInt 0, .none, .none] }) (s.heap.objs.size + 1) s.heap.objs.size 0 .none := by
    have z := Heap.get?_push_size (s.heap.push ob) (o := { cls := .type "enumerate", data := .fields #[.none, .bool false, .ref s.heap.objs.size, rawInt 0, .none, .none] }) rfl
    rw [sz] at z
    exact z
  exact ⟨⟨_, en, rfl⟩, k _ en (Heap.get?_push_of_some _ (Heap.get?_push_size _ B.free)) fun b u x => Heap.get?_push_of_some _ (Heap.get?_push_of_some _ x)⟩
/-- the tuple at a, each item in a new pair -/
def ItE (K : PySem.W.Frag) (a : Addr) : It :=
  ⟨fun i H => ∃ (xs : List V) (x : V), SqT K H a xs ∧ xs[i]? = some x, fun i H v H' => ∃ T x, v = .ref T ∧ H T = none ∧ H' = upd H T (.tup [.int (i : Nat), x]) ∧ ∀ xs, SqT K H a xs → xs[i]? = some x, fun i H => ∃ xs : List V, SqT K H a xs ∧ i = xs.length⟩
theorem turn_enT {P : Program} {w : World} {K : PySem.W.Frag} {elts : List Expr} {kk : Nat} {tpos : Pos} (a e it : Addr) (ae : a ≠ e) (ai : a ≠ it) (hne : e ≠ it) :
    Turn P w K (.Tuple elts kk tpos) (ItE K a) [e, it] e (fun i h => (∃ old, IsEnum h e it ((i : Nat) : Int) old) ∧ h.IsTupleIter it a i) where
  mem := by simp
  obj := fun i h st b hb => by
    obtain ⟨⟨old, he⟩, o, ho, hc, hd⟩ := st
    simp only [List.mem_cons, List.not_mem_nil, or_false] at hb
    rcases hb with z | z
    · rw [z]; exact ⟨_, he, fun v q => nomatch q⟩
    · rw [z]; exact ⟨o, ho, fun v q => by rw [hd] at q; cases q⟩
  keep := fun i h h' st k => by
    obtain ⟨⟨old, he⟩, hi⟩ := st
    exact ⟨⟨old, k e (by simp) _ he⟩, hi.at fun o q => k it (by simp) o q⟩
  item := by
    intro X eP ew eK hc i pins s σ H E I hf st hg
    subst eP ew eK
    obtain ⟨⟨old, he⟩, hit⟩ := st
    obtain ⟨xs, x, hq, hx⟩ := hg
    obtain ⟨its, rv, p, _⟩ := I.tuple hq
    obtain ⟨u, hu, ru⟩ := rv.get hx
    have el : e < s.heap.objs.size := Heap.lt_size he
    have il : it < s.heap.objs.size := by obtain ⟨_, q, _⟩ := id hit; exact Heap.lt_size q
    have dr := Draws.tuple (prog := X.prog) (w := X.w) (A := X.A.in1) (I.ok.hd hc) it a ai its.toArray
    have lt : i < its.toArray.size := by
      rw [List.size_toArray]
      exact (List.getElem?_eq_some_iff.mp hu).1
    refine wpAny_pyNext_enum_itemD dr he ⟨hit, p⟩ lt hne (by simp only [List.mem_cons, List.not_mem_nil, or_false]; exact fun z => z.elim hne fun q => ae q.symm) fun u' h1 tk e1 ho st1 hT _ hk => ?_
    obtain rfl : u' = u := by
      rw [List.getElem?_toArray, hu] at e1
      exact (Option.some.inj e1).symm
    refine ⟨_, rfl, wpAny_letOwnedTupleGo_enum (s := { s with heap := h1, toks := tk + 1 }) ho fun h2 he2 sb => ?_⟩
    have hT2 : h2.get? s.heap.objs.size = some { cls := .type "tuple", data := .seq #[.int i tk, u'] } := (sb.2 _ (Nat.ne_of_gt el)).trans hT
    have made : ObjOk X.prog X.w (upd H s.heap.objs.size (.tup [.int (i : Nat), x])) h2 s.heap.objs.size (.tup [.int (i : Nat), x]) := ⟨by show 2 ≤ sizeLine; decide, [.int i tk, u'], .cons ⟨_, rfl⟩ (.cons ru .nil), ⟨_, hT2, rfl, _, rfl⟩⟩
    have I1 : Inv X pins σ (upd H s.heap.objs.size (.tup [.int (i : Nat), x])) { s with heap := h2, toks := tk + 1 } := by
      refine I.turnedNew (ch := [e, it]) (fun b ob hb q => ?_) hf (Nat.le_refl _) made
      simp only [List.mem_cons, List.not_mem_nil, or_false, not_or] at hb
      exact (sb.2 b hb.1).trans (hk b ob hb.1 hb.2 q)
    refine ⟨.ref s.heap.objs.size, _, I1, rfl, ⟨_, x, rfl, I.hok.fresh (Nat.le_refl _), rfl, fun ys hy => by rw [I.tuple_inj hy hq]; exact hx⟩, ⟨⟨u', ?_⟩, st1.1.at fun o q => (sb.2 it (Ne.symm hne)).trans q⟩, fun b hb => ?_⟩
    · rw [show ((i + 1 : Nat) : Int) = (i : Int) + 1 by omega]
      exact he2
    · have lt' : b < s.heap.objs.size := by
        simp only [List.mem_cons, List.not_mem_nil, or_false] at hb
        rcases hb with z | z
        · rw [z]; exact el
        · rw [z]; exact il
      rw [upd_ne (Nat.ne_of_lt lt')]
      exact (hf b hb).1
  done := by
    intro X eP ew eK hc i pins s σ H E I hf st hg
    subst eP ew eK
    obtain ⟨⟨old, he⟩, hit⟩ := st
    obtain ⟨xs, hq, hx⟩ := hg
    obtain ⟨its, rv, p, _⟩ := I.tuple hq
    obtain ⟨f0, f1, f2, f3, f4, f5⟩ := hf it (by simp)
    have dr := Draws.tuple (prog := X.prog) (w := X.w) (A := X.A.in1) (I.ok.hd hc) it a ai its.toArray
    have es : i = its.toArray.size := by rw [List.size_toArray, ← rv.length]; exact hx
    refine wpAny_pyNext_enum_endD dr he ⟨es ▸ hit, p⟩ fun h1 eb => ⟨rfl, I.turned (t' := s.toks) (fun b o hb q => eb b o hb q) f0 f1 f3 f4 f5⟩
  self := fun A i s Q E st h => by
    obtain ⟨⟨_, he⟩, _⟩ := st
    exact wpAny_pyIter_enum he h
def iEnT (K : PySem.W.Frag) (ta : TA) : TI := fun σ H R => ta σ H fun vs H1 => ∃ a xs, vs = [.ref a] ∧ SqT K H1 a xs ∧ R (ItE K a) H1
theorem pi_enT {X : Cx} {e : Expr} {ta : TA} {p pos tpos : Pos} {elts : List Expr} {kk : Nat} (hg : Gl X "enumerate") (hm : X.mg "enumerate" = none) (ha : PA X [e] ta) (hs : starEach [e] X.env = [(false, eval e X.env)]) :
    PI X (.Tuple elts kk tpos) (.Call (.Name "enumerate" p) [e] [] pos) (iEnT X.K ta) := by
  refine ⟨fun pins s σ H R I h => ?_⟩
  refine Call_ (ld_blt I hg hm boot_enumerate (PyProof.Rows.callWith_type1 (thn (ha.run pos pins s σ H _ I h) fun us s1 ⟨vs, H1, I1, r1, q1⟩ => ?_) hs rfl))
  obtain ⟨a, xs, rfl, hq, q⟩ := q1
  obtain ⟨u, rfl, r⟩ := vals1 r1
  cases r
  obtain ⟨its, rv, p', _⟩ := I1.tuple hq
  have al : a < s1.heap.objs.size := by obtain ⟨_, z, _⟩ := id p'; exact Heap.lt_size z
  refine call_enum1 (begins_tuple a its.toArray) p' fun h2 he ho hk => wpAny_pyIter_enum he ?_
  have I2 : Inv X pins σ H1 { s1 with heap := h2 } := I1.kept (t' := s1.toks) hk
  refine ⟨s1.heap.objs.size + 1, [s1.heap.objs.size + 1, s1.heap.objs.size], _, _, H1, rfl, I2, turn_enT a (s1.heap.objs.size + 1) s1.heap.objs.size (Nat.ne_of_lt (Nat.lt_succ_of_lt al)) (Nat.ne_of_lt al) (Nat.succ_ne_self _), ⟨⟨.none, he⟩, ⟨_, ho, rfl, rfl⟩⟩, fun b hb => ?_, q⟩
  have le : s1.heap.objs.size ≤ b := by
    simp only [List.mem_cons, List.not_mem_nil, or_false] at hb
    rcases hb with z | z
    · rw [z]; exact Nat.le_add_right _ _
    · rw [z]; exact Nat.le_refl _
  exact I1.fpOk le (I1.hok.fresh le)
end Ip
set_option Elab.async false
set_option linter.all false
set_option maxRecDepth 100000
set_option maxHeartbeats 4000000
namespace Ip
open PySem PySem.Spec PyProof.Rows L2

/-! ### forgotten slots -/
def wipeS (ρ : Sl) : List Nat → Sl
  | [] => ρ
  | v :: vs => (wipeS ρ vs).set v none
theorem wipe_self {σ : L2.St} {j : Nat} : ∀ {vs : List Nat}, j ∈ vs → (wipe σ vs)[j]? = if j < σ.length then some none else none
  | [], h => nomatch h
  | v :: vs, h => by
    show ((wipe σ vs).set v none)[j]? = _
    rw [List.getElem?_set]
    by_cases hv : v = j
    · rw [if_pos hv, wipe_length, hv]
    · rw [if_neg hv]
      exact wipe_self ((List.mem_cons.mp h).resolve_left fun z => hv z.symm)
theorem wipe_get (σ : L2.St) (vs : List Nat) (j : Nat) : (wipe σ vs)[j]? = if j ∈ vs then (if j < σ.length then some none else none) else σ[j]? := by
  by_cases h : j ∈ vs
  · rw [if_pos h, wipe_self h]
  · rw [if_neg h, wipe_out h]
/-- the slots but those of vs are the same -/
def Same (ts : List Nat) (σ σ' : L2.St) : Prop := σ'.length = σ.length ∧ ∀ j, j ∉ ts → σ'[j]? = σ[j]?
theorem Same.rfl' {ts : List Nat} {σ : L2.St} : Same ts σ σ := ⟨rfl, fun _ _ => rfl⟩
theorem Same.trans {ts us : List Nat} {σ σ1 σ2 : L2.St} (a : Same ts σ σ1) (b : Same us σ1 σ2) : Same (ts ++ us) σ σ2 :=
  ⟨b.1.trans a.1, fun j h => by rw [List.mem_append, not_or] at h; exact (b.2 j h.2).trans (a.2 j h.1)⟩
theorem Same.set {i : Nat} {σ : L2.St} {v : Option V} : Same [i] σ (σ.set i v) := ⟨List.length_set, fun j h => by
  rw [List.getElem?_set_ne fun z => h (by rw [z]; exact List.mem_singleton.mpr rfl)]⟩
theorem Same.wipe {ts vs : List Nat} {σ σ' : L2.St} (h : Same ts (L2.wipe σ vs) σ') (hs : ∀ i ∈ ts, i ∈ vs) : L2.wipe σ' vs = L2.wipe σ vs := by
  have hl : σ'.length = σ.length := h.1.trans (wipe_length _ _)
  apply List.ext_getElem?
  intro j
  rw [wipe_get, wipe_get, hl]
  by_cases hj : j ∈ vs
  · rw [if_pos hj, if_pos hj]
  · rw [if_neg hj, if_neg hj, h.2 j fun z => hj (hs j z), wipe_get, if_neg hj]
theorem wipeS_length (ρ : Sl) : ∀ vs : List Nat, (wipeS ρ vs).length = ρ.length
  | [] => rfl
  | v :: vs => by unfold wipeS; rw [List.length_set, wipeS_length ρ vs]
theorem RepSl.wipe {K : PySem.W.Frag} {m : MX} {H : Hp} {ρ : Sl} {σ : L2.St} (h : RepSl K m H ρ σ) : ∀ vs : List Nat, RepSl K m H (wipeS ρ vs) (L2.wipe σ vs)
  | [] => h
  | v :: vs => by
    have ih := RepSl.wipe h vs
    refine ⟨by rw [wipeS_length, wipe_length, h.1], fun i d q => ?_⟩
    have q : ((wipeS ρ vs).set v none)[i]? = some (some d) := q
    show ∃ w, ((L2.wipe σ vs).set v none)[i]? = some (some w) ∧ _
    by_cases hv : v = i
    · rw [List.getElem?_set, if_pos hv] at q
      split at q <;> cases q
    · rw [List.getElem?_set_ne hv] at q ⊢
      exact ih.2 i d q

/-! ### targets -/
abbrev Tg := D → Sl → Option Sl
abbrev Tgs := List D → Sl → Option Sl
def tG (K : PySem.W.Frag) (ts : List Nat) (f : Tg) : TG := fun v σ H Q => ∃ m d ρ ρ', RepSl K m H ρ σ ∧ Rep K m H d v ∧ f d ρ = some ρ' ∧ ∀ σ', RepSl K m H ρ' σ' → Same ts σ σ' → Q σ' H
def tGs (K : PySem.W.Frag) (ts : List Nat) (f : Tgs) : TGs := fun vs σ H Q => ∃ m ds ρ ρ', RepSl K m H ρ σ ∧ Reps K m H ds vs ∧ f ds ρ = some ρ' ∧ ∀ σ', RepSl K m H ρ' σ' → Same ts σ σ' → Q σ' H
def gN (i : Nat) : Tg := fun d ρ => some (ρ.set i (some d))
def gsNil : Tgs := fun ds ρ => match ds with
  | [] => some ρ
  | _ => none
def gsCons (f : Tg) (g : Tgs) : Tgs := fun ds ρ => match ds with
  | d :: r => (f d ρ).bind (g r)
  | _ => none
def gT (n : Nat) (f : Tgs) : Tg := fun d ρ => match d with
  | .tup ds => if ds.length = n then f ds ρ else none
  | .lst ds => if ds.length = n then f ds ρ else none
  | _ => none
/-- of a tuple alone -/
def gTu (n : Nat) (f : Tgs) : Tg := fun d ρ => match d with
  | .tup ds => if ds.length = n then f ds ρ else none
  | _ => none
section
variable {X : Cx} {pos : Pos} {e : Expr} {es : List Expr} {ts us : List Nat} {f : Tg} {g : Tgs}
theorem PG_imp {t t' : TG} (h : PG X e t) (k : ∀ v σ H Q, t' v σ H Q → t v σ H Q) : PG X e t' := ⟨fun pins s σ H v u Q I r q => h.run pins s σ H v u Q I r (k v σ H Q q)⟩
theorem PGs_imp {t t' : TGs} (h : PGs X es t) (k : ∀ v σ H Q, t' v σ H Q → t v σ H Q) : PGs X es t' := ⟨fun pins s σ H v u Q I r q => h.run pins s σ H v u Q I r (k v σ H Q q)⟩
theorem g_name {i : Nat} {x : Str} (hN : X.N.Nodup) (hi : X.N[i]? = some x) (hx : Loc X.env.scope x) (hf : X.fn x = true ∨ X.env.scope.names.lookup x = some .local) : PG X (.Name x pos) (tG X.K [i] (gN i)) := by
  refine PG_imp (pg_name hN hi hx hf) fun v σ H Q hw => ?_
  obtain ⟨m, d, ρ, ρ', hsl, r, e, k⟩ := hw
  cases e
  exact k _ (hsl.set r) .set
theorem gs_nil : PGs X [] (tGs X.K [] gsNil) := by
  refine PGs_imp pgs_nil fun vs σ H Q hw => ?_
  obtain ⟨m, ds, ρ, ρ', hsl, r, e, k⟩ := hw
  cases ds with
  | nil => cases e; exact ⟨r.nil_inv, k _ hsl .rfl'⟩
  | cons _ _ => cases e
theorem gs_cons (h1 : PG X e (tG X.K ts f)) (h2 : PGs X es (tGs X.K us g)) (hs : (assignEach (e :: es) X.env).map (·.2) = assign e X.env :: (assignEach es X.env).map (·.2)) : PGs X (e :: es) (tGs X.K (ts ++ us) (gsCons f g)) := by
  refine PGs_imp (pgs_cons h1 h2 hs) fun vs σ H Q hw => ?_
  obtain ⟨m, ds, ρ, ρ', hsl, r, e, k⟩ := hw
  cases ds with
  | nil => cases e
  | cons d ds =>
    obtain ⟨v, vr, rfl, r1, r2⟩ := r.cons_inv
    obtain ⟨ρ1, e1, e2⟩ := Option.bind_eq_some_iff.mp e
    refine ⟨v, vr, rfl, m, d, ρ, ρ1, hsl, r1, e1, fun σ1 hsl1 s1 => ?_⟩
    exact ⟨m, ds, ρ1, ρ', hsl1, r2, e2, fun σ2 hsl2 s2 => k σ2 hsl2 (s1.trans s2)⟩
theorem g_tup {n k : Nat} (hc : X.calm = true) (h : PGs X es (tGs X.K ts g)) (hn : (assignEach es X.env).length = n) (hst : (assignEach es X.env).findIdx? (·.1) = none) : PG X (.Tuple es k pos) (tG X.K ts (gT n g)) := by
  refine ⟨fun pins s σ H v u Q I ru hw => ?_⟩
  obtain ⟨m, d, ρ, ρ', hsl, r, e, q⟩ := hw
  cases d with
  | tup ds =>
    have e : (if ds.length = n then g ds ρ else none) = some ρ' := e
    split at e
    · rename_i hl
      obtain ⟨a, vs, rfl, h1, h2⟩ := tup_rep r
      exact (pg_tup hc h hn hst).run pins s σ H _ u Q I ru ⟨a, vs, rfl, h1, by rw [h2.len]; exact hl, m, ds, ρ, ρ', hsl, h2, e, q⟩
    · cases e
  | lst ds =>
    have e : (if ds.length = n then g ds ρ else none) = some ρ' := e
    split at e
    · rename_i hl
      simp only [Rep] at r
      obtain ⟨a, vs, rfl, h1, _, h2⟩ := r
      exact (pg_lst hc h hn hst).run pins s σ H _ u Q I ru ⟨a, vs, rfl, .inl h1, by rw [h2.len]; exact hl, m, ds, ρ, ρ', hsl, h2, e, q⟩
    · cases e
  | _ => cases e
end

/-! ### what is walked -/
structure Yields (K : PySem.W.Frag) (m : MX) (H : Hp) (J : It) (ds : List D) : Prop where
  go : ∀ m' H' i, Wk m H m' H' → i < ds.length → J.go i H'
  yl : ∀ m' H' i v H'' d, Wk m H m' H' → ds[i]? = some d → J.yld i H' v H'' → (H'' = H' ∨ ∃ T xs, H' T = none ∧ H'' = upd H' T (.tup xs)) ∧ Rep K m' H'' d v
  st : ∀ m' H', Wk m H m' H' → J.stop ds.length H'
def tI (K : PySem.W.Frag) (W : WX) (f : Ea) : TI := fun σ H R => ∃ m ρ st, RepSl K m H ρ σ ∧ RepSt K m H st ∧ Post K W σ m H (f ρ st) fun ds _ m' H' => ∀ J, Yields K m' H' J ds → R J H'
theorem PI_imp {X : Cx} {tg e : Expr} {t t' : TI} (h : PI X tg e t) (k : ∀ σ H R, t' σ H R → t σ H R) : PI X tg e t' := ⟨fun pins s σ H R I q => h.run pins s σ H R I (k σ H R q)⟩
/-- items that nobody changes -/
def fixed : D → Option (List D)
  | .tup xs => some xs
  | .lst xs => some xs
  | .scr xs => some xs
  | _ => none
section
variable {K : PySem.W.Frag} {m m' : MX} {H H' : Hp} {a : Addr} {xs ys : List D} {vs us : List V}
/-- a list that nobody changes -/
def Fix (K : PySem.W.Frag) (m : MX) (H : Hp) (a : Addr) (vs : List V) : Prop := (Rd H a (.lst vs) ∧ ¬ m.has a) ∨ ∀ H', SqL K H' a vs
theorem Fix.sq (h : Fix K m H a vs) : SqL K H a vs := h.elim (fun z => .inl z.1) fun z => z H
theorem Fix.wk (e : Wk m H m' H') (h : Fix K m H a vs) : Fix K m' H' a vs := h.imp (fun ⟨x, y⟩ => e.rd x y) id
theorem yl_list (h : Fix K m H a vs) (r : Reps K m H xs vs) : Yields K m H (Itl K a) xs where
  go := fun m' H' i e hi => by
    rw [← r.len] at hi
    exact ⟨vs, vs[i], (h.wk e).sq, List.getElem?_eq_getElem hi⟩
  yl := fun m' H' i v H'' d e hd y => by
    obtain ⟨rfl, y⟩ := y
    obtain ⟨w, hw, rw'⟩ := (r.wk e).get hd
    have := y vs (h.wk e).sq
    rw [hw] at this; cases this
    exact ⟨.inl rfl, rw'⟩
  st := fun m' H' e => ⟨vs, (h.wk e).sq, Nat.le_of_eq r.len⟩
theorem yl_tup (h : SqT K H a vs) (r : Reps K m H xs vs) : Yields K m H (Itt K a) xs where
  go := fun m' H' i e hi => by
    rw [← r.len] at hi
    exact ⟨vs, vs[i], e.sqT h, List.getElem?_eq_getElem hi⟩
  yl := fun m' H' i v H'' d e hd y => by
    obtain ⟨rfl, y⟩ := y
    obtain ⟨w, hw, rw'⟩ := (r.wk e).get hd
    have := y vs (e.sqT h)
    rw [hw] at this; cases this
    exact ⟨.inl rfl, rw'⟩
  st := fun m' H' e => ⟨vs, e.sqT h, Nat.le_of_eq r.len⟩
def rng (lo : Int) (n : Nat) : List D := (List.range n).map fun (i : Nat) => D.int (lo + i)
theorem yl_range {lo : Int} {n : Nat} : Yields K m H (Itr lo n) (rng lo n) where
  go := fun m' H' i e hi => by
    show i < n
    simpa [rng] using hi
  yl := fun m' H' i v H'' d e hd y => by
    obtain ⟨rfl, rfl⟩ := y
    simp only [rng, List.getElem?_map] at hd
    obtain ⟨j, hj, rfl⟩ := Option.map_eq_some_iff.mp hd
    rw [List.getElem?_range (by
      have := (List.getElem?_eq_some_iff.mp hj).1
      simpa using this)] at hj
    cases hj
    exact ⟨.inl rfl, rInt⟩
  st := fun m' H' e => by show n ≤ _; simp [rng]
/-- pairs of a number and an item -/
def pairN (xs : List D) : List D := xs.zipIdx.map fun p => .tup [.int (p.2 : Nat), p.1]
theorem pairN_len : (pairN xs).length = xs.length := by simp [pairN]
theorem pairN_get {i : Nat} {d : D} (h : (pairN xs)[i]? = some d) : ∃ x, xs[i]? = some x ∧ d = .tup [.int (i : Nat), x] := by
  simp only [pairN, List.getElem?_map, List.getElem?_zipIdx] at h
  obtain ⟨p, hp, rfl⟩ := Option.map_eq_some_iff.mp h
  obtain ⟨x, hx, rfl⟩ := Option.map_eq_some_iff.mp hp
  exact ⟨x, hx, by simp⟩
theorem tup2_new {T : Addr} {H' : Hp} {x y : D} {v w : V} (hn : H' T = none) (r1 : Rep K m H' x v) (r2 : Rep K m H' y w) : Rep K m (upd H' T (.tup [v, w])) (.tup [x, y]) (.ref T) := by
  simp only [Rep]
  exact ⟨T, [v, w], rfl, .inl (.inl upd_same), .cons (r1.mono (.new hn)) (.cons (r2.mono (.new hn)) .nil)⟩
theorem yl_enL (h : Fix K m H a vs) (r : Reps K m H xs vs) : Yields K m H (Ite K a) (pairN xs) where
  go := fun m' H' i e hi => by
    rw [pairN_len, ← r.len] at hi
    exact ⟨vs, vs[i], (h.wk e).sq, List.getElem?_eq_getElem hi⟩
  yl := fun m' H' i v H'' d e hd y => by
    obtain ⟨T, x, rfl, hn, rfl, y⟩ := y
    obtain ⟨z, hz, rfl⟩ := pairN_get hd
    obtain ⟨w, hw, rw'⟩ := (r.wk e).get hz
    have := y vs (h.wk e).sq
    rw [hw] at this; cases this
    exact ⟨.inr ⟨T, _, hn, rfl⟩, tup2_new hn rInt rw'⟩
  st := fun m' H' e => ⟨vs, (h.wk e).sq, by rw [pairN_len, r.len]; exact Nat.le_refl _⟩
theorem yl_enT (h : SqT K H a vs) (r : Reps K m H xs vs) : Yields K m H (ItE K a) (pairN xs) where
  go := fun m' H' i e hi => by
    rw [pairN_len, ← r.len] at hi
    exact ⟨vs, vs[i], e.sqT h, List.getElem?_eq_getElem hi⟩
  yl := fun m' H' i v H'' d e hd y => by
    obtain ⟨T, x, rfl, hn, rfl, y⟩ := y
    obtain ⟨z, hz, rfl⟩ := pairN_get hd
    obtain ⟨w, hw, rw'⟩ := (r.wk e).get hz
    have := y vs (e.sqT h)
    rw [hw] at this; cases this
    exact ⟨.inr ⟨T, _, hn, rfl⟩, tup2_new hn rInt rw'⟩
  st := fun m' H' e => ⟨vs, e.sqT h, by rw [pairN_len, r.len]⟩
def pairZ (xs ys : List D) : List D := (xs.zip ys).map fun p => .tup [p.1, p.2]
theorem pairZ_get {i : Nat} {d : D} (h : (pairZ xs ys)[i]? = some d) : ∃ x y, xs[i]? = some x ∧ ys[i]? = some y ∧ d = .tup [x, y] := by
  simp only [pairZ, List.getElem?_map] at h
  obtain ⟨p, hp, rfl⟩ := Option.map_eq_some_iff.mp h
  rw [List.getElem?_zip_eq_some] at hp
  exact ⟨p.1, p.2, hp.1, hp.2, rfl⟩
theorem pairZ_len : (pairZ xs ys).length = min xs.length ys.length := by simp [pairZ]
theorem yl_zipL {b : Addr} (h : Fix K m H a vs) (r : Reps K m H xs vs) (h' : Fix K m H b us) (r' : Reps K m H ys us) : Yields K m H (Itz K a b) (pairZ xs ys) where
  go := fun m' H' i e hi => by
    rw [pairZ_len, ← r.len, ← r'.len] at hi
    exact ⟨vs, us, vs[i]'(by omega), us[i]'(by omega), (h.wk e).sq, (h'.wk e).sq, List.getElem?_eq_getElem _, List.getElem?_eq_getElem _⟩
  yl := fun m' H' i v H'' d e hd y => by
    obtain ⟨T, x, z, rfl, hn, rfl, y1, y2⟩ := y
    obtain ⟨x', z', hx, hz, rfl⟩ := pairZ_get hd
    obtain ⟨w, hw, rw'⟩ := (r.wk e).get hx
    obtain ⟨w2, hw2, rw2⟩ := (r'.wk e).get hz
    have a1 := y1 vs (h.wk e).sq
    have a2 := y2 us (h'.wk e).sq
    rw [hw] at a1; cases a1
    rw [hw2] at a2; cases a2
    exact ⟨.inr ⟨T, _, hn, rfl⟩, tup2_new hn rw' rw2⟩
  st := fun m' H' e => ⟨vs, us, (h.wk e).sq, (h'.wk e).sq, by rw [pairZ_len, r.len, r'.len]; omega⟩
theorem yl_zipT {b : Addr} (h : SqT K H a vs) (r : Reps K m H xs vs) (h' : SqT K H b us) (r' : Reps K m H ys us) : Yields K m H (RZ.ItzT K a b) (pairZ xs ys) where
  go := fun m' H' i e hi => by
    rw [pairZ_len, ← r.len, ← r'.len] at hi
    exact ⟨vs, us, vs[i]'(by omega), us[i]'(by omega), e.sqT h, e.sqT h', List.getElem?_eq_getElem _, List.getElem?_eq_getElem _⟩
  yl := fun m' H' i v H'' d e hd y => by
    obtain ⟨T, x, z, rfl, hn, rfl, y1, y2⟩ := y
    obtain ⟨x', z', hx, hz, rfl⟩ := pairZ_get hd
    obtain ⟨w, hw, rw'⟩ := (r.wk e).get hx
    obtain ⟨w2, hw2, rw2⟩ := (r'.wk e).get hz
    have a1 := y1 vs (e.sqT h)
    have a2 := y2 us (e.sqT h')
    rw [hw] at a1; cases a1
    rw [hw2] at a2; cases a2
    exact ⟨.inr ⟨T, _, hn, rfl⟩, tup2_new hn rw' rw2⟩
  st := fun m' H' e => ⟨vs, us, e.sqT h, e.sqT h', by rw [pairZ_len, r.len, r'.len]; omega⟩
end
section
variable {X : Cx} {W : WX} {tg e a b : Expr} {p pos tpos : Pos} {elts : List Expr} {kk : Nat}
theorem lst_rep {K : PySem.W.Frag} {m : MX} {H : Hp} {xs : List D} {v : V} (r : Rep K m H (.lst xs) v) : ∃ a vs, v = .ref a ∧ Fix K m H a vs ∧ Reps K m H xs vs := by
  simp only [Rep] at r
  obtain ⟨a, vs, rfl, h1, h2, h3⟩ := r
  exact ⟨a, vs, rfl, .inl ⟨h1, h2⟩, h3⟩
theorem scr_rep {K : PySem.W.Frag} {m : MX} {H : Hp} {xs : List D} {v : V} (r : Rep K m H (.scr xs) v) : ∃ a vs, v = .ref a ∧ Fix K m H a vs ∧ Reps K m H xs vs := by
  simp only [Rep] at r
  obtain ⟨a, vs, rfl, h1, h3⟩ := r
  exact ⟨a, vs, rfl, h1, h3⟩
/-- a list or a tuple -/
def itVal (f : Ev) : Ea := fun ρ st => (f ρ st).bind fun d st1 => .lift (fixed d) st1
theorem i_val {f : Ev} (h : PE X e (tE X.K W f)) : PI X tg e (tI X.K W (itVal f)) := by
  refine ⟨fun pins s σ H R I hw => ?_⟩
  obtain ⟨m, ρ, st, hsl, hst, hp⟩ := hw
  have viaL : (∀ d st1, f ρ st = .ok d st1 → (∃ xs, d = .lst xs) ∨ ∃ xs, d = .scr xs) → wpAny (model X.prog X.w) X.A (eval e X.env) (fun v s1 => wpAny (model X.prog X.w) X.A (pyIter v) (PIE X pins σ tg R) X.xe s1) X.xe s := fun hd => by
    refine (pi_list h).run pins s σ H R I ?_
    refine ⟨m, ρ, st, hsl, hst, ?_⟩
    unfold itVal at hp
    cases e1 : f ρ st with
    | ok d st1 =>
      rw [e1] at hp
      intro m1 H1 x y v rv
      rcases hd d st1 e1 with ⟨xs, rfl⟩ | ⟨xs, rfl⟩
      · obtain ⟨a, vs, rfl, h1, h2⟩ := lst_rep rv
        exact ⟨a, rfl, ⟨vs, h1.sq⟩, hp m1 H1 x y _ (yl_list h1 h2)⟩
      · obtain ⟨a, vs, rfl, h1, h2⟩ := scr_rep rv
        exact ⟨a, rfl, ⟨vs, h1.sq⟩, hp m1 H1 x y _ (yl_list h1 h2)⟩
    | exc c st1 => rw [e1] at hp; exact hp
    | bad => rw [e1] at hp; exact hp
  cases e1 : f ρ st with
  | ok d st1 =>
    cases d with
    | lst xs => exact viaL fun d' st' z => by rw [e1] at z; cases z; exact .inl ⟨_, rfl⟩
    | scr xs => exact viaL fun d' st' z => by rw [e1] at z; cases z; exact .inr ⟨_, rfl⟩
    | tup xs =>
      refine (pi_tup h).run pins s σ H R I ?_
      refine ⟨m, ρ, st, hsl, hst, ?_⟩
      unfold itVal at hp
      rw [e1] at hp ⊢
      intro m1 H1 x y v rv
      obtain ⟨a, vs, rfl, h1, h2⟩ := tup_rep rv
      exact ⟨a, rfl, ⟨vs, h1⟩, hp m1 H1 x y _ (yl_tup h1 h2)⟩
    | _ => unfold itVal at hp; rw [e1] at hp; exact hp.elim
  | exc c st1 => exact viaL fun d' st' z => by rw [e1] at z; cases z
  | bad => exact viaL fun d' st' z => by rw [e1] at z; cases z
def itR1 (g : Ea) : Ea := fun ρ st => (g ρ st).bind fun ds st1 => match ds with
  | [.int j] => if -(2 ^ 62) ≤ j ∧ j < 2 ^ 62 then .ok (rng 0 j.toNat) st1 else .bad
  | _ => .bad
def itR2 (g : Ea) : Ea := fun ρ st => (g ρ st).bind fun ds st1 => match ds with
  | [.int i, .int j] => if (-(2 ^ 62) ≤ i ∧ i < 2 ^ 62) ∧ -(2 ^ 62) ≤ j ∧ j < 2 ^ 62 then .ok (rng i (j - i).toNat) st1 else .bad
  | _ => .bad
theorem i_range1 {g : Ea} (hg : Gl X "range") (hm : X.mg "range" = none) (ha : PA X [a] (tA X.K W g)) (hs : starEach [a] X.env = [(false, eval a X.env)]) : PI X tg (.Call (.Name "range" p) [a] [] pos) (tI X.K W (itR1 g)) := by
  refine PI_imp (pi_range1 hg hm ha hs) fun σ H R hw => ?_
  obtain ⟨m, ρ, st, hsl, hst, hp⟩ := hw
  refine tA_seq hsl hst hp fun vs H1 m1 ds st1 x sl1 y rv p1 => ?_
  split at p1
  · rename_i j
    obtain ⟨v, rfl, r⟩ := reps1 rv
    obtain rfl := iInt r
    split at p1
    · rename_i hj
      exact ⟨j, rfl, hj.1, hj.2, p1 m1 H1 .refl y _ yl_range⟩
    · exact p1.elim
  · exact p1.elim
theorem i_range2 {g : Ea} (hg : Gl X "range") (hm : X.mg "range" = none) (ha : PA X [a, b] (tA X.K W g)) (hs : starEach [a, b] X.env = [(false, eval a X.env), (false, eval b X.env)]) (hs2 : starEach [b] X.env = [(false, eval b X.env)]) : PI X tg (.Call (.Name "range" p) [a, b] [] pos) (tI X.K W (itR2 g)) := by
  refine PI_imp (pi_range2 hg hm ha hs hs2) fun σ H R hw => ?_
  obtain ⟨m, ρ, st, hsl, hst, hp⟩ := hw
  refine tA_seq hsl hst hp fun vs H1 m1 ds st1 x sl1 y rv p1 => ?_
  split at p1
  · rename_i i j
    obtain ⟨v, w, rfl, r, r'⟩ := reps2 rv
    obtain rfl := iInt r
    obtain rfl := iInt r'
    split at p1
    · rename_i hj
      exact ⟨i, j, rfl, ⟨hj.1.1, hj.1.2, hj.2.1, hj.2.2⟩, p1 m1 H1 .refl y _ yl_range⟩
    · exact p1.elim
  · exact p1.elim
def itEn (g : Ea) : Ea := fun ρ st => (g ρ st).bind fun ds st1 => .lift (one1 (fun d => (fixed d).map pairN) ds) st1
theorem i_enum {g : Ea} (hg : Gl X "enumerate") (hm : X.mg "enumerate" = none) (ha : PA X [a] (tA X.K W g)) (hs : starEach [a] X.env = [(false, eval a X.env)]) : PI X (.Tuple elts kk tpos) (.Call (.Name "enumerate" p) [a] [] pos) (tI X.K W (itEn g)) := by
  refine ⟨fun pins s σ H R I hw => ?_⟩
  obtain ⟨m, ρ, st, hsl, hst, hp⟩ := hw
  unfold itEn at hp
  have viaL : (∀ ds st1, g ρ st = .ok ds st1 → (∃ xs, ds = [.lst xs]) ∨ ∃ xs, ds = [.scr xs]) → wpAny (model X.prog X.w) X.A (eval (.Call (.Name "enumerate" p) [a] [] pos) X.env) (fun v s1 => wpAny (model X.prog X.w) X.A (pyIter v) (PIE X pins σ (.Tuple elts kk tpos) R) X.xe s1) X.xe s := fun hd => by
    refine (pi_enum hg hm ha hs).run pins s σ H R I ?_
    refine ⟨m, ρ, st, hsl, hst, ?_⟩
    cases e1 : g ρ st with
    | ok d st1 =>
      rw [e1] at hp
      intro m1 H1 x y v rv
      rcases hd d st1 e1 with ⟨xs, rfl⟩ | ⟨xs, rfl⟩
      · obtain ⟨v, rfl, r⟩ := reps1 rv
        obtain ⟨a, vs, rfl, h1, h2⟩ := lst_rep r
        exact ⟨a, vs, rfl, h1.sq, hp m1 H1 x y _ (yl_enL h1 h2)⟩
      · obtain ⟨v, rfl, r⟩ := reps1 rv
        obtain ⟨a, vs, rfl, h1, h2⟩ := scr_rep r
        exact ⟨a, vs, rfl, h1.sq, hp m1 H1 x y _ (yl_enL h1 h2)⟩
    | exc c st1 => rw [e1] at hp; exact hp
    | bad => rw [e1] at hp; exact hp
  cases e1 : g ρ st with
  | ok ds st1 =>
    rw [e1] at hp
    cases e2 : one1 (fun d => (fixed d).map pairN) ds with
    | none => simp only [Ip.R.bind_ok, e2] at hp; exact hp.elim
    | some zs =>
      simp only [Ip.R.bind_ok, e2] at hp
      obtain ⟨d, rfl, e3⟩ := one1_inv e2
      obtain ⟨xs, e4, rfl⟩ := Option.map_eq_some_iff.mp e3
      cases d with
      | lst ys => exact viaL fun d' st' z => by rw [e1] at z; cases z; exact .inl ⟨_, rfl⟩
      | scr ys => exact viaL fun d' st' z => by rw [e1] at z; cases z; exact .inr ⟨_, rfl⟩
      | tup ys =>
        cases e4
        refine (pi_enT hg hm ha hs).run pins s σ H R I ?_
        refine ⟨m, ρ, st, hsl, hst, ?_⟩
        rw [e1]
        intro m1 H1 x y v rv
        obtain ⟨v, rfl, r⟩ := reps1 rv
        obtain ⟨a, vs, rfl, h1, h2⟩ := tup_rep r
        exact ⟨a, vs, rfl, h1, hp m1 H1 x y _ (yl_enT h1 h2)⟩
      | _ => cases e4
  | exc c st1 => exact viaL fun d' st' z => by rw [e1] at z; cases z
  | bad => exact viaL fun d' st' z => by rw [e1] at z; cases z
def zipD : List D → Option (List D)
  | [.tup xs, .tup ys] => some (pairZ xs ys)
  | [x, y] => match x, y with
    | .tup _, _ => none
    | _, .tup _ => none
    | x, y => match fixed x, fixed y with
      | some xs, some ys => some (pairZ xs ys)
      | _, _ => none
  | _ => none
def itZip (g : Ea) : Ea := fun ρ st => (g ρ st).bind fun ds st1 => .lift (zipD ds) st1
theorem fix_rep {K : PySem.W.Frag} {m : MX} {H : Hp} {d : D} {xs : List D} {v : V} (h : fixed d = some xs) (nt : ∀ ys, d ≠ .tup ys) (r : Rep K m H d v) : ∃ a vs, v = .ref a ∧ Fix K m H a vs ∧ Reps K m H xs vs := by
  cases d with
  | tup ys => exact absurd rfl (nt ys)
  | lst ys => cases h; exact lst_rep r
  | scr ys => cases h; exact scr_rep r
  | _ => cases h
theorem i_zip {g : Ea} (hg : Gl X "zip") (hm : X.mg "zip" = none) (ha : PA X [a, b] (tA X.K W g)) (hs : starEach [a, b] X.env = (false, eval a X.env) :: starEach [b] X.env) (hpl : (backTo pos (starEach [b] X.env)).any (·.1) = false) : PI X (.Tuple elts kk tpos) (.Call (.Name "zip" p) [a, b] [] pos) (tI X.K W (itZip g)) := by
  refine PI_imp (RZ.pi_zipA hg hm ha hs hpl) fun σ H R hw => ?_
  obtain ⟨m, ρ, st, hsl, hst, hp⟩ := hw
  refine tA_seq hsl hst hp fun vs H1 m1 ds st1 x sl1 y rv p1 => ?_
  cases e : zipD ds with
  | none => rw [e] at p1; exact p1.elim
  | some zs =>
    rw [e] at p1
    unfold zipD at e
    split at e
    · rename_i xs ys
      cases e
      obtain ⟨v, w, rfl, r, r'⟩ := reps2 rv
      obtain ⟨a, vs, rfl, h1, h2⟩ := tup_rep r
      obtain ⟨b, us, rfl, h1', h2'⟩ := tup_rep r'
      exact ⟨a, b, vs, us, rfl, .inr ⟨h1, h1', p1 m1 H1 .refl y _ (yl_zipT h1 h2 h1' h2')⟩⟩
    · rename_i d d' _
      split at e
      · cases e
      · cases e
      · rename_i n1 n2
        split at e
        · rename_i xs ys e1 e2
          cases e
          obtain ⟨v, w, rfl, r, r'⟩ := reps2 rv
          obtain ⟨a, vs, rfl, h1, h2⟩ := fix_rep e1 (fun ys z => n1 ys z) r
          obtain ⟨b, us, rfl, h1', h2'⟩ := fix_rep e2 (fun ys z => n2 ys z) r'
          exact ⟨a, b, vs, us, rfl, .inl ⟨h1.sq, h1'.sq, p1 m1 H1 .refl y _ (yl_zipL h1 h2 h1' h2')⟩⟩
        · cases e
    · cases e
end
end Ip
set_option Elab.async false
set_option linter.all false
set_option maxRecDepth 100000
set_option maxHeartbeats 4000000
namespace Ip
open PySem PySem.Spec PyProof.Rows L2

/-! ### a list that is being made -/
section
variable {K : PySem.W.Frag} {m m' m1 m2 m3 : MX} {H H' H1 H2 H3 : Hp} {st st' : Sto} {D : Addr} {acc : List Ip.D}
theorem Ext.chx {y : List Addr} (e : Ext K m H m' H') : Ext K ⟨m.l, y⟩ H ⟨m'.l, y⟩ H' := by
  obtain ⟨r, e1, f1⟩ := e.pre
  exact ⟨⟨r, by rw [e1]; rfl, f1⟩, e.kp, e.kt, e.kz, e.th⟩
theorem Ext.put {u : HO} (e : Ext K m1 H1 m H) (hD : H1 D = none) : Ext K m1 H1 m (upd H D u) :=
  ⟨e.pre, fun a o h nt n => by rw [upd_ne (ne_of_none h hD)]; exact e.kp a o h nt n, fun a xs h => by rw [upd_ne (ne_of_none h hD)]; exact e.kt a xs h, fun a o z h => by rw [upd_ne (ne_of_none h hD)]; exact e.kz a o z h, fun a h => by
    by_cases hb : a = D
    · rw [hb]; exact .of hD
    · exact e.th a fun o q => h o (by rw [upd_ne hb]; exact q)⟩
theorem Wk.put {vs vs' : List V} (hD : D ∈ m.x) (h : H D = some (.lst vs)) : Wk m H m (upd H D (.lst vs')) := by
  refine ⟨fun a o e _ n => ⟨?_, n⟩, fun a xs e => ?_, fun a o u e => ?_, fun _ _ e => e⟩
  · rw [upd_ne (fun z => n (.inr (by rw [z]; exact hD)))]; exact e
  · rw [upd_ne (ne_of e h (by intro z; cases z))]; exact e
  · rw [upd_ne (ne_of e h (by intro z; cases z))]; exact e
theorem RepSt.put {vs vs' : List V} (hst : RepSt K m H st) (hD : D ∈ m.x) (h : H D = some (.lst vs)) : RepSt K m (upd H D (.lst vs')) st := by
  refine ⟨hst.len, hst.nd, fun n xs q => ?_, fun a ha => ?_, tabs_keep hst.tab (fun b ps hb => by rw [upd_ne (ne_of hb h (by intro z; cases z))]; exact hb) fun b q hb => by rw [upd_ne (ne_of hb h (codeO_lst _))]; exact hb⟩
  · obtain ⟨a, us, h1, h2, h3⟩ := hst.get q
    refine ⟨a, us, h1, ?_, h3.wk (Wk.put hD h)⟩
    rw [upd_ne fun z => hst.apart (List.mem_of_getElem? h1) (by rw [z]; exact hD)]
    exact h2
  · by_cases hb : a = D
    · rw [hb, upd_same]; exact ⟨_, rfl⟩
    · rw [upd_ne hb]; exact hst.bz a ha
structure Made (K : PySem.W.Frag) (m1 : MX) (H1 : Hp) (D : Addr) (m : MX) (H : Hp) (st : Sto) (acc : List Ip.D) : Prop where
  new : H1 D = none
  ex : Ext K m1 H1 ⟨m.l, m1.x⟩ H
  xs : m.x = D :: m1.x
  wk : Wk m1 H1 m H
  rs : RepSt K m H st
  at_ : ∃ vs, H D = some (.lst vs) ∧ Reps K m H acc vs
theorem Made.mem (h : Made K m1 H1 D m H st acc) : D ∈ m.x := by rw [h.xs]; exact List.mem_cons_self
theorem Made.start (hst : RepSt K m1 H1 st) (hD : H1 D = none) : Made K m1 H1 D ⟨m1.l, D :: m1.x⟩ (upd H1 D (.lst [])) st [] := by
  have w : Wk m1 H1 ⟨m1.l, D :: m1.x⟩ (upd H1 D (.lst [])) := by
    refine ⟨fun a o e _ n => ⟨by rw [upd_ne (ne_of_none e hD)]; exact e, fun z => ?_⟩, fun a xs e => by rw [upd_ne (ne_of_none e hD)]; exact e, fun a o u e => by rw [upd_ne (ne_of_none e hD)]; exact e, fun _ _ e => e⟩
    rcases z with z | z
    · exact n (.inl z)
    · rcases List.mem_cons.mp z with z | z
      · rw [z, hD] at e; cases e
      · exact n (.inr z)
  refine ⟨hD, Ext.refl.put hD, rfl, w, ⟨hst.len, ?_, fun n xs q => ?_, fun a ha => ?_, tabs_keep hst.tab (fun b ps hb => by rw [upd_ne (ne_of_none hb hD)]; exact hb) fun b q hb => by rw [upd_ne (ne_of_none hb hD)]; exact hb⟩, [], upd_same, .nil⟩
  · show (m1.l ++ D :: m1.x).Nodup
    have nd := List.nodup_append.mp hst.nd
    rw [List.nodup_append]
    refine ⟨nd.1, ?_, fun a ha b hb => ?_⟩
    · rw [List.nodup_cons]
      exact ⟨fun z => fresh_nin hst hD (.inr z), nd.2.1⟩
    · rcases List.mem_cons.mp hb with hb | hb
      · rw [hb]; exact fun z => fresh_nin hst hD (.inl (z ▸ ha))
      · exact nd.2.2 a ha b hb
  · obtain ⟨a, us, h1, h2, h3⟩ := hst.get q
    exact ⟨a, us, h1, by rw [upd_ne (ne_of_none h2 hD)]; exact h2, h3.wk w⟩
  · by_cases hb : a = D
    · rw [hb, upd_same]; exact ⟨_, rfl⟩
    · rw [upd_ne hb]
      exact hst.bz a ((List.mem_cons.mp ha).resolve_left hb)
theorem Made.ext (h : Made K m1 H1 D m H st acc) (e : Ext K m H m' H') (rs : RepSt K m' H' st') : Made K m1 H1 D m' H' st' acc := by
  obtain ⟨vs, h1, h2⟩ := h.at_
  have nl : D ∉ m.l := fun z => h.rs.apart z h.mem
  exact ⟨h.new, h.ex.trans e.chx, e.xs.trans h.xs, h.wk.trans e.wk, rs, vs, e.kp D _ h1 (fun _ z => nomatch z) nl, h2.mono e⟩
theorem Made.app {w : V} {y : Ip.D} {vs : List V} (h : Made K m1 H1 D m H st acc) (hv : H D = some (.lst vs)) (r : Rep K m H y w) : Made K m1 H1 D m (upd H D (.lst (vs ++ [w]))) st (acc ++ [y]) := by
  obtain ⟨vs', h1, h2⟩ := h.at_
  rw [hv] at h1; cases h1
  have p := Wk.put (vs' := vs ++ [w]) h.mem hv
  exact ⟨h.new, h.ex.put h.new, h.xs, h.wk.trans p, h.rs.put h.mem hv, vs ++ [w], upd_same, (h2.append (.cons r .nil)).wk p⟩
/-- the list is ready -/
theorem Made.done (h : Made K m1 H1 D m H st acc) : Ext K m1 H1 ⟨m.l, m1.x⟩ H ∧ RepSt K ⟨m.l, m1.x⟩ H st ∧ Rep K ⟨m.l, m1.x⟩ H (.lst acc) (.ref D) := by
  have nd := List.nodup_append.mp h.rs.nd
  have nx : (D :: m1.x).Nodup := h.xs ▸ nd.2.1
  have w : Wk m H ⟨m.l, m1.x⟩ H := ⟨fun a o e _ n => ⟨e, fun z => n (z.imp id fun z => by rw [h.xs]; exact List.mem_cons_of_mem _ z)⟩, fun _ _ e => e, fun _ _ _ e => e, fun _ _ e => e⟩
  obtain ⟨vs, h1, h2⟩ := h.at_
  refine ⟨h.ex, ⟨h.rs.len, ?_, fun n xs q => ?_, fun a ha => h.rs.bz a (by rw [h.xs]; exact List.mem_cons_of_mem _ ha), h.rs.tab⟩, ?_⟩
  · show (m.l ++ m1.x).Nodup
    rw [List.nodup_append]
    exact ⟨nd.1, (List.nodup_cons.mp nx).2, fun a ha b hb => nd.2.2 a ha b (by rw [h.xs]; exact List.mem_cons_of_mem _ hb)⟩
  · obtain ⟨a, us, e1, e2, e3⟩ := h.rs.get q
    exact ⟨a, us, e1, e2, e3.wk w⟩
  · simp only [Rep]
    refine ⟨D, vs, rfl, .inl h1, fun z => ?_, h2.wk w⟩
    rcases z with z | z
    · exact h.rs.apart z h.mem
    · exact (List.nodup_cons.mp nx).1 z
/-- a turn's item -/
theorem yl_ext {m' : MX} {H' H'' : Hp} (h : RepSt K m' H' st) (y : H'' = H' ∨ ∃ T xs, H' T = none ∧ H'' = upd H' T (.tup xs)) : Ext K m' H' m' H'' ∧ RepSt K m' H'' st := by
  rcases y with rfl | ⟨T, xs, hn, rfl⟩
  · exact ⟨.refl, h⟩
  · exact ⟨.new hn, h.new hn⟩
end

/-! ### [e for g in it if t] -/
def R.noX {α : Type} : R α → R α
  | .exc _ _ => .bad
  | r => r
def ebYes : Eb := fun _ st => .ok true st
def lcGo (g : Tg) (t : Eb) (e : Ev) (ρ : Sl) : List D → Sto → R (List D)
  | [], st => .ok [] st
  | d :: ds, st => match g d ρ with
    | none => .bad
    | some ρ1 => (t ρ1 st).noX.bind fun b st1 => if b = true then (e ρ1 st1).noX.bind fun y st2 => (lcGo g t e ρ ds st2).bind fun r st3 => .ok (y :: r) st3 else lcGo g t e ρ ds st1
def lcEnd : List D → Sto → R D := fun r st => if r.length ≤ 1000000 then .ok (.lst r) st else .bad
def evLc (vs : List Nat) (it : Ea) (g : Tg) (t : Eb) (e : Ev) : Ev := fun ρ st => (it ρ st).bind fun ds st1 => (lcGo g t e (wipeS ρ vs) ds st1).bind lcEnd
def lc2Go (vs1 : List Nat) (g : Tg) (t : Eb) (it1 : Ea) (g1 : Tg) (t1 : Eb) (e : Ev) (ρ : Sl) : List D → Sto → R (List D)
  | [], st => .ok [] st
  | d :: ds, st => match g d ρ with
    | none => .bad
    | some ρ1 => (t ρ1 st).noX.bind fun b st1 => if b = true then (it1 ρ1 st1).noX.bind fun ds1 st2 => (lcGo g1 t1 e (wipeS ρ1 vs1) ds1 st2).bind fun r st3 => (lc2Go vs1 g t it1 g1 t1 e ρ ds st3).bind fun r' st4 => .ok (r ++ r') st4
      else lc2Go vs1 g t it1 g1 t1 e ρ ds st1
def evLc2 (vs vs1 : List Nat) (it : Ea) (g : Tg) (t : Eb) (it1 : Ea) (g1 : Tg) (t1 : Eb) (e : Ev) : Ev := fun ρ st => (it ρ st).bind fun ds st1 => (lc2Go vs1 g t it1 g1 t1 e (wipeS ρ vs) ds st1).bind lcEnd
abbrev WF : WX := fun _ _ _ _ => False

/-- nothing is raised in there -/
def NoX {α : Type} (r : R α) : Prop := ∀ c s, r ≠ .exc c s
theorem noX_noX {α : Type} (r : R α) : NoX r.noX := fun c s h => by cases r <;> cases h
theorem NoX.bind {α β : Type} {r : R α} {f : α → Sto → R β} (h : NoX r) (k : ∀ a s, NoX (f a s)) : NoX (r.bind f) := fun c s e => by
  cases r with
  | ok a s1 => exact k a s1 c s e
  | exc c' s' => exact h c' s' rfl
  | bad => cases e
theorem lcGo_noX {g : Tg} {t : Eb} {e : Ev} {ρ : Sl} : ∀ {ds : List D} {st : Sto}, NoX (lcGo g t e ρ ds st)
  | [], st => fun c s h => by cases h
  | d :: ds, st => by
    unfold lcGo
    split
    · exact fun c s h => by cases h
    · refine (noX_noX _).bind fun b s => ?_
      split
      · exact (noX_noX _).bind fun _ _ => lcGo_noX.bind fun _ _ c s h => by cases h
      · exact lcGo_noX
theorem lc2Go_noX {vs1 : List Nat} {g : Tg} {t : Eb} {it1 : Ea} {g1 : Tg} {t1 : Eb} {e : Ev} {ρ : Sl} : ∀ {ds : List D} {st : Sto}, NoX (lc2Go vs1 g t it1 g1 t1 e ρ ds st)
  | [], st => fun c s h => by cases h
  | d :: ds, st => by
    unfold lc2Go
    split
    · exact fun c s h => by cases h
    · refine (noX_noX _).bind fun b s => ?_
      split
      · exact (noX_noX _).bind fun _ _ => lcGo_noX.bind fun _ _ => lc2Go_noX.bind fun _ _ c s h => by cases h
      · exact lc2Go_noX
section
variable {K : PySem.W.Frag} {W : WX} {σ : L2.St} {m : MX} {H : Hp} {α β : Type} {P : α → Sto → MX → Hp → Prop}
theorem noX_inv {r : R β} {f : β → Sto → R α} (h : Post K W σ m H (r.noX.bind f) P) : ∃ a s, r = .ok a s ∧ Post K W σ m H (f a s) P := by
  cases r with
  | ok a s => exact ⟨a, s, rfl, h⟩
  | _ => exact h.elim
theorem Post.short {r : R (List D)} {acc : List D} (hx : NoX r) (h : Post K W σ m H (r.bind fun z st => lcEnd (acc ++ z) st) P') : acc.length ≤ 1000000 := by
  cases r with
  | ok z s =>
    have h : Post K W σ m H (lcEnd (acc ++ z) s) P' := h
    unfold lcEnd at h
    split at h
    · rename_i hl
      rw [List.length_append] at hl
      omega
    · exact h.elim
  | exc c s => exact absurd rfl (hx c s)
  | bad => exact h.elim
end
theorem bind_assoc {α β γ : Type} (r : R α) (f : α → Sto → R β) (g : β → Sto → R γ) : (r.bind f).bind g = r.bind fun a s => (f a s).bind g := by cases r <;> rfl
theorem lt_line {n k : Nat} (h : n ≤ 1000000) (hk : k < n) : k < sizeLine := Nat.lt_of_lt_of_le hk (mil_line h)
section
variable {K : PySem.W.Frag} {W : WX} {σ : L2.St} {H : Hp} {Q : VK} {vs vs1 ts ts1 : List Nat} {it it1 : Ea} {g g1 : Tg} {t t1 : Eb} {e : Ev}
theorem tLc_of (hs : ∀ i ∈ ts, i ∈ vs) (h : tE K W (evLc vs it g t e) σ H Q) : tLc (tI K W it) (tG K ts g) (tT K WF t) (tE K WF e) vs σ H Q := by
  obtain ⟨m, ρ, st, hsl, hst, hp⟩ := h
  refine ⟨m, ρ, st, hsl, hst, hp.bind.imp fun ds st1 m1 H1 x y p1 J yl D hD => ?_⟩
  have hsl1 := (hsl.mono x).wipe vs
  refine ⟨fun i n H => n = ds.length - i ∧ i ≤ ds.length ∧ ∃ m2 st2 acc, Made K m1 H1 D m2 H st2 acc ∧ Post K W σ m1 H1 ((lcGo g t e (wipeS ρ vs) (ds.drop i) st2).bind fun r s => lcEnd (acc ++ r) s) (PQ K Q),
    ⟨ds.length, rfl, Nat.zero_le _, _, st1, [], .start y hD, p1⟩, ?_⟩
  rintro i n H2 ⟨rfl, hi, m2, st2, acc, M, p2⟩
  by_cases hlt : i < ds.length
  · have hd : ds[i]? = some ds[i] := List.getElem?_eq_getElem hlt
    have hdr : ds.drop i = ds[i] :: ds.drop (i + 1) := List.drop_eq_getElem_cons hlt
    rw [hdr] at p2
    refine .inr ⟨yl.go m2 H2 i M.wk hlt, fun H' => ∃ m2 st2 acc, Made K m1 H1 D m2 H' st2 acc ∧ Post K W σ m1 H1 ((lcGo g t e (wipeS ρ vs) (ds.drop (i + 1)) st2).bind fun r s => lcEnd (acc ++ r) s) (PQ K Q), fun H' z => ⟨ds.length - (i + 1), by omega, rfl, hlt, z⟩, fun v H' yv => ?_⟩
    obtain ⟨ye, yr⟩ := yl.yl m2 H2 i v H' _ M.wk hd yv
    obtain ⟨e3, rs3⟩ := yl_ext M.rs ye
    have M3 := M.ext e3 rs3
    unfold lcGo at p2
    cases eg : g ds[i] (wipeS ρ vs) with
    | none => rw [eg] at p2; exact p2.elim
    | some ρ1 =>
      rw [eg] at p2
      refine ⟨m2, _, _, ρ1, hsl1.wk M3.wk, yr, eg, fun σ2 hsl2 sm => ⟨sm.wipe hs, ?_⟩⟩
      simp only [bind_assoc] at p2
      obtain ⟨b, s3, et, p3⟩ := noX_inv p2
      refine ⟨m2, ρ1, st2, hsl2, rs3, ?_⟩
      rw [et]
      intro m4 H4 x4 y4
      have M4 := M3.ext x4 y4
      cases b with
      | false =>
        try dsimp only
        rw [if_neg Bool.false_ne_true] at p3 ⊢
        exact ⟨m4, s3, acc, M4, p3⟩
      | true =>
        try dsimp only
        rw [if_pos rfl] at p3 ⊢
        simp only [bind_assoc] at p3
        obtain ⟨yv, s4, ee, p4⟩ := noX_inv p3
        refine ⟨m4, ρ1, s3, hsl2.mono x4, y4, ?_⟩
        rw [ee]
        intro m5 H5 x5 y5 w rw5
        have M5 := M4.ext x5 y5
        obtain ⟨us, hus, rus⟩ := M5.at_
        have p5 : Post K W σ m1 H1 ((lcGo g t e (wipeS ρ vs) (ds.drop (i + 1)) s4).bind fun r s => lcEnd ((acc ++ [yv]) ++ r) s) (PQ K Q) := by
          simpa only [Ip.R.bind_ok, List.append_assoc, List.singleton_append] using p4
        have sh := Post.short lcGo_noX p5
        rw [List.length_append] at sh
        refine ⟨us, hus, lt_line sh (by rw [rus.len]; simp), m5, s4, acc ++ [yv], M5.app hus rw5, p5⟩
  · have ei : i = ds.length := by omega
    subst ei
    rw [List.drop_length] at p2
    have p2 : Post K W σ m1 H1 (lcEnd (acc ++ []) st2) (PQ K Q) := p2
    rw [List.append_nil] at p2
    unfold lcEnd at p2
    split at p2
    · obtain ⟨z1, z2, z3⟩ := M.done
      exact .inl ⟨yl.st m2 H2 M.wk, p2 _ _ z1 z2 _ z3⟩
    · exact p2.elim
theorem tLc2_of (hs : ∀ i ∈ ts, i ∈ vs) (hs1 : ∀ i ∈ ts1, i ∈ vs1) (h : tE K W (evLc2 vs vs1 it g t it1 g1 t1 e) σ H Q) : tLc2 (tI K W it) (tG K ts g) (tT K WF t) (tI K WF it1) (tG K ts1 g1) (tT K WF t1) (tE K WF e) vs vs1 σ H Q := by
  obtain ⟨m, ρ, st, hsl, hst, hp⟩ := h
  refine ⟨m, ρ, st, hsl, hst, hp.bind.imp fun ds st1 m1 H1 x y p1 J yl D hD => ?_⟩
  have hsl1 := (hsl.mono x).wipe vs
  refine ⟨fun i n H => n = ds.length - i ∧ i ≤ ds.length ∧ ∃ m2 st2 acc, Made K m1 H1 D m2 H st2 acc ∧ Post K W σ m1 H1 ((lc2Go vs1 g t it1 g1 t1 e (wipeS ρ vs) (ds.drop i) st2).bind fun r s => lcEnd (acc ++ r) s) (PQ K Q),
    ⟨ds.length, rfl, Nat.zero_le _, _, st1, [], .start y hD, p1⟩, ?_⟩
  rintro i n H2 ⟨rfl, hi, m2, st2, acc, M, p2⟩
  by_cases hlt : i < ds.length
  · have hd : ds[i]? = some ds[i] := List.getElem?_eq_getElem hlt
    have hdr : ds.drop i = ds[i] :: ds.drop (i + 1) := List.drop_eq_getElem_cons hlt
    rw [hdr] at p2
    refine .inr ⟨yl.go m2 H2 i M.wk hlt, fun H' => ∃ m2 st2 acc, Made K m1 H1 D m2 H' st2 acc ∧ Post K W σ m1 H1 ((lc2Go vs1 g t it1 g1 t1 e (wipeS ρ vs) (ds.drop (i + 1)) st2).bind fun r s => lcEnd (acc ++ r) s) (PQ K Q), fun H' z => ⟨ds.length - (i + 1), by omega, rfl, hlt, z⟩, fun v H' yv => ?_⟩
    obtain ⟨ye, yr⟩ := yl.yl m2 H2 i v H' _ M.wk hd yv
    obtain ⟨e3, rs3⟩ := yl_ext M.rs ye
    have M3 := M.ext e3 rs3
    unfold lc2Go at p2
    cases eg : g ds[i] (wipeS ρ vs) with
    | none => rw [eg] at p2; exact p2.elim
    | some ρ1 =>
      rw [eg] at p2
      refine ⟨m2, _, _, ρ1, hsl1.wk M3.wk, yr, eg, fun σ2 hsl2 sm => ⟨sm.wipe hs, ?_⟩⟩
      simp only [bind_assoc] at p2
      obtain ⟨b, s3, et, p3⟩ := noX_inv p2
      refine ⟨m2, ρ1, st2, hsl2, rs3, ?_⟩
      rw [et]
      intro m4 H4 x4 y4
      have M4 := M3.ext x4 y4
      cases b with
      | false =>
        try dsimp only
        rw [if_neg Bool.false_ne_true] at p3 ⊢
        exact ⟨m4, s3, acc, M4, p3⟩
      | true =>
        try dsimp only
        rw [if_pos rfl] at p3 ⊢
        simp only [bind_assoc] at p3
        obtain ⟨ds1, s4, ei, p4⟩ := noX_inv p3
        refine ⟨m4, ρ1, s3, hsl2.mono x4, y4, ?_⟩
        rw [ei]
        intro m5 H5 x5 y5 J1 yl1
        have M5 := M4.ext x5 y5
        have hsl5 := ((hsl2.mono x4).mono x5).wipe vs1
        refine ⟨fun j k H => k = ds1.length - j ∧ j ≤ ds1.length ∧ ∃ m6 st6 acc, Made K m1 H1 D m6 H st6 acc ∧ Wk m5 H5 m6 H ∧ Post K W σ m1 H1 ((lcGo g1 t1 e (wipeS ρ1 vs1) (ds1.drop j) st6).bind fun r s => (lc2Go vs1 g t it1 g1 t1 e (wipeS ρ vs) (ds.drop (i + 1)) s).bind fun r' s => lcEnd (acc ++ (r ++ r')) s) (PQ K Q),
          ⟨ds1.length, rfl, Nat.zero_le _, m5, s4, acc, M5, .refl, ?_⟩, ?_⟩
        · simpa only [bind_assoc, Ip.R.bind_ok, List.drop_zero] using p4
        rintro j k H6 ⟨rfl, hj, m6, st6, acc6, M6, w6, p6⟩
        by_cases hlt1 : j < ds1.length
        · have hd1 : ds1[j]? = some ds1[j] := List.getElem?_eq_getElem hlt1
          have hdr1 : ds1.drop j = ds1[j] :: ds1.drop (j + 1) := List.drop_eq_getElem_cons hlt1
          rw [hdr1] at p6
          refine .inr ⟨yl1.go m6 H6 j w6 hlt1, fun H => ∃ m6 st6 acc, Made K m1 H1 D m6 H st6 acc ∧ Wk m5 H5 m6 H ∧ Post K W σ m1 H1 ((lcGo g1 t1 e (wipeS ρ1 vs1) (ds1.drop (j + 1)) st6).bind fun r s => (lc2Go vs1 g t it1 g1 t1 e (wipeS ρ vs) (ds.drop (i + 1)) s).bind fun r' s => lcEnd (acc ++ (r ++ r')) s) (PQ K Q), fun H' z => ⟨ds1.length - (j + 1), by omega, rfl, hlt1, z⟩, fun v H' yv => ?_⟩
          obtain ⟨ye, yr⟩ := yl1.yl m6 H6 j v H' _ w6 hd1 yv
          obtain ⟨e7, rs7⟩ := yl_ext M6.rs ye
          have M7 := M6.ext e7 rs7
          have w7 := w6.trans e7.wk
          unfold lcGo at p6
          cases eg1 : g1 ds1[j] (wipeS ρ1 vs1) with
          | none => rw [eg1] at p6; exact p6.elim
          | some ρ2 =>
            rw [eg1] at p6
            refine ⟨m6, _, _, ρ2, hsl5.wk w7, yr, eg1, fun σ3 hsl3 sm1 => ⟨sm1.wipe hs1, ?_⟩⟩
            simp only [bind_assoc] at p6
            obtain ⟨b, s7, et1, p7⟩ := noX_inv p6
            refine ⟨m6, ρ2, st6, hsl3, rs7, ?_⟩
            rw [et1]
            intro m8 H8 x8 y8
            have M8 := M7.ext x8 y8
            have w8 := w7.trans x8.wk
            cases b with
            | false =>
              try dsimp only
              rw [if_neg Bool.false_ne_true] at p7 ⊢
              exact ⟨m8, s7, acc6, M8, w8, p7⟩
            | true =>
              try dsimp only
              rw [if_pos rfl] at p7 ⊢
              simp only [bind_assoc] at p7
              obtain ⟨yv, s8, ee, p8⟩ := noX_inv p7
              refine ⟨m8, ρ2, s7, hsl3.mono x8, y8, ?_⟩
              rw [ee]
              intro m9 H9 x9 y9 w rw9
              have M9 := M8.ext x9 y9
              obtain ⟨us, hus, rus⟩ := M9.at_
              have p9 : Post K W σ m1 H1 ((lcGo g1 t1 e (wipeS ρ1 vs1) (ds1.drop (j + 1)) s8).bind fun r s => (lc2Go vs1 g t it1 g1 t1 e (wipeS ρ vs) (ds.drop (i + 1)) s).bind fun r' s => lcEnd ((acc6 ++ [yv]) ++ (r ++ r')) s) (PQ K Q) := by
                simpa only [Ip.R.bind_ok, List.append_assoc, List.nil_append, List.cons_append] using p8
              have sh : (acc6 ++ [yv]).length ≤ 1000000 := by
                refine Post.short (r := (lcGo g1 t1 e (wipeS ρ1 vs1) (ds1.drop (j + 1)) s8).bind fun r s => (lc2Go vs1 g t it1 g1 t1 e (wipeS ρ vs) (ds.drop (i + 1)) s).bind fun r' s => .ok (r ++ r') s) (lcGo_noX.bind fun _ _ => lc2Go_noX.bind fun _ _ c s h => by cases h) (K := K) (W := W) (σ := σ) (m := m1) (H := H1) (P' := PQ K Q) ?_
                simpa only [bind_assoc, Ip.R.bind_ok] using p9
              rw [List.length_append] at sh
              exact ⟨us, hus, lt_line sh (by rw [rus.len]; simp), m9, s8, acc6 ++ [yv], M9.app hus rw9, (w8.trans x9.wk).trans (Wk.put M9.mem hus), p9⟩
        · have ej : j = ds1.length := by omega
          subst ej
          rw [List.drop_length] at p6
          refine .inl ⟨yl1.st m6 H6 w6, m6, st6, acc6, M6, ?_⟩
          simpa only [lcGo, Ip.R.bind_ok, List.nil_append] using p6
  · have ei : i = ds.length := by omega
    subst ei
    rw [List.drop_length] at p2
    have p2 : Post K W σ m1 H1 (lcEnd (acc ++ []) st2) (PQ K Q) := p2
    rw [List.append_nil] at p2
    unfold lcEnd at p2
    split at p2
    · obtain ⟨z1, z2, z3⟩ := M.done
      exact .inl ⟨yl.st m2 H2 M.wk, p2 _ _ z1 z2 _ z3⟩
    · exact p2.elim
end
end Ip
set_option Elab.async false
set_option linter.all false
set_option maxRecDepth 100000
set_option maxHeartbeats 4000000
namespace Ip
open PySem PySem.Spec PyProof.Rows L2

section
variable {X : Cx} {W : WX} {elt tg iter tg1 iter1 e a b c : Expr} {ifs ifs1 : List Expr} {scope : Scope} {own : List (Str × Nat)} {vs1 ts ts1 : List Nat} {pos p p2 spos : Pos}
/-! ### comprehensions as expressions -/
theorem q_nil : PTs X [] (tT X.K W ebYes) := ⟨fun pins s σ H Q I hw => by
  obtain ⟨m, ρ, st, hsl, hst, hp⟩ := hw
  exact pts_nil.run pins s σ H Q I (hp m H .refl hst)⟩
theorem q_one {t : Eb} (h : PT X c (tT X.K W t)) : PTs X [c] (tT X.K W t) := pts_one h
theorem e_lc {it : Ea} {g : Tg} {t : Eb} {f : Ev} (hc : X.calm = true) (hN : X.N.Nodup) (hi : PI X tg iter (tI X.K W it)) (ok : BlkOk X.N X.env.scope scope own)
    (hg : ∀ s H C cl fp, PG (X.blk s H scope (compEnvC scope cl C X.env) fp) tg (tG X.K ts g)) (ht : ∀ s H C cl fp, PTs (X.blk s H scope (compEnvC scope cl C X.env) fp) ifs (tT X.K WF t))
    (he : ∀ s H C cl fp, PE (X.blk s H scope (compEnvC scope cl C X.env) fp) elt (tE X.K WF f)) (hs : ∀ x, foldedSetIterable iter X.env x = pure x) (ho : ∀ i ∈ ts, i ∈ own.map (·.2)) :
    PE X (.ListComp elt [⟨tg, iter, ifs, 0⟩] scope pos) (tE X.K W (evLc (own.map (·.2)) it g t f)) :=
  PE_imp (pe_lc hc hN hi ok hg ht he hs) fun _ _ _ h => tLc_of ho h
theorem e_lc2 {it it1 : Ea} {g g1 : Tg} {t t1 : Eb} {f : Ev} (hc : X.calm = true) (hN : X.N.Nodup) (hi : PI X tg iter (tI X.K W it)) (ok : BlkOk X.N X.env.scope scope own) (hv : ∀ i ∈ vs1, i ∈ own.map (·.2))
    (hg : ∀ s H C cl fp, PG (X.blk s H scope (compEnvC scope cl C X.env) fp) tg (tG X.K ts g)) (ht : ∀ s H C cl fp, PTs (X.blk s H scope (compEnvC scope cl C X.env) fp) ifs (tT X.K WF t))
    (hi1 : ∀ s H C cl fp, PI (X.blk s H scope (compEnvC scope cl C X.env) fp) tg1 iter1 (tI X.K WF it1))
    (hg1 : ∀ s H C cl fp, PG (X.blk s H scope (compEnvC scope cl C X.env) fp) tg1 (tG X.K ts1 g1)) (ht1 : ∀ s H C cl fp, PTs (X.blk s H scope (compEnvC scope cl C X.env) fp) ifs1 (tT X.K WF t1))
    (he : ∀ s H C cl fp, PE (X.blk s H scope (compEnvC scope cl C X.env) fp) elt (tE X.K WF f)) (hs : ∀ x, foldedSetIterable iter X.env x = pure x) (hs1 : ∀ env x, foldedSetIterable iter1 env x = pure x) (ho : ∀ i ∈ ts, i ∈ own.map (·.2)) (ho1 : ∀ i ∈ ts1, i ∈ vs1) :
    PE X (.ListComp elt [⟨tg, iter, ifs, 0⟩, ⟨tg1, iter1, ifs1, 0⟩] scope pos) (tE X.K W (evLc2 (own.map (·.2)) vs1 it g t it1 g1 t1 f)) :=
  PE_imp (pe_lc2 hc hN hi ok hv hg ht hi1 hg1 ht1 he hs hs1) fun _ _ _ h => tLc2_of ho ho1 h

/-! ### methods of lists -/
/-- o.m(..), o a mutable list, a list that nobody changes -/
def evMR (o : Sto → Nat → List D → R D) (f : Ev) (g : Ea) : Ev := fun ρ st => (f ρ st).bind fun d st1 => match d with
  | .ref n => (g ρ st1).bind fun ds st2 => o st2 n ds
  | _ => .bad
def evML (o : Sto → List D → List D → R D) (f : Ev) (g : Ea) : Ev := fun ρ st => (f ρ st).bind fun d st1 => match d with
  | .lst xs => (g ρ st1).bind fun ds st2 => o st2 xs ds
  | _ => .bad
def mApp (st : Sto) (n : Nat) (ds : List D) : R D := match ds, st[n]? with
  | [y], some xs => if xs.length < 1000000 then .ok .non (st.set n (xs ++ [y])) else .bad
  | _, _ => .bad
def mPop (st : Sto) (n : Nat) (ds : List D) : R D := match ds, st[n]? with
  | [.int i], some xs => if 0 ≤ i ∧ i < 2 ^ 63 then (match xs[i.toNat]? with
      | some y => .ok y (st.set n (xs.eraseIdx i.toNat))
      | none => .bad) else .bad
  | _, _ => .bad
def mIdx (st : Sto) (xs : List D) (ds : List D) : R D := match ds with
  | [y] => if okD (.lst xs) = true ∧ okD y = true then (match xs.findIdx? fun z => eqD z y with
      | some j => .ok (.int (j : Nat)) st
      | none => .bad) else .bad
  | _ => .bad
theorem plainFew (h1 : starEach [e] X.env = (false, eval e X.env) :: starEach [] X.env) : ((backTo p (starEach [e] X.env)).all (fun x => !x.1) && (backToKw p (keywordEach [] X.env)).all (fun x => x.1.isSome)
      && decide ([e].length + ([] : List Keyword).length + (if ([] : List Keyword).isEmpty then 0 else 1) < 30)) = true := by
  rw [h1]; rfl
theorem tyL {K : PySem.W.Frag} {H : Hp} {a : Addr} {xs : List V} (h : SqL K H a xs) : tyV K "list" (.ref a) H := .inl ⟨rfl, xs, h⟩
theorem tBM_ref {fo : Ev} {g : Ea} {o : Sto → Nat → List D → R D} {r : V → List V → Hp → VK → Prop} {σ : L2.St} {H : Hp} {Q : VK}
    (k : ∀ m H st n a xs us ds vs, RepSt X.K m H st → m.l[n]? = some a → st[n]? = some xs → H a = some (.lst us) → Reps X.K m H xs us → Reps X.K m H ds vs → Post X.K W σ m H (o st n ds) (PQ X.K Q) → r (.ref a) vs H Q)
    (hw : tE X.K W (evMR o fo g) σ H Q) : tBM X.K "list" r (tE X.K W fo) (tA X.K W g) σ H Q := by
  obtain ⟨m, ρ, st, hsl, hst, hp⟩ := hw
  refine tE_seq hsl hst hp fun v H1 m1 d st1 x1 sl1 y1 rv p1 => ?_
  cases d with
  | ref n =>
    simp only [Rep] at rv
    obtain ⟨a, rfl, h1⟩ := rv
    obtain ⟨vs, h2⟩ := y1.there (.inl (List.mem_of_getElem? h1))
    refine ⟨tyL (.inl (.inl h2)), tA_seq sl1 y1 p1 fun vs H2 m2 ds st2 x2 sl2 y2 rv2 p2 => ?_⟩
    have ha := x2.get h1
    have hn : n < st2.length := by rw [← y2.len]; exact (List.getElem?_eq_some_iff.mp ha).1
    obtain ⟨b, us, e1, e2, e3⟩ := y2.get (List.getElem?_eq_getElem hn)
    rw [ha] at e1; cases e1
    exact k m2 H2 st2 n a _ us ds vs y2 ha (List.getElem?_eq_getElem hn) e2 e3 rv2 p2
  | _ => exact p1.elim
theorem e_app {apos cpos : Pos} {fo : Ev} {g : Ea} {o : Expr} (ho : PE X o (tE X.K W fo)) (ha : PA X [e] (tA X.K W g)) (hb : attributeBase o "append" X.env (eval o X.env) = eval o X.env) (hl : (apos.endLine == cpos.line) = true) (h1 : starEach [e] X.env = (false, eval e X.env) :: starEach [] X.env) :
    PE X (.Call (.Attribute o "append" apos) [e] [] cpos) (tE X.K W (evMR mApp fo g)) := by
  refine PE_imp (pe_bm F.plainAttrs_list F.slot_list_append F.type_list_append mt_append ho ha hb (plainFew h1) hl h1 rfl) fun σ H Q hw => ?_
  refine tBM_ref (fun m H st n a xs us ds vs hst ha hx hH rx rv hp => ?_) hw
  unfold mApp at hp
  rw [hx] at hp
  split at hp
  · rename_i y xs' e
    cases e
    split at hp
    · rename_i hlt
      obtain ⟨w, rfl, rw'⟩ := reps1 rv
      exact ⟨a, us, w, rfl, rfl, hH, by rw [rx.len]; exact Nat.lt_of_lt_of_le hlt (by decide), hp m _ (.write (List.mem_of_getElem? ha) hH) (hst.write ha hH (rx.append (.cons rw' .nil))) _ rNon⟩
    · exact hp.elim
  · exact hp.elim
theorem e_pop {apos cpos : Pos} {fo : Ev} {g : Ea} {o : Expr} (ho : PE X o (tE X.K W fo)) (ha : PA X [e] (tA X.K W g)) (hb : attributeBase o "pop" X.env (eval o X.env) = eval o X.env) (hl : (apos.endLine == cpos.line) = true) (h1 : starEach [e] X.env = (false, eval e X.env) :: starEach [] X.env) :
    PE X (.Call (.Attribute o "pop" apos) [e] [] cpos) (tE X.K W (evMR mPop fo g)) := by
  refine PE_imp (pe_bm F.plainAttrs_list F.slot_list_pop F.type_list_pop mt_popAt ho ha hb (plainFew h1) hl h1 rfl) fun σ H Q hw => ?_
  refine tBM_ref (fun m H st n a xs us ds vs hst ha hx hH rx rv hp => ?_) hw
  unfold mPop at hp
  rw [hx] at hp
  split at hp
  · rename_i i xs' e
    cases e
    split at hp
    · rename_i hi
      split at hp
      · rename_i y hy
        obtain ⟨w, rfl, rw'⟩ := reps1 rv
        obtain rfl := iInt rw'
        obtain ⟨w, hw, rw2⟩ := rx.get hy
        have hlt : i.toNat < us.length := (List.getElem?_eq_some_iff.mp hw).1
        have hs : seqIndex? i us.length = some i.toNat := by
          unfold seqIndex?
          have h1 : ¬ i < 0 := by omega
          simp only [h1, if_false]
          rw [if_pos]
          simp only [Bool.and_eq_true, decide_eq_true_eq]
          omega
        have x : Ext X.K m H m (upd H a (.lst (us.eraseIdx i.toNat))) := .write (List.mem_of_getElem? ha) hH
        exact ⟨a, us, i, i.toNat, w, rfl, rfl, hH, by omega, hi.2, hs, hw, hp m _ x (hst.write ha hH (rx.eraseIdx _)) _ (rw2.mono x)⟩
      · exact hp.elim
    · exact hp.elim
  · exact hp.elim
theorem pys_get : ∀ (xs : List D) (i : Nat), (pys xs)[i]? = (xs[i]?).map py
  | [], _ => rfl
  | z :: xs, 0 => rfl
  | z :: xs, i + 1 => by
    show (py z :: pys xs)[i + 1]? = _
    simpa using pys_get xs i
theorem e_idx {apos cpos : Pos} {fo : Ev} {g : Ea} {o : Expr} (hu : X.A.units + 65 < cLine) (ho : PE X o (tE X.K W fo)) (ha : PA X [e] (tA X.K W g)) (hb : attributeBase o "index" X.env (eval o X.env) = eval o X.env) (hl : (apos.endLine == cpos.line) = true) (h1 : starEach [e] X.env = (false, eval e X.env) :: starEach [] X.env) :
    PE X (.Call (.Attribute o "index" apos) [e] [] cpos) (tE X.K W (evML mIdx fo g)) := by
  refine PE_imp (pe_bm F.plainAttrs_list F.slot_list_index F.type_list_index (mt_indexD hu) ho ha hb (plainFew h1) hl h1 rfl) fun σ H Q hw => ?_
  obtain ⟨m, ρ, st, hsl, hst, hp⟩ := hw
  refine tE_seq hsl hst hp fun v H1 m1 d st1 x1 sl1 y1 rv p1 => ?_
  cases d with
  | lst xs =>
    obtain ⟨a, us, rfl, hf, _⟩ := lst_rep rv
    refine ⟨tyL hf.sq, tA_seq sl1 y1 p1 fun vs H2 m2 ds st2 x2 sl2 y2 rv2 p2 => ?_⟩
    unfold mIdx at p2
    split at p2
    · rename_i y
      split at p2
      · rename_i hc
        split at p2
        · rename_i j hj
          obtain ⟨w, rfl, rw'⟩ := reps1 rv2
          obtain ⟨hj1, hj2, hj3⟩ := List.findIdx?_eq_some_iff_getElem.mp hj
          refine ⟨a, w, py y, pys xs, j, py xs[j], rfl, rfl, Rep.dp (d := .lst xs) (okD_s hc.1) (rv.mono x2), Rep.dp (okD_s hc.2) rw', okD_shaped hc.1, okD_shaped hc.2, by rw [pys_get, List.getElem?_eq_getElem hj1]; rfl, hj2, fun i z hi hz => ?_, p2 m2 H2 .refl y2 _ rInt⟩
          rw [pys_get, List.getElem?_eq_getElem (Nat.lt_trans hi hj1)] at hz
          cases hz
          have z := hj3 i hi
          rw [Bool.not_eq_true] at z
          exact z
        · exact p2.elim
      · exact p2.elim
    · exact p2.elim
  | _ => exact p1.elim
end
end Ip
set_option Elab.async false
set_option linter.all false
set_option maxRecDepth 100000
set_option maxHeartbeats 4000000
namespace Ip
open PySem PySem.Spec PyProof.Rows L2

/-! ### statements -/
inductive RS where
  | nx (ρ : Sl) (st : Sto)
  | bk (ρ : Sl) (st : Sto)
  | ct (ρ : Sl) (st : Sto)
  | rt (d : D) (st : Sto)
  | exc (c : Str) (ρ : Sl) (st : Sto)
  | bad
abbrev Es := Sl → Sto → RS
def PostS (K : PySem.W.Frag) (W : WX) (m : MX) (H : Hp) (r : RS) (D : Ends) : Prop := match r with
  | .nx ρ st => ∀ m' H' σ', Ext K m H m' H' → RepSl K m' H' ρ σ' → RepSt K m' H' st → D.nx σ' H'
  | .bk ρ st => ∀ m' H' σ', Ext K m H m' H' → RepSl K m' H' ρ σ' → RepSt K m' H' st → D.bk σ' H'
  | .ct ρ st => ∀ m' H' σ', Ext K m H m' H' → RepSl K m' H' ρ σ' → RepSt K m' H' st → D.ct σ' H'
  | .rt d st => ∀ m' H' v, Ext K m H m' H' → RepSt K m' H' st → Rep K m' H' d v → D.rt v H'
  | .exc c ρ st => ∀ m' H' σ', Ext K m H m' H' → RepSl K m' H' ρ σ' → RepSt K m' H' st → W (.ref (He.ga K c)) none σ' H'
  | .bad => False
def tS (K : PySem.W.Frag) (W : WX) (f : Es) : TS := fun D σ H => ∃ m ρ st, RepSl K m H ρ σ ∧ RepSt K m H st ∧ PostS K W m H (f ρ st) D
theorem PostS.ext {K : PySem.W.Frag} {W : WX} {m m1 : MX} {H H1 : Hp} {r : RS} {D : Ends} (e : Ext K m H m1 H1) (h : PostS K W m H r D) : PostS K W m1 H1 r D := by
  cases r with
  | nx ρ st => exact fun m' H' σ' x => h m' H' σ' (e.trans x)
  | bk ρ st => exact fun m' H' σ' x => h m' H' σ' (e.trans x)
  | ct ρ st => exact fun m' H' σ' x => h m' H' σ' (e.trans x)
  | rt d st => exact fun m' H' v x => h m' H' v (e.trans x)
  | exc c ρ st => exact fun m' H' σ' x => h m' H' σ' (e.trans x)
  | bad => exact h
/-- behind an expression -/
def R.stm {α : Type} (r : R α) (ρ : Sl) (k : α → Sto → RS) : RS := match r with
  | .ok a st => k a st
  | .exc c st => .exc c ρ st
  | .bad => .bad
@[simp] theorem R.stm_ok {α : Type} (a : α) (st : Sto) (ρ : Sl) (k : α → Sto → RS) : (R.ok a st).stm ρ k = k a st := Eq.trans rfl rfl
@[simp] theorem R.stm_exc {α : Type} (c : Str) (st : Sto) (ρ : Sl) (k : α → Sto → RS) : (R.exc c st : R α).stm ρ k = .exc c ρ st := Eq.trans rfl rfl
@[simp] theorem R.stm_bad {α : Type} (ρ : Sl) (k : α → Sto → RS) : (R.bad : R α).stm ρ k = .bad := Eq.trans rfl rfl
/-- one behind another -/
def RS.seq (r : RS) (k : Sl → Sto → RS) : RS := match r with
  | .nx ρ st => k ρ st
  | r => r
@[simp] theorem RS.seq_nx (ρ : Sl) (st : Sto) (k : Sl → Sto → RS) : (RS.nx ρ st).seq k = k ρ st := Eq.trans rfl rfl
@[simp] theorem RS.seq_rt (d : D) (st : Sto) (k : Sl → Sto → RS) : (RS.rt d st).seq k = .rt d st := Eq.trans rfl rfl
@[simp] theorem RS.seq_exc (c : Str) (ρ : Sl) (st : Sto) (k : Sl → Sto → RS) : (RS.exc c ρ st).seq k = .exc c ρ st := Eq.trans rfl rfl
@[simp] theorem RS.seq_bad (k : Sl → Sto → RS) : RS.bad.seq k = .bad := Eq.trans rfl rfl
@[simp] theorem RS.seq_bk (ρ : Sl) (st : Sto) (k : Sl → Sto → RS) : (RS.bk ρ st).seq k = .bk ρ st := Eq.trans rfl rfl
@[simp] theorem RS.seq_ct (ρ : Sl) (st : Sto) (k : Sl → Sto → RS) : (RS.ct ρ st).seq k = .ct ρ st := Eq.trans rfl rfl
/-- a loop's turn, then the rest of the loop -/
def RS.turn (r : RS) (k : Sl → Sto → RS) : RS := match r with
  | .nx ρ st => k ρ st
  | .ct ρ st => k ρ st
  | .bk ρ st => .nx ρ st
  | r => r
@[simp] theorem RS.turn_nx (ρ : Sl) (st : Sto) (k : Sl → Sto → RS) : (RS.nx ρ st).turn k = k ρ st := Eq.trans rfl rfl
@[simp] theorem RS.turn_ct (ρ : Sl) (st : Sto) (k : Sl → Sto → RS) : (RS.ct ρ st).turn k = k ρ st := Eq.trans rfl rfl
@[simp] theorem RS.turn_bk (ρ : Sl) (st : Sto) (k : Sl → Sto → RS) : (RS.bk ρ st).turn k = .nx ρ st := Eq.trans rfl rfl
@[simp] theorem RS.turn_rt (d : D) (st : Sto) (k : Sl → Sto → RS) : (RS.rt d st).turn k = .rt d st := Eq.trans rfl rfl
@[simp] theorem RS.turn_exc (c : Str) (ρ : Sl) (st : Sto) (k : Sl → Sto → RS) : (RS.exc c ρ st).turn k = .exc c ρ st := Eq.trans rfl rfl
@[simp] theorem RS.turn_bad (k : Sl → Sto → RS) : RS.bad.turn k = .bad := Eq.trans rfl rfl
def sNil : Es := fun ρ st => .nx ρ st
def sCons (f g : Es) : Es := fun ρ st => (f ρ st).seq g
def sSet (i : Nat) (f : Ev) : Es := fun ρ st => (f ρ st).stm ρ fun d st1 => .nx (ρ.set i (some d)) st1
def sAsg (g : Tg) (f : Ev) : Es := fun ρ st => (f ρ st).stm ρ fun d st1 => match g d ρ with
  | some ρ' => .nx ρ' st1
  | none => .bad
def sPar (i j : Nat) (g : Ea) : Es := fun ρ st => (g ρ st).stm ρ fun ds st1 => match ds with
  | [x, y] => .nx ((ρ.set i (some x)).set j (some y)) st1
  | _ => .bad
def sIf (t : Eb) (f g : Es) : Es := fun ρ st => (t ρ st).stm ρ fun b st1 => if b = true then f ρ st1 else g ρ st1
def sRet (f : Ev) : Es := fun ρ st => (f ρ st).stm ρ fun d st1 => .rt d st1
def sRetN : Es := fun _ st => .rt .non st
def sExp (f : Ev) : Es := fun ρ st => (f ρ st).stm ρ fun _ st1 => .nx ρ st1
def sBad : Es := fun _ _ => .bad
def sBk : Es := fun ρ st => .bk ρ st
def sCt : Es := fun ρ st => .ct ρ st
def sExc (c : Str) : Es := fun ρ st => .exc c ρ st
def forGo (g : Tg) (b : Es) : List D → Es
  | [], ρ, st => .nx ρ st
  | d :: ds, ρ, st => match g d ρ with
    | none => .bad
    | some ρ1 => (b ρ1 st).turn (forGo g b ds)
def sFor (it : Ea) (g : Tg) (b : Es) : Es := fun ρ st => (it ρ st).stm ρ fun ds st1 => forGo g b ds ρ st1
def whGo (t : Eb) (b : Es) : Nat → Es
  | 0, _, _ => .bad
  | n + 1, ρ, st => (t ρ st).stm ρ fun c st1 => if c = true then (b ρ st1).turn (whGo t b n) else .nx ρ st1
def sWhile (n : Nat) (t : Eb) (b : Es) : Es := whGo t b n
section
variable {K : PySem.W.Frag} {W : WX} {σ : L2.St} {m : MX} {H : Hp} {ρ : Sl} {st : Sto} {α : Type}
theorem stm_post {r : R α} {k : α → Sto → RS} {D : Ends} (hsl : RepSl K m H ρ σ) (h : PostS K W m H (r.stm ρ k) D) : Post K W σ m H r fun a st1 m1 H1 => PostS K W m1 H1 (k a st1) D := by
  cases r with
  | ok a s => exact fun m' H' x _ => PostS.ext x h
  | exc c s => exact fun m' H' x y => h m' H' σ x (hsl.mono x) y
  | bad => exact h
theorem sE {f : Ev} (hsl : RepSl K m H ρ σ) (hst : RepSt K m H st) {k : Ip.D → Sto → RS} {D : Ends} (h : PostS K W m H ((f ρ st).stm ρ k) D) {Q : VK}
    (q : ∀ v H1 m1 d st1, Ext K m H m1 H1 → RepSl K m1 H1 ρ σ → RepSt K m1 H1 st1 → Rep K m1 H1 d v → PostS K W m1 H1 (k d st1) D → Q v H1) : tE K W f σ H Q :=
  ⟨m, ρ, st, hsl, hst, (stm_post hsl h).imp fun d st1 m1 H1 x y p v rv => q v H1 m1 d st1 x (hsl.mono x) y rv p⟩
theorem sA {f : Ea} (hsl : RepSl K m H ρ σ) (hst : RepSt K m H st) {k : List Ip.D → Sto → RS} {D : Ends} (h : PostS K W m H ((f ρ st).stm ρ k) D) {Q : List V → Hp → Prop}
    (q : ∀ vs H1 m1 ds st1, Ext K m H m1 H1 → RepSl K m1 H1 ρ σ → RepSt K m1 H1 st1 → Reps K m1 H1 ds vs → PostS K W m1 H1 (k ds st1) D → Q vs H1) : tA K W f σ H Q :=
  ⟨m, ρ, st, hsl, hst, (stm_post hsl h).imp fun d st1 m1 H1 x y p v rv => q v H1 m1 d st1 x (hsl.mono x) y rv p⟩
end
section
variable {X : Cx} {W : WX} {e c tg iter : Expr} {s0 : Stmt} {rest a b : List Stmt} {es : List Expr} {pos p2 : Pos}
theorem PSs_imp {st : List Stmt} {t t' : TS} (h : PSs X st t) (k : ∀ D σ H, t' D σ H → t D σ H) : PSs X st t' := ⟨fun pins s σ H D I q => h.run pins s σ H D I (k D σ H q)⟩
theorem b_nil : PSs X [] (tS X.K W sNil) := PSs_imp pss_nil fun D σ H hw => by
  obtain ⟨m, ρ, st, hsl, hst, hp⟩ := hw
  exact hp m H σ .refl hsl hst
theorem b_cons {f g : Es} (h1 : PS X s0 (tS X.K W f)) (h2 : PSs X rest (tS X.K W g)) : PSs X (s0 :: rest) (tS X.K W (sCons f g)) := by
  refine PSs_imp (pss_cons h1 h2) fun D σ H hw => ?_
  obtain ⟨m, ρ, st, hsl, hst, hp⟩ := hw
  refine ⟨m, ρ, st, hsl, hst, ?_⟩
  have hp : PostS X.K W m H ((f ρ st).seq g) D := hp
  cases e : f ρ st with
  | nx ρ1 st1 =>
    rw [e] at hp
    exact fun m' H' σ' x hsl' hst' => ⟨m', ρ1, st1, hsl', hst', PostS.ext x hp⟩
  | _ => rw [e] at hp; exact hp
theorem s_set {i : Nat} {x : Str} {f : Ev} {pos' : Pos} (hN : X.N.Nodup) (hi : X.N[i]? = some x) (hx : Loc X.env.scope x) (he : PE X e (tE X.K W f)) (hs : swapsWith e (some (.Name x pos')) pos.line X.env = pure false) (hf : X.fn x = true ∨ X.env.scope.names.lookup x = some .local) :
    PS X (.Assign [.Name x pos'] e pos) (tS X.K W (sSet i f)) := by
  refine PS_imp (ps_set hN hi hx he hs hf) fun D σ H hw => ?_
  obtain ⟨m, ρ, st, hsl, hst, hp⟩ := hw
  exact sE hsl hst hp fun v H1 m1 d st1 x1 sl1 y1 rv p1 => p1 m1 H1 _ .refl (sl1.set rv) y1
theorem s_asg {g : Tg} {ts : List Nat} {f : Ev} (he : PE X e (tE X.K W f)) (hg : PG X tg (tG X.K ts g)) (hs : swapsWithSole [tg] e pos.line X.env = pure false) (hw : swappedStores [tg] e X.env = pure none) (h1 : (assignEach [tg] X.env).map (·.2) = [assign tg X.env]) :
    PS X (.Assign [tg] e pos) (tS X.K W (sAsg g f)) := by
  refine PS_imp (ps_asg he hg hs hw h1) fun D σ H hw => ?_
  obtain ⟨m, ρ, st, hsl, hst, hp⟩ := hw
  refine sE hsl hst hp fun v H1 m1 d st1 x1 sl1 y1 rv p1 => ?_
  cases eg : g d ρ with
  | none => simp only [eg] at p1; exact p1.elim
  | some ρ' =>
    simp only [eg] at p1
    exact ⟨m1, d, ρ, ρ', sl1, rv, eg, fun σ' hsl' _ => p1 m1 H1 σ' .refl hsl' y1⟩
theorem s_par {i j : Nat} {x y : Str} {ea eb : Expr} {g : Ea} {px py pt : Pos} {kt k2 pt2} (hc : X.calm = true) (hN : X.N.Nodup) (hi : X.N[i]? = some x) (hj : X.N[j]? = some y) (hij : i ≠ j)
    (hx : X.env.scope.names.lookup x = some .local) (hy : X.env.scope.names.lookup y = some .local) (ha : PA X [ea, eb] (tA X.K W g))
    (hw : swappedStores [.Tuple [.Name x px, .Name y py] kt pt] (.Tuple [ea, eb] k2 pt2) X.env = pure (some [x, y])) :
    PS X (.Assign [.Tuple [.Name x px, .Name y py] kt pt] (.Tuple [ea, eb] k2 pt2) pos) (tS X.K W (sPar i j g)) := by
  refine PS_imp (ps_par hc hN hi hj hij hx hy ha hw) fun D σ H hw => ?_
  obtain ⟨m, ρ, st, hsl, hst, hp⟩ := hw
  refine sA hsl hst hp fun vs H1 m1 ds st1 x1 sl1 y1 rv p1 => ?_
  split at p1
  · obtain ⟨v, w, rfl, r1, r2⟩ := reps2 rv
    exact ⟨v, w, rfl, p1 m1 H1 _ .refl ((sl1.set r1).set r2) y1⟩
  · exact p1.elim
theorem s_if {t : Eb} {f g : Es} (hc : PT X c (tT X.K W t)) (ha : PSs X a (tS X.K W f)) (hb : PSs X b (tS X.K W g)) : PS X (.If c a b pos) (tS X.K W (sIf t f g)) := by
  refine PS_imp (ps_if hc ha hb) fun D σ H hw => ?_
  obtain ⟨m, ρ, st, hsl, hst, hp⟩ := hw
  refine ⟨m, ρ, st, hsl, hst, (stm_post hsl hp).imp fun k st1 m1 H1 x y p => ?_⟩
  cases k with
  | true => exact ⟨m1, ρ, st1, hsl.mono x, y, p⟩
  | false => exact ⟨m1, ρ, st1, hsl.mono x, y, p⟩
theorem s_ret {f : Ev} (he : PE X e (tE X.K W f)) : PS X (.Return (some e) pos) (tS X.K W (sRet f)) := by
  refine PS_imp (ps_ret he) fun D σ H hw => ?_
  obtain ⟨m, ρ, st, hsl, hst, hp⟩ := hw
  exact sE hsl hst hp fun v H1 m1 d st1 x1 sl1 y1 rv p1 => p1 m1 H1 v .refl y1 rv
theorem s_retN : PS X (.Return none pos) (tS X.K W sRetN) := by
  refine PS_imp ps_retN fun D σ H hw => ?_
  obtain ⟨m, ρ, st, hsl, hst, hp⟩ := hw
  exact hp m H _ .refl hst rNon
theorem s_exp {f : Ev} (he : PE X e (tE X.K W f)) (hs : swapsWith e none pos.line X.env = pure false) : PS X (.Expr e pos) (tS X.K W (sExp f)) := by
  refine PS_imp (ps_expr he hs) fun D σ H hw => ?_
  obtain ⟨m, ρ, st, hsl, hst, hp⟩ := hw
  exact sE hsl hst hp fun v H1 m1 d st1 x1 sl1 y1 rv p1 => p1 m1 H1 _ .refl sl1 y1
theorem s_doc {x j pos pos'} : PS X (.Expr (.Constant (.str x) j pos) pos') (tS X.K W sNil) := PS_imp ps_doc fun D σ H hw => by
  obtain ⟨m, ρ, st, hsl, hst, hp⟩ := hw
  exact hp m H σ .refl hsl hst
theorem s_pass : PS X (.Pass pos) (tS X.K W sNil) := PS_imp ps_pass fun D σ H hw => by
  obtain ⟨m, ρ, st, hsl, hst, hp⟩ := hw
  exact hp m H σ .refl hsl hst
theorem s_break : PS X (.Break pos) (tS X.K W sBk) := PS_imp ps_break fun D σ H hw => by
  obtain ⟨m, ρ, st, hsl, hst, hp⟩ := hw
  exact hp m H σ .refl hsl hst
theorem s_cont : PS X (.Continue pos) (tS X.K W sCt) := PS_imp ps_continue fun D σ H hw => by
  obtain ⟨m, ρ, st, hsl, hst, hp⟩ := hw
  exact hp m H σ .refl hsl hst
theorem s_bad : PS X s0 (tS X.K W sBad) := PS_imp ps_never fun D σ H hw => by
  obtain ⟨m, ρ, st, hsl, hst, hp⟩ := hw
  exact hp
theorem b_bad : PSs X a (tS X.K W sBad) := PSs_imp pss_never fun D σ H hw => by
  obtain ⟨m, ρ, st, hsl, hst, hp⟩ := hw
  exact hp
theorem s_for {it : Ea} {g : Tg} {ts : List Nat} {f : Es} (hp : PassesOwn (model X.prog X.w) X.A X.env X.xe) (hc : X.calm = true) (hi : PI X tg iter (tI X.K W it)) (hg : PG X tg (tG X.K ts g)) (hb : PSs X b (tS X.K W f))
    (hs : ∀ x, foldedSetIterable iter X.env x = pure x) : PS X (.For tg iter b [] pos) (tS X.K W (sFor it g f)) := by
  refine PS_imp (ps_for hp hc hi hg hb hs) fun D σ H hw => ?_
  obtain ⟨m, ρ, st, hsl, hst, hp⟩ := hw
  refine ⟨m, ρ, st, hsl, hst, (stm_post hsl hp).imp fun ds st1 m1 H1 x y p1 J yl => ?_⟩
  refine ⟨fun i n σ H => n = ds.length - i ∧ i ≤ ds.length ∧ ∃ m2 ρ2 st2, Ext X.K m1 H1 m2 H ∧ RepSl X.K m2 H ρ2 σ ∧ RepSt X.K m2 H st2 ∧ PostS X.K W m1 H1 (forGo g f (ds.drop i) ρ2 st2) D,
    ⟨ds.length, rfl, Nat.zero_le _, m1, ρ, st1, .refl, hsl.mono x, y, p1⟩, ?_⟩
  rintro i n σ2 H2 ⟨rfl, hi, m2, ρ2, st2, x2, sl2, y2, p2⟩
  by_cases hlt : i < ds.length
  · have hd : ds[i]? = some ds[i] := List.getElem?_eq_getElem hlt
    rw [List.drop_eq_getElem_cons hlt] at p2
    refine .inr ⟨yl.go m2 H2 i x2.wk hlt, fun σ H => ∃ m2 ρ2 st2, Ext X.K m1 H1 m2 H ∧ RepSl X.K m2 H ρ2 σ ∧ RepSt X.K m2 H st2 ∧ PostS X.K W m1 H1 (forGo g f (ds.drop (i + 1)) ρ2 st2) D, fun σ' H' z => ⟨ds.length - (i + 1), by omega, rfl, hlt, z⟩, fun v H' yv => ?_⟩
    obtain ⟨ye, yr⟩ := yl.yl m2 H2 i v H' _ x2.wk hd yv
    obtain ⟨e3, rs3⟩ := yl_ext y2 ye
    unfold forGo at p2
    cases eg : g ds[i] ρ2 with
    | none => simp only [eg] at p2; exact p2.elim
    | some ρ1 =>
      simp only [eg] at p2
      refine ⟨m2, _, ρ2, ρ1, sl2.mono e3, yr, eg, fun σ3 hsl3 _ => ?_⟩
      refine ⟨m2, ρ1, st2, hsl3, rs3, ?_⟩
      have x3 := x2.trans e3
      cases ef : f ρ1 st2 with
      | nx ρ4 st4 =>
        rw [ef] at p2
        exact fun m4 H4 σ4 x4 sl4 y4 => ⟨m4, ρ4, st4, x3.trans x4, sl4, y4, p2⟩
      | ct ρ4 st4 =>
        rw [ef] at p2
        exact fun m4 H4 σ4 x4 sl4 y4 => ⟨m4, ρ4, st4, x3.trans x4, sl4, y4, p2⟩
      | bk ρ4 st4 =>
        rw [ef] at p2
        exact fun m4 H4 σ4 x4 sl4 y4 => p2 m4 H4 σ4 (x3.trans x4) sl4 y4
      | rt d4 st4 =>
        rw [ef] at p2
        exact fun m4 H4 v4 x4 y4 r4 => p2 m4 H4 v4 (x3.trans x4) y4 r4
      | exc c4 ρ4 st4 =>
        rw [ef] at p2
        exact fun m4 H4 σ4 x4 sl4 y4 => p2 m4 H4 σ4 (x3.trans x4) sl4 y4
      | bad => rw [ef] at p2; exact p2
  · have ei : i = ds.length := by omega
    subst ei
    rw [List.drop_length] at p2
    exact .inl ⟨yl.st m2 H2 x2.wk, p2 m2 H2 σ2 x2 sl2 y2⟩
theorem s_while {n : Nat} {t : Eb} {f : Es} (hp : PassesOwn (model X.prog X.w) X.A X.env X.xe) (hc : PT X c (tT X.K W t)) (hb : PSs X b (tS X.K W f)) : PS X (.While c b [] pos) (tS X.K W (sWhile n t f)) := by
  refine PS_imp (ps_while hp hc hb) fun D σ H hw => ?_
  obtain ⟨m, ρ, st, hsl, hst, hp⟩ := hw
  refine ⟨fun n σ' H' => ∃ m2 ρ2 st2, RepSl X.K m2 H' ρ2 σ' ∧ RepSt X.K m2 H' st2 ∧ PostS X.K W m2 H' (whGo t f n ρ2 st2) D, ⟨n, m, ρ, st, hsl, hst, hp⟩, ?_⟩
  rintro k σ2 H2 ⟨m2, ρ2, st2, sl2, y2, p2⟩
  cases k with
  | zero => exact p2.elim
  | succ k =>
    have p2 : PostS X.K W m2 H2 ((t ρ2 st2).stm ρ2 fun c st1 => if c = true then (f ρ2 st1).turn (whGo t f k) else .nx ρ2 st1) D := p2
    refine ⟨m2, ρ2, st2, sl2, y2, (stm_post sl2 p2).imp fun b st3 m3 H3 x3 y3 p3 => ?_⟩
    cases b with
    | false => exact p3 m3 H3 σ2 .refl (sl2.mono x3) y3
    | true =>
      refine ⟨fun σ' H' => ∃ m2 ρ2 st2, RepSl X.K m2 H' ρ2 σ' ∧ RepSt X.K m2 H' st2 ∧ PostS X.K W m2 H' (whGo t f k ρ2 st2) D, fun σ' H' z => ⟨k, Nat.lt_succ_self k, z⟩, m3, ρ2, st3, sl2.mono x3, y3, ?_⟩
      have p3 : PostS X.K W m3 H3 ((f ρ2 st3).turn (whGo t f k)) D := p3
      cases ef : f ρ2 st3 with
      | nx ρ4 st4 =>
        rw [ef] at p3
        exact fun m4 H4 σ4 x4 sl4 y4 => ⟨m4, ρ4, st4, sl4, y4, PostS.ext x4 p3⟩
      | ct ρ4 st4 =>
        rw [ef] at p3
        exact fun m4 H4 σ4 x4 sl4 y4 => ⟨m4, ρ4, st4, sl4, y4, PostS.ext x4 p3⟩
      | bk ρ4 st4 =>
        rw [ef] at p3
        exact p3
      | rt d4 st4 =>
        rw [ef] at p3
        exact p3
      | exc c4 ρ4 st4 =>
        rw [ef] at p3
        exact p3
      | bad => rw [ef] at p3; exact p3
end
end Ip
set_option Elab.async false
set_option linter.all false
set_option maxRecDepth 100000
set_option maxHeartbeats 4000000
namespace Ip
open PySem PySem.Spec PyProof.Rows L2 PySem.W PySem.SeqAt

/-! ### sorted: any data that are alike, empty tuples among them -/
section
variable {prog : Program} {w : World} {A : Around} {E : Value → Shared → Prop} {s : Shared}
theorem call_tuple_lt {E Q : Value → Shared → Prop} {l b : Addr} {xs ys : Array Value} {e r : Nat → Bool} (hl : s.heap.IsTuple l xs) (hb : s.heap.IsTuple b ys)
    (he : ∀ j (h1 : j < xs.size) (h2 : j < ys.size), EqAt A.in1 s xs[j] ys[j] (e j)) (hr : ∀ j (h1 : j < xs.size) (h2 : j < ys.size), e j = false → RcLt A.in1 s xs[j] ys[j] (r j))
    (k : Q (.bool (firstLt e r (decide (xs.size < ys.size)) (List.range (min xs.size ys.size)))) s) : wpAny (model prog w) A (call (.builtin "tuple.__lt__") [.ref l, .ref b]) Q E s := by
  obtain ⟨⟨c1, d1, data1, sl1⟩, ho1, hc1, n1, hd1⟩ := id hl
  obtain ⟨⟨c2, d2, data2, sl2⟩, ho2, hc2, n2, hd2⟩ := id hb
  dsimp only at hc1 hd1 hc2 hd2
  subst hc1 hd1 hc2 hd2
  exact call_meets PySem.F.slot_tuple_lt ⟨_, ho1, rfl⟩ PySem.F.entry_tuple_lt (PySem.F.args_tuple_lt_2 _ _) (tuple_ltAt l b xs ys n1 n2 d1 d2 sl1 sl2 e r) ⟨ho1, ho2, he, hr, k⟩
/-- oneLt on tuples, both of that type -/
theorem oneLt_tup {xs ys : List PyData} {a b : Value} {as bs : List Addr} {Q : Bool → Shared → Prop} (ra : Reads s.heap a (.tuple xs) as) (rb : Reads s.heap b (.tuple ys) bs) (h : alike (.tuple xs) (.tuple ys) = true)
    (hu : A.units + min (PyData.tuple xs).depth (PyData.tuple ys).depth < cLine) (q : Q (dataLt (.tuple xs) (.tuple ys)) s) : wpAny (model prog w) A (oneLt' true a b) Q E s := by
  have al : alikeAll xs ys = true := by simpa [alike] using h
  cases ra with
  | @tuple l o vs n _ as₁ h1 h2 h3 h4 =>
    cases rb with
    | @tuple l' o' ws n' _ bs₁ k1 k2 k3 k4 =>
      have z1 : vs.size = xs.length := by simpa using ReadsAll.length _ _ _ h4
      have z2 : ws.size = ys.length := by simpa using ReadsAll.length _ _ _ k4
      rw [dataLt_tuple, ← firstLt_toks xs ys al, ← z1, ← z2] at q
      rw [oneLt'_eq]
      simp only [if_true]
      refine wpAny_bind (wpAny_cRoomFor (room_here hu) ?_)
      refine wpAny_bind (wpAny_callSpecialIfBound?_slot (T := "tuple") ⟨_, h1, h2⟩ PySem.F.slot_tuple_lt (call_tuple_lt (e := pairEq xs ys) (r := fun j => dataLt (xs.getD j .none) (ys.getD j .none)) ⟨_, h1, h2, _, h3⟩ ⟨_, k1, k2, _, k3⟩ ?_ ?_ ?_))
      · intro j j1 j2
        have z := eqAt_alikeAll xs ys A.in1 s vs.toList ws.toList _ _ h4 k4 al (room_in hu) j (by simpa using j1) (by simpa using j2)
        simpa using z
      · intro j j1 j2 hj
        have z := rcLt_alikeAll xs ys A.in1 s vs.toList ws.toList _ _ h4 k4 al (room_in hu) j (by simpa using j1) (by simpa using j2) hj
        simpa using z
      · exact wpAny_truthy_bool q
def emT : PyData → Bool
  | .tuple [] => true
  | _ => false
theorem emT_iff {d : PyData} : emT d = true ↔ d = .tuple [] := by
  unfold emT
  split
  · simp
  · rename_i h
    exact ⟨fun z => by simp at z, fun z => absurd z (h ·)⟩
/-- the first items of tuples -/
theorem frs_of {M : Model} : ∀ {vs : List Value} {ds : List PyData} {Q : List (Option Value) → Shared → Prop}, EachIs (fun v d => ∃ as, Reads s.heap v d as) vs ds → (∀ d ∈ ds, ∃ xs, d = .tuple xs) →
    (∀ rs, rs.map (·.isSome) = ds.map (fun d => !emT d) → Q rs s) → wpAny M A (vs.mapM firstOfTuple') Q E s
  | _, _, Q, .nil, _, k => by rw [List.mapM_nil]; exact wpAny_pure (k [] rfl)
  | v :: vs, d :: ds, Q, .cons ⟨as, r⟩ t, ht, k => by
    obtain ⟨xs, rfl⟩ := ht d (List.mem_cons_self ..)
    rw [List.mapM_cons]
    cases r with
    | @tuple a o us n _ _ h1 h2 h3 h4 =>
      refine wpAny_bind ?_
      rw [kas_first_eq]
      refine wpAny_bind (Looks.here (show Looks M s.heap (typeOf (.ref a)) o.cls from (Looks.ld h1).andThen .now) ?_)
      rw [h2, if_neg (by decide)]
      refine wpAny_bind (listItems_at h1 h3 (wpAny_pure ?_))
      refine wpAny_bind (frs_of t (fun d hd => ht d (List.mem_cons_of_mem _ hd)) fun rs hrs => wpAny_pure (k _ ?_))
      rw [List.map_cons, List.map_cons, hrs]
      congr 1
      have z : us.size = xs.length := by simpa using ReadsAll.length _ _ _ h4
      cases xs with
      | nil =>
        have : us[0]? = none := Array.getElem?_eq_none (by rw [z]; exact Nat.le_refl _)
        rw [this]
        rfl
      | cons x xs =>
        have : us[0]? = some (us[0]'(by rw [z]; simp)) := Array.getElem?_eq_getElem _
        rw [this]
        rfl
theorem srt_at {vs : List Value} {ds : List PyData} (e : EachIs (fun v d => ∃ as, Reads s.heap v d as) vs ds) (hal : AllAlike ds) (hn : ∀ d, d ∈ ds → d ≠ .none) (hu : ∀ d, d ∈ ds → A.units + d.depth < cLine) : SortsAt prog w A s (dataKind s.heap ds) vs := by
  by_cases ht : ∀ d ∈ ds, ∃ xs, d = .tuple xs
  · by_cases hne : ∀ d ∈ ds, d ≠ .tuple []
    · refine SortsAt.data e hal (.inl fun d hd => ?_) hu
      obtain ⟨xs, rfl⟩ := ht d hd
      cases xs with
      | nil => exact absurd rfl (hne _ hd)
      | cons x r => exact ⟨x, r, rfl⟩
    · have room : ∀ {d d' : PyData}, d ∈ ds → A.units + min d.depth d'.depth < cLine := fun {d d'} hd => Nat.lt_of_le_of_lt (Nat.add_le_add_left (Nat.min_le_left _ _) _) (hu d hd)
      have notAll : ∀ rs : List (Option Value), rs.map (·.isSome) = ds.map (fun d => !emT d) → ¬ (rs.toArray.all fun x => x.isSome) = true := fun rs hrs z => hne fun d hd ed => by
        rw [List.all_toArray, List.all_eq_true] at z
        have : (false : Bool) ∈ rs.map (·.isSome) := by
          rw [hrs]
          exact List.mem_map.mpr ⟨d, hd, by rw [ed]; rfl⟩
        obtain ⟨x, hx, e⟩ := List.mem_map.mp this
        have := z x hx
        rw [e] at this; cases this
      cases ds with
      | nil => exact absurd (fun d hd => nomatch hd) hne
      | cons d₀ ds₀ =>
        have first : ∀ rs : List (Option Value), rs.map (·.isSome) = (d₀ :: ds₀).map (fun d => !emT d) → (rs.toArray[0]?.bind id).isSome = !emT d₀ := fun rs hrs => by
          cases rs with
          | nil => cases hrs
          | cons r rs =>
            have := (List.cons.inj hrs).1
            have this : r.isSome = !emT d₀ := this
            rw [← this]
            cases r <;> rfl
        refine ⟨fun v hv => ?_, ?_⟩
        · obtain ⟨d, hd, as, r⟩ := e.left v hv
          exact ⟨_, dataKind_some hal hd r⟩
        by_cases h0 : d₀ = .tuple []
        · refine ⟨oneType', fun E x y a b Q ha hb hq => ?_, fun h2 E Q hq => ?_⟩
          · obtain ⟨d, as, hd, ra, rfl⟩ := dataKind_inv ha
            obtain ⟨d', as', hd', rb, rfl⟩ := dataKind_inv hb
            rw [keyLt'_oneType]
            have al := hal d hd d' hd'
            have ro := room (d' := d') hd
            obtain ⟨xs, rfl⟩ := ht d hd
            obtain ⟨ys, rfl⟩ := ht d' hd'
            exact oneLt_tup ra rb al ro hq
          · rw [keyKind'_eq, List.mapM_toArray, map_eq_pure_bind]
            refine wpAny_bind (wpAny_bind (frs_of e ht fun rs hrs => wpAny_pure ?_))
            rw [if_neg (notAll rs hrs), first rs hrs, h0, if_neg (by decide)]
            rw [oneTypeOnly'_eq, List.mapM_toArray, map_eq_pure_bind]
            refine wpAny_bind (wpAny_bind (wpAny_bind (kas_mapM (r := Value.type "tuple") _ (fun v hv Q' hq' => ?_) (wpAny_pure ?_))))
            · obtain ⟨d, hd, as, r⟩ := e.left v hv
              obtain ⟨xs, rfl⟩ := ht d hd
              exact (looks_reads r).here hq'
            · have all : ((List.map (fun _ => Value.type "tuple") vs).toArray.all fun x => x == Value.type "tuple") = true := by
                rw [List.all_toArray, List.all_map, List.all_eq_true]
                intro _ _
                rfl
              have h0 : (List.map (fun _ => Value.type "tuple") vs).toArray[0]? = some (Value.type "tuple") := by
                cases vs with
                | nil => simp at h2
                | cons _ _ => simp
              rw [h0]
              simp only [all, if_true]
              exact wpAny_pure (wpAny_pure hq)
        · refine ⟨general', fun E x y a b Q ha hb hq => ?_, fun h2 E Q hq => ?_⟩
          · obtain ⟨d, as, hd, ra, rfl⟩ := dataKind_inv ha
            obtain ⟨d', as', hd', rb, rfl⟩ := dataKind_inv hb
            show wpAny (model prog w) A (oneLt' false x y) Q E s
            exact oneLt_alike (fun z => nomatch z) ra rb (hal d hd d' hd') (hn d hd) (room hd) hq
          · rw [keyKind'_eq, List.mapM_toArray, map_eq_pure_bind]
            refine wpAny_bind (wpAny_bind (frs_of e ht fun rs hrs => wpAny_pure ?_))
            rw [if_neg (notAll rs hrs), first rs hrs, if_pos (by
              cases hb : emT d₀ with
              | true => exact absurd (emT_iff.mp hb) h0
              | false => rfl)]
            exact wpAny_pure hq
  · refine SortsAt.data e hal (.inr fun d hd => ⟨hn d hd, fun xs ex => ht fun d' hd' => ?_⟩) hu
    have := hal d hd d' hd'
    rw [ex] at this
    cases d' with
    | tuple ys => exact ⟨ys, rfl⟩
    | _ => simp [alike] at this
end
/-! ### as a built-in function on data -/
def leD (x y : D) : Bool := PySem.W.dataLe false py x y
def srtOk (xs : List D) : Bool := okSs xs && (xs.all fun x => xs.all fun y => alike (py x) (py y)) && (xs.all fun x => match x with | .non => false | _ => true) && xs.all fun x => decide ((py x).depth ≤ 60)
def bSorted (st : Sto) : List D → Option D := one1 fun d => match itemsL st d with
  | some xs => if srtOk xs = true then some (.lst (xs.mergeSort leD)) else none
  | none => none
theorem pys_map : ∀ xs : List D, pys xs = xs.map py
  | [] => rfl
  | x :: xs => by
    show py x :: pys xs = _
    rw [pys_map xs]; rfl
section
variable {X : Cx}
theorem each_data {pins : List (Addr × Obj)} {s : Shared} {σ : L2.St} {H : Hp} {m : MX} (I : Inv X pins σ H s) : ∀ {xs : List D} {vs : List V} {us : List Value}, okSs xs = true → Reps X.K m H xs vs → Vals vs us → EachIs (fun u d => ∃ v, RelV v u ∧ Rep X.K m H d v ∧ ∃ as, Reads s.heap u (py d) as) us xs
  | [], _, _, _, r, ru => by
    rw [r.nil_inv] at ru
    cases ru
    exact .nil
  | x :: xs, _, _, h, r, ru => by
    have h' : (okS x && okSs xs) = true := h
    rw [Bool.and_eq_true] at h'
    obtain ⟨v, t, rfl, h1, h2⟩ := r.cons_inv
    cases ru with
    | cons ru rt =>
      obtain ⟨as, r1⟩ := Dp.reads I _ v _ (Rep.dp h'.1 h1) ru
      exact .cons ⟨v, ru, h1, as, r1⟩ (each_data I h'.2 h2 rt)
theorem each_reps {K : PySem.W.Frag} {m : MX} {H : Hp} {P : Value → D → Prop} : ∀ {us : List Value} {xs : List D}, EachIs (fun u d => ∃ v, RelV v u ∧ Rep K m H d v ∧ P u d) us xs → ∃ vs, Vals vs us ∧ Reps K m H xs vs
  | _, _, .nil => ⟨[], .nil, .nil⟩
  | _, _, .cons ⟨v, h1, h2, _⟩ t => by
    obtain ⟨vs, a, b⟩ := each_reps t
    exact ⟨v :: vs, .cons h1 a, .cons h2 b⟩
theorem cSorted (hu : X.A.units + 65 < cLine) : CallS X (.builtin "sorted") bSorted := by
  intro pins s σ H m st ds z vs us Q I hst rv ru ho q
  obtain ⟨d, rfl, ho2⟩ := one1_inv ho
  clear ho
  obtain ⟨v, rfl, r⟩ := reps1 rv
  split at ho2
  · rename_i xs e
    split at ho2
    · rename_i hc
      cases ho2
      obtain ⟨a, ws, rfl, h1, h2⟩ := itemsL_rep hst e r
      obtain ⟨its, rvs, hl, hz⟩ := I.list h1
      rw [Vals.ref1 ru]
      unfold srtOk at hc
      simp only [Bool.and_eq_true] at hc
      obtain ⟨⟨⟨c1, c2⟩, c3⟩, c4⟩ := hc
      have ed := each_data I c1 h2 rvs
      have hal : AllAlike (xs.map py) := fun d hd d' hd' => by
        obtain ⟨x, hx, rfl⟩ := List.mem_map.mp hd
        obtain ⟨y, hy, rfl⟩ := List.mem_map.mp hd'
        exact List.all_eq_true.mp (List.all_eq_true.mp c2 x hx) y hy
      have hn : ∀ d, d ∈ xs.map py → d ≠ .none := fun d hd => by
        obtain ⟨x, hx, rfl⟩ := List.mem_map.mp hd
        have n3 := List.all_eq_true.mp c3 x hx
        have ok : okS x = true := by
          have : ∀ {xs : List D}, okSs xs = true → ∀ x ∈ xs, okS x = true := fun {xs} => by
            induction xs with
            | nil => exact fun _ x hx => nomatch hx
            | cons y ys ih =>
              intro h x hx
              have h' : (okS y && okSs ys) = true := h
              rw [Bool.and_eq_true] at h'
              rcases List.mem_cons.mp hx with rfl | hx
              · exact h'.1
              · exact ih h'.2 x hx
          exact this c1 x hx
        cases x with
        | non => simp at n3
        | ref _ => cases ok
        | glo _ => cases ok
        | clo _ _ _ => cases ok
        | ins _ _ => cases ok
        | _ => intro z; cases z
      have er : EachIs (fun v b => ∃ as, Reads s.heap v (py b) as) its xs := ed.mono fun _ _ ⟨_, _, _, h⟩ => h
      have er' : EachIs (fun v b => ∃ as, Reads (sortingHeap (copyHeap s.heap its) (s.heap.objs.size + 1) its) v (py b) as) its xs := er.mono fun _ _ ⟨as, r⟩ => ⟨as, PyProof.Rows.Reads.keeps (fun _ _ => sorting_copy_old) r⟩
      have hs : SortsAt X.prog X.w X.A.in1.in1 { s with heap := sortingHeap (copyHeap s.heap its) (s.heap.objs.size + 1) its } (dataKind (sortingHeap (copyHeap s.heap its) (s.heap.objs.size + 1) its) (xs.map py)) its :=
        srt_at (s := { s with heap := sortingHeap (copyHeap s.heap its) (s.heap.objs.size + 1) its }) (each_map (R := fun v d => ∃ as, Reads (sortingHeap (copyHeap s.heap its) (s.heap.objs.size + 1) its) v d as) py er') hal hn (fun d hd => by
          obtain ⟨x, hx, rfl⟩ := List.mem_map.mp hd
          have := of_decide_eq_true (List.all_eq_true.mp c4 x hx)
          show X.A.units + 1 + 1 + _ < _
          omega)
      refine sorted_vals hl.isList hs (by rw [← rvs.length]; exact hz) ?_
      have eo := sortVals_data (R := fun u d => ∃ v, RelV v u ∧ Rep X.K m H d v ∧ True) (enc := py) false (ed.mono fun _ _ ⟨v, a, b, _⟩ => ⟨v, a, b, trivial⟩) er' hal
      obtain ⟨vs', r1, r2⟩ := each_reps (P := fun _ _ => True) eo
      obtain ⟨ep, he'⟩ := PyProof.Rows.sortedAll_at s.heap its (sortVals (dataKind (sortingHeap (copyHeap s.heap its) (s.heap.objs.size + 1) its) (xs.map py)) false its its).toArray
      have hlen : vs'.length ≤ sizeLine := by
        rw [r2.len, List.length_mergeSort, ← h2.len]
        exact hz
      have fr : H (s.heap.objs.size + 1) = none := I.hok.fresh (Nat.le_succ _)
      refine ⟨.ref _, upd H (s.heap.objs.size + 1) (.lst vs'), I.laid (t' := s.toks) (fun _ _ => PyProof.Rows.sortedAll_old) (Nat.le_succ _) ⟨hlen, _, ep, r1, he'⟩, rfl, q m _ _ (.new fr) (hst.new fr) (.lst_new hst fr r2)⟩
    · cases ho2
  · cases ho2
end
end Ip
set_option Elab.async false
set_option linter.all false
set_option maxRecDepth 100000
set_option maxHeartbeats 4000000
namespace Ip
open PySem PySem.Spec PyProof.Rows L2 PySem.W PySem.SeqAt

/-! ### min of alike data -/
mutual
/-- data in which no script stands -/
def nsc : D → Bool
  | .tup xs => nscs xs
  | .lst xs => nscs xs
  | .non | .bl _ | .int _ | .str _ => true
  | _ => false
def nscs : List D → Bool
  | [] => true
  | x :: xs => nsc x && nscs xs
end
mutual
theorem py_inj : ∀ {a b : D}, nsc a = true → nsc b = true → py a = py b → a = b
  | .non, b, _, h, e => by cases b <;> first | rfl | (cases h; done) | (cases e; done)
  | .bl _, b, _, h, e => by cases b <;> first | (cases h; done) | (cases e; rfl) | (cases e; done)
  | .int _, b, _, h, e => by cases b <;> first | (cases h; done) | (cases e; rfl) | (cases e; done)
  | .str _, b, _, h, e => by cases b <;> first | (cases h; done) | (cases e; rfl) | (cases e; done)
  | .tup xs, b, g, h, e => by
    cases b with
    | tup ys =>
      have e : PyData.tuple (pys xs) = PyData.tuple (pys ys) := e
      rw [pys_inj (a := xs) (b := ys) g h (PyData.tuple.inj e)]
    | _ => first | (cases h; done) | (cases e; done)
  | .lst xs, b, g, h, e => by
    cases b with
    | lst ys =>
      have e : PyData.list (pys xs) = PyData.list (pys ys) := e
      rw [pys_inj (a := xs) (b := ys) g h (PyData.list.inj e)]
    | _ => first | (cases h; done) | (cases e; done)
  | .scr _, _, g, _, _ => nomatch g
  | .ref _, _, g, _, _ => nomatch g
  | .glo _, _, g, _, _ => nomatch g
  | .clo _ _ _, _, g, _, _ => nomatch g
  | .ins _ _, _, g, _, _ => nomatch g
theorem pys_inj : ∀ {a b : List D}, nscs a = true → nscs b = true → pys a = pys b → a = b
  | [], [], _, _, _ => rfl
  | [], _ :: _, _, _, e => nomatch e
  | _ :: _, [], _, _, e => nomatch e
  | x :: a, y :: b, g, h, e => by
    have g : (nsc x && nscs a) = true := g
    have h : (nsc y && nscs b) = true := h
    rw [Bool.and_eq_true] at g h
    have e : py x :: pys a = py y :: pys b := e
    obtain ⟨e1, e2⟩ := List.cons.inj e
    rw [py_inj g.1 h.1 e1, pys_inj g.2 h.2 e2]
end
def minDD (x : D) (xs : List D) : D := xs.foldl (fun a y => if dataLt (py y) (py a) = true then y else a) x
theorem minDD_py : ∀ (xs : List D) (x : D), py (minDD x xs) = minD (py x) (pys xs)
  | [], _ => rfl
  | y :: xs, x => by
    have ih := minDD_py xs (if dataLt (py y) (py x) = true then y else x)
    have e : minDD x (y :: xs) = minDD (if dataLt (py y) (py x) = true then y else x) xs := rfl
    have f : minD (py x) (pys (y :: xs)) = minD (if dataLt (py y) (py x) = true then py y else py x) (pys xs) := rfl
    rw [e, ih, f]
    split <;> rfl
theorem minDD_mem : ∀ (xs : List D) (x : D), minDD x xs ∈ x :: xs
  | [], _ => List.mem_cons_self ..
  | y :: xs, x => by
    have e : minDD x (y :: xs) = minDD (if dataLt (py y) (py x) = true then y else x) xs := rfl
    rw [e]
    have ih := minDD_mem xs (if dataLt (py y) (py x) = true then y else x)
    rcases List.mem_cons.mp ih with h | h
    · rw [h]
      split
      · exact List.mem_cons_of_mem _ (List.mem_cons_self ..)
      · exact List.mem_cons_self ..
    · exact List.mem_cons_of_mem _ (List.mem_cons_of_mem _ h)
theorem nscs_mem : ∀ {xs : List D}, nscs xs = true → ∀ x ∈ xs, nsc x = true
  | y :: ys, h, x, hx => by
    have h : (nsc y && nscs ys) = true := h
    rw [Bool.and_eq_true] at h
    rcases List.mem_cons.mp hx with rfl | hx
    · exact h.1
    · exact nscs_mem h.2 x hx
theorem okSs_mem : ∀ {xs : List D}, okSs xs = true → ∀ x ∈ xs, okS x = true
  | y :: ys, h, x, hx => by
    have h : (okS y && okSs ys) = true := h
    rw [Bool.and_eq_true] at h
    rcases List.mem_cons.mp hx with rfl | hx
    · exact h.1
    · exact okSs_mem h.2 x hx
/-- min of two ints, of a list of ints, of a list of alike data -/
def bMin (st : Sto) (ds : List D) : Option D := match bMin0 st ds with
  | some d => some d
  | none => match ds with
    | [d] => (match itemsL st d with
      | some (x :: xs) => if srtOk (x :: xs) = true ∧ nscs (x :: xs) = true then some (minDD x xs) else none
      | _ => none)
    | _ => none
theorem bMin_of {st : Sto} {ds : List D} {d : D} (h : bMin0 st ds = some d) : bMin st ds = some d := by
  unfold bMin
  rw [h]
theorem reps_at {K : PySem.W.Frag} {m : MX} {H : Hp} : ∀ {xs : List D} {vs : List V} {i : Nat} {v : V}, Reps K m H xs vs → vs[i]? = some v → ∃ d, xs[i]? = some d ∧ Rep K m H d v
  | [], _, i, v, r, h => by
    rw [r.nil_inv] at h
    simp at h
  | x :: xs, _, i, v, r, h => by
    obtain ⟨w, t, rfl, h1, h2⟩ := r.cons_inv
    cases i with
    | zero =>
      cases h
      exact ⟨x, rfl, h1⟩
    | succ i =>
      obtain ⟨d, e1, e2⟩ := reps_at (xs := xs) (i := i) h2 (by simpa using h)
      exact ⟨d, by simpa using e1, e2⟩
theorem vals_at : ∀ {vs : List V} {us : List Value} {i : Nat} {u : Value}, Vals vs us → us[i]? = some u → ∃ v, vs[i]? = some v ∧ RelV v u
  | _, _, i, u, .nil, h => by simp at h
  | _, _, 0, u, .cons r _, h => by cases h; exact ⟨_, rfl, r⟩
  | _, _, i + 1, u, .cons _ t, h => by
    obtain ⟨v, h1, h2⟩ := vals_at t (i := i) (by simpa using h)
    exact ⟨v, by simpa using h1, h2⟩
section
variable {X : Cx}
theorem cMin (hc : X.calm = true) (hu : X.A.units + 65 < cLine) : CallS X (.builtin "min") bMin := by
  intro pins s σ H m st ds z vs us Q I hst rv ru ho q
  unfold bMin at ho
  split at ho
  · rename_i d e
    cases ho
    exact cMin0 hc pins s σ H m st ds _ vs us Q I hst rv ru e q
  · split at ho
    · rename_i d
      split at ho
      · rename_i x xs e
        split at ho
        · rename_i hcc
          cases ho
          obtain ⟨hs, hn⟩ := hcc
          unfold srtOk at hs
          simp only [Bool.and_eq_true] at hs
          obtain ⟨⟨⟨c1, c2⟩, c3⟩, c4⟩ := hs
          obtain ⟨v, rfl, r⟩ := reps1 rv
          obtain ⟨a, ws, rfl, h1, h2⟩ := itemsL_rep hst e r
          obtain ⟨its, rvs, hl, hz⟩ := I.list h1
          rw [Vals.ref1 ru]
          have hd := Reps.dp c1 h2
          obtain ⟨bs, r2⟩ := Dp.reads I (.list (pys (x :: xs))) (.ref a) (.ref a) (.lst h1 hd) rfl
          cases r2 with
          | @list _ o vs n _ _ k1 k2 k3 k4 =>
            have ev : vs = its.toArray := by
              obtain ⟨o2, g1, g2, n2, g3⟩ := hl.isList
              rw [k1] at g1
              cases g1
              rw [k3] at g3
              cases g3
              rfl
            refine min_list_data (I.ok.hd hc) ⟨_, k1, k2, _, k3⟩ k4 ⟨fun d hd d' hd' => ?_, fun d hd => ?_⟩ ?_ fun i v h' tk bs hv hr hk => ?_
            · have hd : d ∈ pys (x :: xs) := hd
              have hd' : d' ∈ pys (x :: xs) := hd'
              rw [pys_map] at hd hd'
              obtain ⟨x1, q1, rfl⟩ := List.mem_map.mp hd
              obtain ⟨x2, q2, rfl⟩ := List.mem_map.mp hd'
              exact List.all_eq_true.mp (List.all_eq_true.mp c2 x1 q1) x2 q2
            · have hd : d ∈ pys (x :: xs) := hd
              rw [pys_map] at hd
              obtain ⟨x1, q1, rfl⟩ := List.mem_map.mp hd
              have n3 := List.all_eq_true.mp c3 x1 q1
              have ok := okSs_mem c1 x1 q1
              cases x1 with
              | non => simp at n3
              | ref _ => cases ok
              | glo _ => cases ok
              | clo _ _ _ => cases ok
              | ins _ _ => cases ok
              | _ => intro z; cases z
            · have : PyData.depthAll (pys (x :: xs)) ≤ 60 := by
                rw [pys_map]
                have go : ∀ l : List D, (∀ y ∈ l, decide ((py y).depth ≤ 60) = true) → PyData.depthAll (l.map py) ≤ 60 := fun l => by
                  induction l with
                  | nil => exact fun _ => Nat.zero_le _
                  | cons y l ih =>
                    intro h
                    simp only [List.map_cons, PyData.depthAll]
                    exact Nat.max_le.mpr ⟨of_decide_eq_true (h y (List.mem_cons_self ..)), ih fun z hz => h z (List.mem_cons_of_mem _ hz)⟩
                exact go _ fun y hy => List.all_eq_true.mp c4 y hy
              have e : PyData.depthAll (py x :: pys xs) = PyData.depthAll (pys (x :: xs)) := rfl
              rw [e]
              omega
            · subst ev
              have hv : its[i]? = some v := by simpa using hv
              obtain ⟨w1, e1, rw1⟩ := vals_at rvs hv
              obtain ⟨d, e2, rd⟩ := reps_at h2 e1
              have hm : d ∈ x :: xs := List.mem_of_getElem? e2
              obtain ⟨as1, r3⟩ := Dp.reads I _ w1 v (Rep.dp (okSs_mem c1 d hm) rd) rw1
              have ep : py d = py (minDD x xs) := by
                rw [minDD_py]
                exact SeqAt.Reads.unique _ _ v as1 bs (okS_lay (okSs_mem c1 d hm)) (PyProof.Rows.Reads.keeps hk r3) hr
              have ed : d = minDD x xs := py_inj (nscs_mem hn d hm) (nscs_mem hn _ (minDD_mem xs x)) ep
              rw [ed] at rd
              exact ⟨w1, H, I.kept (t' := tk) hk, rw1, q m H _ .refl hst rd⟩
        · cases ho
      · cases ho
    · cases ho
end
end Ip
set_option Elab.async false
set_option linter.all false
set_option maxRecDepth 100000
set_option maxHeartbeats 4000000
namespace Ip
open PySem PySem.Spec PyProof.Rows L2

section
variable {X : Cx} {W : WX} {e a b c : Expr} {pos p p2 : Pos} {x : Str}
/-- -e -/
def evNeg (f : Ev) : Ev := fun ρ st => (f ρ st).bind fun d st1 => match d with
  | .int i => .ok (.int (-i)) st1
  | _ => .bad
theorem e_neg {f : Ev} (h : PE X a (tE X.K W f)) : PE X (.UnaryOp .USub a pos) (tE X.K W (evNeg f)) := by
  refine PE_imp (pe_un un_neg h) fun σ H Q hw => ?_
  obtain ⟨m, ρ, st, hsl, hst, hp⟩ := hw
  refine tE_seq hsl hst hp fun v H1 m1 d st1 x1 sl1 y1 rv p1 => ?_
  cases d with
  | int i =>
    obtain rfl := iInt rv
    exact ⟨i, rfl, p1 m1 H1 .refl y1 _ rInt⟩
  | _ => exact p1.elim
/-- a name of the module that is an int -/
theorem e_gint {i : Int} (hg : Gl X x) (hm : ∃ t, X.mg x = some (.int i t)) (hd : (x == ("__debug__" : Str)) = false) : PE X (.Name x pos) (tE X.K W (evC (.int i))) := by
  obtain ⟨t, hm⟩ := hm
  exact e_const (pe_glob hg hm (v := .int i) ⟨t, rfl⟩ hd) fun _ _ => rInt
/-- list(range(..)), tuple(range(..)) -/
def rg1 (f : Ev) : Ea := fun ρ st => (f ρ st).bind fun d st1 => match d with
  | .int n => if n ≤ 1000000 then .ok (rng 0 n.toNat) st1 else .bad
  | _ => .bad
theorem rgV_rep {K : PySem.W.Frag} {m : MX} {H : Hp} {n : Int} : Reps K m H (rng 0 n.toNat) (rgV 0 n) := by
  have go : ∀ (l : List Nat), Reps K m H (l.map fun (i : Nat) => D.int (0 + i)) (l.map fun (i : Nat) => V.int (0 + i)) := fun l => by
    induction l with
    | nil => exact .nil
    | cons i l ih => exact .cons rInt ih
  have e : (n - 0).toNat = n.toNat := by omega
  unfold rng rgV
  rw [e]
  exact go _
theorem rg1_seq {f : Ev} {σ : L2.St} {H : Hp} {α : Type} {m : MX} {ρ : Sl} {st : Sto} {g : List D → Sto → R α} {P : α → Sto → MX → Hp → Prop} {Q : Int → Int → Hp → Prop} (hsl : RepSl X.K m H ρ σ) (hst : RepSt X.K m H st) (hp : Post X.K W σ m H ((rg1 f ρ st).bind g) P)
    (k : ∀ n H1 m1 st1, Ext X.K m H m1 H1 → RepSt X.K m1 H1 st1 → n ≤ 1000000 → Post X.K W σ m1 H1 (g (rng 0 n.toNat) st1) P → RgOk 0 n → Q 0 n H1) (lo : ∀ n : Int, n ≤ 1000000 → -(2 ^ 62) ≤ n) : tRg1 (tE X.K W f) σ H Q := by
  unfold rg1 at hp
  rw [bind_assoc] at hp
  refine tE_seq hsl hst hp fun v H1 m1 d st1 x1 sl1 y1 rv p1 => ?_
  cases d with
  | int n =>
    obtain rfl := iInt rv
    by_cases h : n ≤ 1000000
    · simp only [h, if_true] at p1
      exact ⟨n, rfl, k n H1 m1 st1 x1 y1 h p1 ⟨by omega, by omega, lo n h, by omega, by omega⟩⟩
    · simp only [h, if_false] at p1
      exact p1.elim
  | _ => exact p1.elim
def rg1' (f : Ev) : Ea := fun ρ st => (f ρ st).bind fun d st1 => match d with
  | .int n => if 0 ≤ n ∧ n ≤ 1000000 then .ok (rng 0 n.toNat) st1 else .bad
  | _ => .bad
theorem rg1'_seq {f : Ev} {σ : L2.St} {H : Hp} {α : Type} {m : MX} {ρ : Sl} {st : Sto} {g : List D → Sto → R α} {P : α → Sto → MX → Hp → Prop} {Q : Int → Int → Hp → Prop} (hsl : RepSl X.K m H ρ σ) (hst : RepSt X.K m H st) (hp : Post X.K W σ m H ((rg1' f ρ st).bind g) P)
    (k : ∀ n H1 m1 st1, Ext X.K m H m1 H1 → RepSt X.K m1 H1 st1 → Post X.K W σ m1 H1 (g (rng 0 n.toNat) st1) P → RgOk 0 n → Q 0 n H1) : tRg1 (tE X.K W f) σ H Q := by
  unfold rg1' at hp
  rw [bind_assoc] at hp
  refine tE_seq hsl hst hp fun v H1 m1 d st1 x1 sl1 y1 rv p1 => ?_
  cases d with
  | int n =>
    obtain rfl := iInt rv
    by_cases h : 0 ≤ n ∧ n ≤ 1000000
    · simp only [h, and_self, if_true] at p1
      exact ⟨n, rfl, k n H1 m1 st1 x1 y1 p1 ⟨by omega, by omega, by omega, by omega, by omega⟩⟩
    · simp only [h, if_false] at p1
      exact p1.elim
  | _ => exact p1.elim
theorem n_listRg {f : Ev} (hc : X.calm = true) (hl : Gl X "list") (hml : X.mg "list" = none) (hr : Gl X "range") (hmr : X.mg "range" = none) (ha : PE X a (tE X.K W f)) (na : starEach [a] X.env = (false, eval a X.env) :: starEach [] X.env)
    (ne : starEach [Expr.Call (.Name "range" p2) [a] [] p] X.env = (false, eval (Expr.Call (.Name "range" p2) [a] [] p) X.env) :: starEach [] X.env) {q1 q2 : Pos} : PE X (.Call (.Name "list" q1) [.Call (.Name "range" p2) [a] [] p] [] q2) (tN X.K W (rg1' f)) := by
  refine PE_imp (pe_listRg hc hl hml (prg_1 hr hmr ha na) ne) fun σ H Q hw => ?_
  obtain ⟨m, ρ, st, hsl, hst, hp⟩ := hw
  have hp' : Post X.K W σ m H ((rg1' f ρ st).bind fun ds st => .ok ds st) (fun ds _ m' H' => ∀ a vs, H' a = none → Reps X.K m' H' ds vs → vs.length ≤ sizeLine → Q (.ref a) (upd H' a (.lst vs))) := by
    have e : ((rg1' f ρ st).bind fun ds st => .ok ds st) = rg1' f ρ st := by cases rg1' f ρ st <;> rfl
    rw [e]; exact hp
  refine rg1'_seq hsl hst hp' fun n H1 m1 st1 x y p1 ok => ?_
  refine ⟨ok, fun q hq => p1 m1 H1 .refl y q (rgV 0 n) hq rgV_rep ?_⟩
  obtain ⟨_, _, _, _, k⟩ := ok
  rw [rgV_length]
  exact Nat.le_trans k (by decide)
def evT (g : Ea) : Ev := fun ρ st => (g ρ st).bind fun ds st1 => .ok (.tup ds) st1
theorem e_tupRg {f : Ev} (hc : X.calm = true) (hl : Gl X "tuple") (hml : X.mg "tuple" = none) (hr : Gl X "range") (hmr : X.mg "range" = none) (ha : PE X a (tE X.K W f)) (na : starEach [a] X.env = (false, eval a X.env) :: starEach [] X.env)
    (ne : starEach [Expr.Call (.Name "range" p2) [a] [] p] X.env = (false, eval (Expr.Call (.Name "range" p2) [a] [] p) X.env) :: starEach [] X.env) {q1 q2 : Pos} : PE X (.Call (.Name "tuple" q1) [.Call (.Name "range" p2) [a] [] p] [] q2) (tE X.K W (evT (rg1' f))) := by
  refine PE_imp (pe_tupRg hc hl hml (prg_1 hr hmr ha na) ne) fun σ H Q hw => ?_
  obtain ⟨m, ρ, st, hsl, hst, hp⟩ := hw
  refine rg1'_seq hsl hst hp fun n H1 m1 st1 x y p1 ok => ?_
  exact ⟨ok, fun q hq => p1 m1 _ (.new hq) (y.new hq) _ (.tup_new hq rgV_rep)⟩
/-- name = [..] on one line -/
theorem s_setLc {elt tg iter : Expr} {ifs : List Expr} {scope : Scope} {own : List (Str × Nat)} {ts : List Nat} {i : Nat} {py spos : Pos} {it : Ea} {g : Tg} {t : Eb} {f : Ev} (hc : X.calm = true) (hN : X.N.Nodup) (hy : X.N[i]? = some x) (hyl : X.env.scope.names.lookup x = some .local)
    (hsw : swapsWith (.ListComp elt [⟨tg, iter, ifs, 0⟩] scope pos) (some (.Name x py)) spos.line X.env = pure true) (hi : PI X tg iter (tI X.K W it)) (ok : BlkOk X.N X.env.scope scope own)
    (hg : ∀ s H C cl fp, PG (X.blk s H scope (compEnvC scope cl C X.env) fp) tg (tG X.K ts g)) (ht : ∀ s H C cl fp, PTs (X.blk s H scope (compEnvC scope cl C X.env) fp) ifs (tT X.K WF t))
    (he : ∀ s H C cl fp, PE (X.blk s H scope (compEnvC scope cl C X.env) fp) elt (tE X.K WF f)) (hs : ∀ x, foldedSetIterable iter X.env x = pure x) (ho : ∀ i ∈ ts, i ∈ own.map (·.2)) :
    PS X (.Assign [.Name x py] (.ListComp elt [⟨tg, iter, ifs, 0⟩] scope pos) spos) (tS X.K W (sSet i (evLc (own.map (·.2)) it g t f))) := by
  refine PS_imp (ps_setLc hc hN hy hyl hsw hi ok hg ht he hs) fun D σ H hw => ?_
  obtain ⟨m, ρ, st, hsl, hst, hp⟩ := hw
  exact tLc_of ho (sE hsl hst hp fun v H1 m1 d st1 x1 sl1 y1 rv p1 => p1 m1 H1 _ .refl (sl1.set rv) y1)
theorem s_setLc2 {elt tg iter tg1 iter1 : Expr} {ifs ifs1 : List Expr} {scope : Scope} {own : List (Str × Nat)} {ts ts1 vs1 : List Nat} {i : Nat} {py spos : Pos} {it it1 : Ea} {g g1 : Tg} {t t1 : Eb} {f : Ev} (hc : X.calm = true) (hN : X.N.Nodup) (hy : X.N[i]? = some x) (hyl : X.env.scope.names.lookup x = some .local)
    (hsw : swapsWith (.ListComp elt [⟨tg, iter, ifs, 0⟩, ⟨tg1, iter1, ifs1, 0⟩] scope pos) (some (.Name x py)) spos.line X.env = pure true) (hi : PI X tg iter (tI X.K W it)) (ok : BlkOk X.N X.env.scope scope own) (hv : ∀ i ∈ vs1, i ∈ own.map (·.2))
    (hg : ∀ s H C cl fp, PG (X.blk s H scope (compEnvC scope cl C X.env) fp) tg (tG X.K ts g)) (ht : ∀ s H C cl fp, PTs (X.blk s H scope (compEnvC scope cl C X.env) fp) ifs (tT X.K WF t))
    (hi1 : ∀ s H C cl fp, PI (X.blk s H scope (compEnvC scope cl C X.env) fp) tg1 iter1 (tI X.K WF it1))
    (hg1 : ∀ s H C cl fp, PG (X.blk s H scope (compEnvC scope cl C X.env) fp) tg1 (tG X.K ts1 g1)) (ht1 : ∀ s H C cl fp, PTs (X.blk s H scope (compEnvC scope cl C X.env) fp) ifs1 (tT X.K WF t1))
    (he : ∀ s H C cl fp, PE (X.blk s H scope (compEnvC scope cl C X.env) fp) elt (tE X.K WF f)) (hs : ∀ x, foldedSetIterable iter X.env x = pure x) (hs1 : ∀ env x, foldedSetIterable iter1 env x = pure x) (ho : ∀ i ∈ ts, i ∈ own.map (·.2)) (ho1 : ∀ i ∈ ts1, i ∈ vs1) :
    PS X (.Assign [.Name x py] (.ListComp elt [⟨tg, iter, ifs, 0⟩, ⟨tg1, iter1, ifs1, 0⟩] scope pos) spos) (tS X.K W (sSet i (evLc2 (own.map (·.2)) vs1 it g t it1 g1 t1 f))) := by
  refine PS_imp (ps_setLc2 hc hN hy hyl hsw hi ok hv hg ht hi1 hg1 ht1 he hs hs1) fun D σ H hw => ?_
  obtain ⟨m, ρ, st, hsl, hst, hp⟩ := hw
  exact tLc2_of ho ho1 (sE hsl hst hp fun v H1 m1 d st1 x1 sl1 y1 rv p1 => p1 m1 H1 _ .refl (sl1.set rv) y1)
/-- raise X('..') -/
def ExcHas (X : Cx) (x : Str) : Prop := (He.Fa.exc x).ok X.K = true ∧ X.mg x = some (.ref (He.ga X.K x))
theorem s_raise {z : Str} {j : Nat} {p3 : Pos} (hc : X.calm = true) (tk : L2N.Takes X W) (h : ExcHas X x) (hg : Gl X x) (hd : (x == ("__debug__" : Str)) = false) : PS X (.Raise (some (.Call (.Name x p) [.Constant (.str z) j p2] [] p3)) none pos) (tS X.K W (sExc x)) := by
  obtain ⟨h1, h2⟩ := h
  obtain ⟨q1, q2, q3, q4⟩ := He.exc_ok h1
  refine PS_imp (L2N.ps_raise hc tk (L2N.pmk_own F.excBase_ValueError q1 h2 q2 (raises_own q3 q4) hg hd)) fun D σ H hw => ?_
  obtain ⟨m, ρ, st, hsl, hst, hp⟩ := hw
  exact hp m H σ .refl hsl hst
end

/-! ### a def's end -/
mutual
/-- no mutable list in there -/
def rfree : D → Bool
  | .tup xs => rfrees xs
  | .lst xs => rfrees xs
  | .scr xs => rfrees xs
  | .ref _ => false
  | .clo _ _ _ => false
  | .ins _ xs => rfrees xs
  | _ => true
def rfrees : List D → Bool
  | [] => true
  | x :: xs => rfree x && rfrees xs
end
section
variable {K : PySem.W.Frag} {m m' : MX} {H : Hp}
mutual
theorem Rep.less (hl : ∀ a, m.has a → m'.has a) : ∀ {d : D} {v : V}, rfree d = true → Rep K m' H d v → Rep K m H d v
  | .non, _, _, h => by simpa only [Rep] using h
  | .bl _, _, _, h => by simpa only [Rep] using h
  | .int _, _, _, h => by simpa only [Rep] using h
  | .str _, _, _, h => by simpa only [Rep] using h
  | .glo _, _, _, h => by simpa only [Rep] using h
  | .tup ds, _, f, h => by
    simp only [Rep] at h ⊢
    obtain ⟨a, vs, rfl, h1, h2⟩ := h
    exact ⟨a, vs, rfl, h1, Reps.less hl f h2⟩
  | .lst ds, _, f, h => by
    simp only [Rep] at h ⊢
    obtain ⟨a, vs, rfl, h1, h3, h2⟩ := h
    exact ⟨a, vs, rfl, h1, fun z => h3 (hl a z), Reps.less hl f h2⟩
  | .scr ds, _, f, h => by
    simp only [Rep] at h ⊢
    obtain ⟨a, vs, rfl, h1, h2⟩ := h
    exact ⟨a, vs, rfl, h1.imp (fun ⟨x, y⟩ => ⟨x, fun z => y (hl a z)⟩) id, Reps.less hl f h2⟩
  | .ref n, _, f, _ => by cases f
  | .clo _ _ _, _, f, _ => by cases f
  | .ins C ds, _, f, h => by
    simp only [Rep] at h ⊢
    obtain ⟨a, dx, vs, rfl, h1, h3, h4, h2⟩ := h
    exact ⟨a, dx, vs, rfl, h1, fun z => h3 (hl a z), h4, Reps.less hl f h2⟩
theorem Reps.less (hl : ∀ a, m.has a → m'.has a) : ∀ {ds : List D} {vs : List V}, rfrees ds = true → Reps K m' H ds vs → Reps K m H ds vs
  | [], _, _, h => by simpa only [Reps] using h
  | d :: ds, _, f, h => by
    have f' : (rfree d && rfrees ds) = true := f
    rw [Bool.and_eq_true] at f'
    obtain ⟨v, r, rfl, h1, h2⟩ := h.cons_inv
    exact .cons (Rep.less hl f'.1 h1) (Reps.less hl f'.2 h2)
end
end
/-- the caller's store: what the def made is gone -/
def cutSt (k : Nat) (st : Sto) : Option Sto := if st.length = k then some st else if k < st.length ∧ (st.take k).all rfrees = true then some (st.take k) else none
def cutVal (k : Nat) (st : Sto) (d : D) : Option D := if st.length = k then some d else match d with
  | .ref n => if n < k then some (.ref n) else (match st[n]? with
    | some xs => if rfrees xs = true then some (.lst xs) else none
    | none => none)
  | d => if rfree d = true then some d else none
def fnEnd (keep : Bool) (k : Nat) : RS → R D
  | .rt d st => if keep = true then .ok d st else match cutVal k st d, cutSt k st with
    | some d', some st' => .ok d' st'
    | _, _ => .bad
  | .nx _ st => match cutSt k st with
    | some st' => .ok .non st'
    | none => .bad
  | .exc c _ st => match cutSt k st with
    | some st' => .exc c st'
    | none => .bad
  | _ => .bad
/-- the slots at the start -/
def slots0 (n : Nat) (ds : List D) : Sl := ds.map some ++ List.replicate (n - ds.length) none
def fnRun (keep : Bool) (n : Nat) (b : Es) : Fn := fun ds st => fnEnd keep st.length (b (slots0 n ds) st)
section
variable {K : PySem.W.Frag} {m m' : MX} {H H' : Hp} {st st' : Sto}
theorem cut_rep {st2 : Sto} (e : Ext K m H m' H') (hst : RepSt K m H st) (hst' : RepSt K m' H' st') (hc : cutSt st.length st' = some st2) : Ext K m H m H' ∧ RepSt K m H' st2 ∧ (st'.length = st.length → m' = m ∧ st2 = st') ∧ (∀ a, m.has a → m'.has a) := by
  obtain ⟨r, e1, f1⟩ := e.pre
  have ex : Ext K m H m H' := ⟨⟨[], m.add_nil.symm, fun _ z => nomatch z⟩, e.kp, e.kt, e.kz, e.th⟩
  have hh : ∀ a, m.has a → m'.has a := fun a z => by
    rw [e1]
    exact z.imp (fun z => List.mem_append_left _ z) id
  have len : m'.l.length = m.l.length + r.length := by rw [e1]; exact List.length_append
  unfold cutSt at hc
  split at hc
  · rename_i hl
    cases hc
    have hr : r = [] := by
      have h1 := hst.len
      have h2 := hst'.len
      exact List.length_eq_zero_iff.mp (by omega)
    subst hr
    rw [MX.add_nil] at e1
    subst e1
    exact ⟨ex, hst', fun _ => ⟨rfl, rfl⟩, hh⟩
  · rename_i hl
    split at hc
    · rename_i hk
      cases hc
      refine ⟨ex, ⟨?_, hst.nd, fun n xs q => ?_, fun a ha => hst'.bz a (by rw [e.xs]; exact ha), hst'.tab⟩, fun z => absurd z hl, hh⟩
      · rw [List.length_take, hst.len]
        have := hk.1
        omega
      · have hn : n < st.length := by
          have := (List.getElem?_eq_some_iff.mp q).1
          rw [List.length_take] at this
          omega
        rw [List.getElem?_take, if_pos hn] at q
        obtain ⟨a, vs, h1, h2, h3⟩ := hst'.get q
        refine ⟨a, vs, ?_, h2, Reps.less hh (List.all_eq_true.mp hk.2 xs (List.mem_iff_getElem?.mpr ⟨n, by rw [List.getElem?_take, if_pos hn]; exact q⟩)) h3⟩
        rw [e1] at h1
        have h1 : (m.l ++ r)[n]? = some a := h1
        rw [List.getElem?_append_left (by rw [hst.len]; exact hn)] at h1
        exact h1
    · cases hc
theorem cutVal_rep {d d' : D} {v : V} (e : Ext K m H m' H') (hst : RepSt K m H st) (hst' : RepSt K m' H' st') {st2 : Sto} (hs : cutSt st.length st' = some st2) (hc : cutVal st.length st' d = some d') (r : Rep K m' H' d v) : Rep K m H' d' v := by
  obtain ⟨ex, _, same, hh⟩ := cut_rep e hst hst' hs
  unfold cutVal at hc
  split at hc
  · rename_i hl
    cases hc
    rw [(same hl).1] at r
    exact r
  · split at hc
    · rename_i n
      simp only [Rep] at r
      obtain ⟨a, rfl, h1⟩ := r
      obtain ⟨t, e1, f1⟩ := e.pre
      split at hc
      · rename_i hn
        cases hc
        simp only [Rep]
        refine ⟨a, rfl, ?_⟩
        rw [e1] at h1
        have h1 : (m.l ++ t)[n]? = some a := h1
        rw [List.getElem?_append_left (by rw [hst.len]; exact hn)] at h1
        exact h1
      · rename_i hn
        split at hc
        · rename_i xs q
          split at hc
          · rename_i hf
            cases hc
            obtain ⟨b, vs, k1, k2, k3⟩ := hst'.get q
            rw [h1] at k1; cases k1
            simp only [Rep]
            refine ⟨a, vs, rfl, .inl k2, fun z => ?_, Reps.less hh hf k3⟩
            rcases z with z | z
            · obtain ⟨i, hi, ei⟩ := List.mem_iff_getElem.mp z
              have : m'.l[i]? = some a := e.get (by rw [List.getElem?_eq_getElem hi, ei])
              have := ndx hst'.ndl this h1
              rw [hst.len] at hi
              omega
            · exact hst'.apart (List.mem_of_getElem? h1) (by rw [e.xs]; exact z)
          · cases hc
        · cases hc
    · split at hc
      · rename_i hf
        cases hc
        exact Rep.less hh hf r
      · cases hc
theorem RepSl.begin_ {ds : List D} {vs : List V} {n : Nat} (N : List Str) (hn : N.length = n) (r : Reps K m H ds vs) : RepSl K m H (slots0 n ds) (start N vs) := by
  unfold slots0 L2.start
  refine ⟨by simp [r.len, hn], fun i d q => ?_⟩
  by_cases hi : i < ds.length
  · rw [List.getElem?_append_left (by simpa using hi), List.getElem?_map] at q
    obtain ⟨d', e1, e2⟩ := Option.map_eq_some_iff.mp q
    cases e2
    obtain ⟨v, h1, h2⟩ := r.get e1
    refine ⟨v, ?_, h2⟩
    rw [List.getElem?_append_left (by rw [List.length_map, r.len]; exact hi), List.getElem?_map, h1]
    rfl
  · rw [List.getElem?_append_right (by simpa using hi), List.getElem?_replicate] at q
    split at q <;> cases q
/-- a def's promise from its body's reading -/
theorem fn_post {keep : Bool} {b : Es} {ds : List D} {vs : List V} {N : List Str} {n : Nat} {E : XK} {Q : VK} (hn : N.length = n) (r : Reps K m H ds vs) (hst : RepSt K m H st) (hp : Post K (fun c d _ H' => E c d H') [] m H (fnRun keep n b ds st) (PQ K Q)) :
    tS K (fun c d _ H' => E c d H') b { nx := fun _ H' => Q .non H', rt := Q } (start N vs) H := by
  refine ⟨m, _, st, RepSl.begin_ N hn r, hst, ?_⟩
  unfold fnRun at hp
  cases e : b (slots0 n ds) st with
  | rt d st' =>
    rw [e] at hp
    intro m' H' v x y rv
    simp only [fnEnd] at hp
    split at hp
    · exact hp m' H' x y v rv
    · split at hp
      · rename_i d' st2 e1 e2
        obtain ⟨x2, y2, _, _⟩ := cut_rep x hst y e2
        exact hp m H' x2 y2 v (cutVal_rep x hst y e2 e1 rv)
      · exact hp.elim
  | nx ρ st' =>
    rw [e] at hp
    intro m' H' σ' x sl y
    simp only [fnEnd] at hp
    split at hp
    · rename_i st2 e2
      obtain ⟨x2, y2, _, _⟩ := cut_rep x hst y e2
      exact hp m H' x2 y2 _ rNon
    · exact hp.elim
  | exc c ρ st' =>
    rw [e] at hp
    intro m' H' σ' x sl y
    simp only [fnEnd] at hp
    split at hp
    · rename_i st2 e2
      obtain ⟨x2, y2, _, _⟩ := cut_rep x hst y e2
      exact hp m H' x2 y2
    · exact hp.elim
  | bk ρ st' => rw [e] at hp; exact hp.elim
  | ct ρ st' => rw [e] at hp; exact hp.elim
  | bad => rw [e] at hp; exact hp.elim
end
end Ip
set_option Elab.async false
set_option linter.all false
set_option maxRecDepth 100000
set_option maxHeartbeats 4000000
namespace Ip
open PySem PySem.Spec PyProof.Rows L2

/-! ### iterators that serve in certain contexts -/
/-- a walk that serves in the contexts that are so -/
structure Goes (so : Cx → Prop) (P : Program) (w : World) (K : PySem.W.Frag) (tg : Expr) (J : It) (fp : List Addr) (it : Addr) (tn : Nat → Heap → Prop) : Prop where
  thing : ∀ i h, tn i h → ∀ b ∈ fp, ∃ o, h.get? b = some o ∧ ∀ v, o.data ≠ .cell v
  stays : ∀ i h h', tn i h → (∀ b ∈ fp, ∀ o, h.get? b = some o → h'.get? b = some o) → tn i h'
  step : ∀ (X : Cx), X.prog = P → X.w = w → X.K = K → so X → ∀ (i : Nat) (pins : List (Addr × Obj)) (s : Shared) (σ : L2.St) (H : Hp) (E : Value → Shared → Prop), Inv X pins σ H s → (∀ b ∈ fp, FpOk X pins H b) → tn i s.heap → J.go i H →
    wpAny (model P w) X.A (pyNext (.ref it)) (fun r s1 => ∃ u, r = some u ∧ wpAny (model P w) X.A (letOwnedTupleGo tg (.ref it) u) (fun _ s2 => ∃ x H', Inv X pins σ H' s2 ∧ RelV x u ∧ J.yld i H x H' ∧ tn (i + 1) s2.heap ∧ ∀ b ∈ fp, H' b = none) E s1) E s
  over : ∀ (X : Cx), X.prog = P → X.w = w → X.K = K → so X → ∀ (i : Nat) (pins : List (Addr × Obj)) (s : Shared) (σ : L2.St) (H : Hp) (E : Value → Shared → Prop), Inv X pins σ H s → (∀ b ∈ fp, FpOk X pins H b) → tn i s.heap → J.stop i H →
    wpAny (model P w) X.A (pyNext (.ref it)) (fun r s1 => r = none ∧ Inv X pins σ H s1) E s
  own : ∀ (A : Around) (i : Nat) (s : Shared) (Q : Value → Shared → Prop) (E : Value → Shared → Prop), tn i s.heap → Q (.ref it) s → wpAny (model P w) A (pyIter (.ref it)) Q E s
abbrev Calm (X : Cx) : Prop := X.calm = true
theorem Goes.calm {P : Program} {w : World} {K : PySem.W.Frag} {tg : Expr} {J : It} {fp : List Addr} {it : Addr} {tn : Nat → Heap → Prop} (T : Turn P w K tg J fp it tn) : Goes Calm P w K tg J fp it tn := ⟨T.obj, T.keep, T.item, T.done, T.self⟩
/-- the walk has come -/
def Come (so : Cx → Prop) (X : Cx) (pins : List (Addr × Obj)) (σ : L2.St) (tg : Expr) (R : It → Hp → Prop) (itv : Value) (s2 : Shared) : Prop :=
  ∃ (it : Addr) (fp : List Addr) (tn : Nat → Heap → Prop) (J : It) (H' : Hp), itv = .ref it ∧ Inv X pins σ H' s2 ∧ Goes so X.prog X.w X.K tg J fp it tn ∧ tn 0 s2.heap ∧ (∀ b ∈ fp, FpOk X pins H' b) ∧ R J H'
structure PIo (so : Cx → Prop) (X : Cx) (tg iter : Expr) (wi : TI) : Prop where
  run : ∀ (pins : List (Addr × Obj)) (s : Shared) (σ : L2.St) (H : Hp) (R : It → Hp → Prop), Inv X pins σ H s → wi σ H R →
    wpAny (model X.prog X.w) X.A (eval iter X.env) (fun v s1 => wpAny (model X.prog X.w) X.A (pyIter v) (Come so X pins σ tg R) X.xe s1) X.xe s
theorem PIo.calm {X : Cx} {tg iter : Expr} {wi : TI} (h : PI X tg iter wi) : PIo Calm X tg iter wi := ⟨fun pins s σ H R I hw => thn (h.run pins s σ H R I hw) fun v s1 h1 => thn h1 fun itv s2 ⟨it, fp, tn, J, H', e, I', T, st, f, r⟩ => ⟨it, fp, tn, J, H', e, I', .calm T, st, f, r⟩⟩

/-! ### a block -/
/-- a comprehension's block that starts at s: all pins stand there too -/
abbrev blkP (X : Cx) (s : Shared) (H : Hp) (scope : Scope) (cenv : Env) (fp : List Addr) (pn : List (Addr × Obj)) : Cx := (X.blk s H scope cenv fp).tr pn fun _ _ => False
/-- what is known of a block's start -/
structure Starts (X : Cx) (scope : Scope) (s : Shared) (C : Addr) (cl : List (Str × Addr)) (pn : List (Addr × Obj)) : Prop where
  at_ : ∃ (pins : List (Addr × Obj)) (σ : L2.St) (H : Hp), Inv X pins σ H s ∧ pn = X.pn ++ pins
  loc : C = s.heap.objs.size
  cells : cl = cellsFrom (s.heap.objs.size + 1) scope.names (cloFrom X.env.cells scope.names [])
section
variable {X : Cx}
theorem blk_begin {pins : List (Addr × Obj)} {σ : L2.St} {H : Hp} {s : Shared} {scope : Scope} {own : List (Str × Nat)} {fp : List Addr} (I : Inv X pins σ H s) (ok : BlkOk X.N X.env.scope scope own) (hN : X.N.Nodup) (hfp : ∀ b ∈ fp, FpOk X pins H b ∧ b < s.heap.objs.size) :
    Inv (blkP X s H scope (compEnvC scope (cellsFrom (s.heap.objs.size + 1) scope.names (cloFrom X.env.cells scope.names [])) s.heap.objs.size X.env) fp (X.pn ++ pins)) [] (wipe σ (own.map (·.2))) H { s with heap := pushCells (s.heap.push { cls := .type "dict", data := .dict #[] }) scope.names } := by
  have B := block_start I ok hN hfp
  refine ⟨B.ok.toTry _ _, B.os, B.bare, B.base, B.loc, B.cell, B.free, B.freeC, fun p hp => ?_, B.hok, B.len⟩
  have hp : p ∈ X.pn ++ pins := by simpa using hp
  obtain ⟨p1, p2, p3, p4, p5⟩ := I.pin p hp
  refine ⟨pushCells_keeps _ _ _ _ (Heap.get?_push_of_some _ p1), p2, ?_, fun z => ?_, p5⟩
  · show p.1 ≠ s.heap.objs.size
    exact Nat.ne_of_lt (Heap.lt_size p1)
  · rcases List.mem_cons.mp (I.stkSub _ z) with e | e
    · exact p3 e
    · exact p4 e
/-- the parts of a block -/
structure Parts (X : Cx) (scope : Scope) (tg elt : Expr) (ifs : List Expr) (g : TG) (tt : TT) (te : TE) : Prop where
  go : ∀ (s : Shared) (H : Hp) (C : Addr) (cl : List (Str × Addr)) (fp : List Addr) (pn : List (Addr × Obj)), Starts X scope s C cl pn →
    PG (blkP X s H scope (compEnvC scope cl C X.env) fp pn) tg g ∧ PTs (blkP X s H scope (compEnvC scope cl C X.env) fp pn) ifs tt ∧ PE (blkP X s H scope (compEnvC scope cl C X.env) fp pn) elt te
theorem comp_core {so : Cx → Prop} {pins : List (Addr × Obj)} {s : Shared} {σ : L2.St} {H : Hp} {Q : VK} {elt tg iter : Expr} {ifs : List Expr} {scope : Scope} {own : List (Str × Nat)} {pos pos' : Pos} {wi : TI} {g : TG} {tt : TT} {te : TE} {use : Option (Value → Sem Unit)} {Qf : Value → Shared → Prop}
    (hso : ∀ s H C cl fp pn, Starts X scope s C cl pn → so (blkP X s H scope (compEnvC scope cl C X.env) fp pn)) (hN : X.N.Nodup) (I : Inv X pins σ H s) (hi : PIo so X tg iter wi) (ok : BlkOk X.N X.env.scope scope own)
    (hp : Parts X scope tg elt ifs g tt te) (hs : ∀ x, foldedSetIterable iter X.env x = pure x) (h : tLc wi g tt te (own.map (·.2)) σ H Q)
    (hEnd : ∀ D C s' m H', Inv X pins σ H' s' → Q (.ref D) H' → s'.heap.Ns C m → FpOk X pins H' C → compPost (model X.prog X.w) X.A X.xe use Qf (.ref D) C (.ok .next) s') :
    wpAny (model X.prog X.w) X.A (comprehension (.ListComp elt [⟨tg, iter, ifs, 0⟩] scope pos) scope X.env pos' (newList []) false (eval iter X.env) use) Qf X.xe s := by
  have fr : ∀ y ∈ scope.names, y.2 = .free → ∃ c, X.env.cells.lookup y.1 = some c := fun y hy e => I.ok.has _ ((ok.free y hy e).imp id id)
  refine wpAny_comprehension_free (use := use) rfl hs (closure_ok fr) ok.kind (fun y hy e => by rw [ok.uniq y hy, e]) (thn (hi.run pins s σ H _ I h) fun _ sa ha => thn ha fun itv s2 come => ?_)
  obtain ⟨it, fp, tn, J, H2, rfl, I2, G, t2, f2, q⟩ := come
  refine wpAny_newObj_type (newEnv_comp ?_) (by show 0 ≤ sizeLine; decide)
  -- the new list stands at the heap's end
  obtain ⟨D, hD⟩ : ∃ D, s2.heap.objs.size = D := ⟨_, rfl⟩
  have nD : H2 D = none := I2.hok.fresh (Nat.le_of_eq hD)
  obtain ⟨W, ⟨m0, w0⟩, turn⟩ := q D nD
  obtain ⟨s3, e3⟩ : ∃ s3 : Shared, s3 = { s2 with heap := s2.heap.push { cls := .type "list", data := .seq ([] : List Value).toArray } } := ⟨_, rfl⟩
  have hp3 : s3.heap = s2.heap.push { cls := .type "list", data := .seq ([] : List Value).toArray } := by rw [e3]
  have I3 : Inv X pins σ (upd H2 D (.lst [])) s3 := by
    subst e3
    refine I2.laid (t' := s2.toks) (fun b o e => Heap.get?_push_of_some _ e) (Nat.le_of_eq hD) ⟨Nat.zero_le _, [], 0, .nil, ?_⟩
    subst hD
    exact Heap.get?_push_size _ rfl
  have lt : ∀ b ∈ fp, b < s2.heap.objs.size := fun b hb => let ⟨o, e, _⟩ := G.thing _ _ t2 b hb; Heap.lt_size e
  have f3 : ∀ b ∈ fp, FpOk X pins (upd H2 D (.lst [])) b ∧ b < s3.heap.objs.size := fun b hb => by
    refine ⟨⟨?_, (f2 b hb).2⟩, by rw [hp3, Heap.size_push]; exact Nat.lt_succ_of_lt (lt b hb)⟩
    rw [upd_ne (Nat.ne_of_lt (hD ▸ lt b hb))]
    exact (f2 b hb).1
  have t3 : tn 0 s3.heap := G.stays _ _ _ t2 fun b _ o e => by rw [hp3]; exact Heap.get?_push_of_some _ e
  -- the block's context
  obtain ⟨cl, hcl⟩ : ∃ cl, cl = cellsFrom (s3.heap.objs.size + 1) scope.names (cloFrom X.env.cells scope.names []) := ⟨_, rfl⟩
  have st : Starts X scope s3 s3.heap.objs.size cl (X.pn ++ pins) := ⟨⟨pins, σ, _, I3, rfl⟩, rfl, hcl⟩
  obtain ⟨pg, pt, pe⟩ := hp.go s3 (upd H2 D (.lst [])) _ cl fp _ st
  have hh := hso s3 (upd H2 D (.lst [])) _ cl fp _ st
  have B := blk_begin I3 ok hN f3
  rw [← hcl] at B
  have nf : ∀ b ∈ fp, (upd H2 D (.lst [])) b = none := fun b hb => (f3 b hb).1.1
  obtain ⟨s4, e4⟩ : ∃ s4 : Shared, s4 = { s3 with heap := pushCells (s3.heap.push { cls := .type "dict", data := .dict #[] }) scope.names } := ⟨_, rfl⟩
  rw [← e4] at B
  have t4 : tn 0 s4.heap := G.stays _ _ _ t3 fun b _ o e => by rw [e4]; exact pushCells_keeps _ _ _ _ (Heap.get?_push_of_some _ e)
  have main : codeAny (model X.prog X.w) X.A (.compStart (.ListComp elt [⟨tg, iter, ifs, 0⟩] scope pos) 0 (.ref it) (.ref D) (compEnvC scope cl s3.heap.objs.size X.env)) (compPost (model X.prog X.w) X.A X.xe use Qf (.ref D) s3.heap.objs.size) s4 := by
    obtain ⟨ce, hce⟩ : ∃ ce, ce = compEnvC scope cl s3.heap.objs.size X.env := ⟨_, rfl⟩
    have cL : ce.locals = s3.heap.objs.size := by rw [hce]; rfl
    rw [← hce] at B pg pt pe hh ⊢
    obtain ⟨H3, hH3⟩ : ∃ H3, H3 = upd H2 D (.lst []) := ⟨_, rfl⟩
    rw [← hH3] at I3 B pg pt pe hh w0 nf f3
    have still : ∀ {σ' : L2.St} {H' : Hp} {s' : Shared}, Inv (blkP X s3 H3 scope ce fp (X.pn ++ pins)) [] σ' H' s' → (∀ b ∈ fp, H' b = none) → ∀ b ∈ fp, FpOk (blkP X s3 H3 scope ce fp (X.pn ++ pins)) [] H' b := fun {σ' H' s'} I' hn b hb =>
      ⟨hn b hb, (I'.ok.exf b hb).1, I'.ok.exfs b hb, .inl hb, fun x c e => (I'.ok.exf b hb).2 x c e, fun p hp => (f3 b hb).1.2.2.2.2.2 p (by simpa using hp)⟩
    have all : codeAny (model X.prog X.w) X.A (.compLoop (.ListComp elt [⟨tg, iter, ifs, 0⟩] scope pos) 0 (.ref it) (.ref D) ce) (compPost (model X.prog X.w) X.A X.xe use Qf (.ref D) s3.heap.objs.size) s4 := by
      refine compLoop_any (fun n s' => ∃ i H', Inv (blkP X s3 H3 scope ce fp (X.pn ++ pins)) [] (wipe σ (own.map (·.2))) H' s' ∧ tn i s'.heap ∧ (∀ b ∈ fp, H' b = none) ∧ W i n H') ?_ m0 ⟨0, H3, B, t4, nf, w0⟩
      rintro n s5 ⟨i, H5, I5, t5, n5, w5⟩
      rcases turn i n H5 w5 with ⟨stop, qq⟩ | ⟨go, Nx, less, each⟩
      · refine thnF (G.over (blkP X s3 H3 scope ce fp (X.pn ++ pins)) rfl rfl rfl hh i [] s5 _ H5 (fun _ _ => False) I5 (still I5 n5) t5 stop) fun r s6 ⟨hr, I6⟩ => ?_
        subst hr
        have I7 : Inv X pins σ H5 s6 := I3.call' (ch := fp) I6.os I6.base I6.hok I6.bare fun b hb => ⟨(f3 b hb).1.2.2.2.1, (f3 b hb).1.2.1, (f3 b hb).1.2.2.2.2.1, (f3 b hb).1.2.2.2.2.2⟩
        have nC : H5 s3.heap.objs.size = none := cL ▸ I6.free
        obtain ⟨m, hn, _⟩ := I6.loc
        exact hEnd D s3.heap.objs.size s6 m H5 I7 qq (cL ▸ hn) (I3.fpOk (Nat.le_refl _) nC)
      · refine thnF (G.step (blkP X s3 H3 scope ce fp (X.pn ++ pins)) rfl rfl rfl hh i [] s5 _ H5 (fun _ _ => False) I5 (still I5 n5) t5 go) fun r s6 ⟨u, hr, h6⟩ => ?_
        subst hr
        refine thnF h6 fun _ s7 ⟨x, H7, I7, r7, y7, t7, n7⟩ => ?_
        have P7 := L2.Inv.pinned I7 (still I7 n7) (G.thing _ _ t7)
        have back : ∀ {σ8 : L2.St} {s' : Shared} {H' : Hp}, wipe σ8 (own.map (·.2)) = wipe (wipe σ (own.map (·.2))) [] → Inv (blkP X s3 H3 scope ce fp (X.pn ++ pins)) ([] ++ pinsAt fp s7.heap) σ8 H' s' → Nx H' → ∃ m, m < n ∧ ∃ i H', Inv (blkP X s3 H3 scope ce fp (X.pn ++ pins)) [] (wipe σ (own.map (·.2))) H' s' ∧ tn i s'.heap ∧ (∀ b ∈ fp, H' b = none) ∧ W i m H' := fun {σ8 s' H'} hw I' nx => by
          have hw : wipe σ8 (own.map (·.2)) = wipe σ (own.map (·.2)) := hw
          obtain ⟨m', lm, w'⟩ := less H' nx
          have held : ∀ b ∈ fp, ∀ o, s7.heap.get? b = some o → s'.heap.get? b = some o ∧ H' b = none := fun b hb o e => (I'.pin (b, o) (List.mem_append_right _ (List.mem_append_right _ (mem_pinsAt hb e)))).imp id And.left
          have len : (wipe σ (own.map (·.2))).length = σ8.length := by rw [← hw, wipe_length]
          refine ⟨m', lm, i + 1, H', (L2.Inv.unpinned (pins := []) I').weak len fun j v e => (wipe_some (by rw [hw]; exact e)).1, G.stays _ _ _ t7 fun b hb o e => (held b hb o e).1, fun b hb => ?_, w'⟩
          obtain ⟨o, e, _⟩ := G.thing _ _ t7 b hb
          exact (held b hb o e).2
        refine thnF (pg.run _ s7 _ H7 x u _ P7 r7 (each x H7 y7)) fun _ s8 ⟨σ8, H8, I8, hw8, q8⟩ => ?_
        refine thnF (pt.run _ s8 σ8 H8 _ I8 q8) fun b s9 ⟨H9, I9, q9⟩ => ?_
        cases b with
        | false => exact back hw8 I9 q9
        | true =>
          refine thnF (pe.run _ s9 σ8 H9 _ I9 q9) fun z s10 ⟨yv, H10, I10, r10, acc, hD10, hz10, nx⟩ => ?_
          exact app_ok (X := blkP X s3 H3 scope ce fp (X.pn ++ pins)) I10 hD10 hz10 r10 fun s11 I11 => back hw8 I11 nx
    exact codeAny_compStart_list all (G.own X.A 0 _ _ _ t4 all)
  rw [hD, ← e3, ← hcl, ← e4]
  exact main
/-- as a value -/
theorem e_comp {so : Cx → Prop} {W : WX} {elt tg iter : Expr} {ifs : List Expr} {scope : Scope} {own : List (Str × Nat)} {ts : List Nat} {pos : Pos} {it : Ea} {g : Tg} {t : Eb} {f : Ev} (hso : ∀ s H C cl fp pn, Starts X scope s C cl pn → so (blkP X s H scope (compEnvC scope cl C X.env) fp pn)) (hN : X.N.Nodup)
    (hi : PIo so X tg iter (tI X.K W it)) (ok : BlkOk X.N X.env.scope scope own) (hp : Parts X scope tg elt ifs (tG X.K ts g) (tT X.K WF t) (tE X.K WF f)) (hs : ∀ x, foldedSetIterable iter X.env x = pure x) (ho : ∀ i ∈ ts, i ∈ own.map (·.2)) :
    PE X (.ListComp elt [⟨tg, iter, ifs, 0⟩] scope pos) (tE X.K W (evLc (own.map (·.2)) it g t f)) := by
  refine ⟨fun pins s σ H Q I hw => ?_⟩
  rw [eval_ListComp]
  refine comp_core hso hN I hi ok hp hs (tLc_of ho hw) fun D C s' m H' J q hn fp => ⟨m, hn, fun h'' sb => ⟨.ref D, H', ?_, rfl, q⟩⟩
  exact J.turned (t' := s'.toks) (fun b o ne e => (sb.2 b ne).trans e) fp.1 fp.2.1 fp.2.2.2.1 fp.2.2.2.2.1 fp.2.2.2.2.2
/-- x = [..] on one line, x a plain local -/
theorem s_setComp {so : Cx → Prop} {W : WX} {elt tg iter : Expr} {ifs : List Expr} {scope : Scope} {own : List (Str × Nat)} {ts : List Nat} {i : Nat} {x : Str} {py pos spos : Pos} {it : Ea} {g : Tg} {t : Eb} {f : Ev} (hso : ∀ s H C cl fp pn, Starts X scope s C cl pn → so (blkP X s H scope (compEnvC scope cl C X.env) fp pn)) (hN : X.N.Nodup)
    (hx : X.N[i]? = some x) (hl : X.env.scope.names.lookup x = some .local) (hsw : swapsWith (.ListComp elt [⟨tg, iter, ifs, 0⟩] scope pos) (some (.Name x py)) spos.line X.env = pure true)
    (hi : PIo so X tg iter (tI X.K W it)) (ok : BlkOk X.N X.env.scope scope own) (hp : Parts X scope tg elt ifs (tG X.K ts g) (tT X.K WF t) (tE X.K WF f)) (hs : ∀ x, foldedSetIterable iter X.env x = pure x) (ho : ∀ i ∈ ts, i ∈ own.map (·.2)) :
    PS X (.Assign [.Name x py] (.ListComp elt [⟨tg, iter, ifs, 0⟩] scope pos) spos) (tS X.K W (sSet i (evLc (own.map (·.2)) it g t f))) := by
  refine ⟨fun pins s σ H D I hw => ?_⟩
  obtain ⟨m0, ρ, st0, sl0, st0', hp0⟩ := hw
  have hT : tE X.K W (evLc (own.map (·.2)) it g t f) σ H (fun v H1 => D.nx (σ.set i (some v)) H1) := sE sl0 st0' hp0 fun v H1 m1 d st1 x1 sl1 y1 rv p1 => p1 m1 H1 _ .refl (sl1.set rv) y1
  rw [exec_Assign_Name_used _ _ _ _ hsw]
  refine wpAny_bind (wpAny_standAt (wpAny_bind ?_))
  show wpAny _ X.A (do
    let _ ← comprehension (.ListComp elt [⟨tg, iter, ifs, 0⟩] scope pos) scope X.env (firstIterPos [⟨tg, iter, ifs, 0⟩] pos) (newList []) false (eval iter X.env) (some (assign (.Name x py) X.env))) _ _ s
  refine wpAny_bind (thn (comp_core (Qf := fun _ s' => SP X pins D .next s') hso hN I hi ok hp hs (tLc_of ho hT) fun L C s' m H' J q hn fp => ?_) fun _ _ hq => wpAny_pure (wpAny_pure hq))
  refine wpAny_assign_Name (store_ok2 (v := V.ref L) J hN hx (.inl hl) rfl (fun s2 J2 far => ?_) (.inr hl))
  obtain ⟨a, sb, ha⟩ := far
  have ne : C ≠ a := by
    rcases ha with rfl | z
    · exact fp.2.1
    · exact Ne.symm (fp.2.2.2.2.1 x a z)
  exact ⟨m, hn.sameBut sb ne, fun h3 sb3 => ⟨_, H', J2.turned (t' := s2.toks) (fun b o nb e => (sb3.2 b nb).trans e) fp.1 fp.2.1 fp.2.2.2.1 fp.2.2.2.2.1 fp.2.2.2.2.2, q⟩⟩
end
end Ip
set_option Elab.async false
set_option linter.all false
set_option maxRecDepth 100000
set_option maxHeartbeats 4000000
namespace Ip
open PySem PySem.Spec PyProof.Rows L2

/-! ### what may be called -/
def Wider (base base' : Heap) : Prop := ∀ b o, base.get? b = some o → base'.get? b = some o
theorem Wider.rfl' {b : Heap} : Wider b b := fun _ _ e => e
theorem Wider.trans {a b c : Heap} (x : Wider a b) (y : Wider b c) : Wider a c := fun d o e => y d o (x d o e)
/-- one thing that is called, its number of values, its level, what it is run as -/
structure Cal where
  d : D
  n : Nat
  lv : Nat
  f : Fn
section
variable (P : Program) (w : World) (K : PySem.W.Frag) (mg : Str → Option Value)
/-- the module's name x holds a def of n parameters that is run as f -/
def Has (base : Heap) (x : Str) (n lv : Nat) (f : Fn) : Prop :=
  ∃ (a : Addr) (fd : FuncData) (ps : List Str), mg x = some (.ref a) ∧ PySem.W.keepIn K (.ref a) = true ∧ Binds K fd ps [] ∧ FnOk P w K mg base (L2N.CX P w) lv a fd ps (spF K n f)
/-- .. over base and all that are wider -/
def HasW (base : Heap) (x : Str) (n lv : Nat) (f : Fn) : Prop := ∀ base', Wider base base' → Has P w K mg base' x n lv f
/-- d, called with n values in any state over base, is run as f -/
def CalAt (base : Heap) (c : Cal) : Prop :=
  ∀ (base' : Heap), Wider base base' → ∀ (A : Around) (outer : List Env) (s : Shared) (H : Hp) (m : MX) (u : Value) (v : V) (us : List Value) (vs : List V) (ds : List D) (st : Sto) (Q : VK) (E : XK), Room c.lv A → Env0 P w K mg base' A outer s H → RepSt K m H st → Rep K m H c.d v → RelV v u →
    Reps K m H ds vs → Vals vs us → ds.length = c.n → Post K (fun c d _ H' => E c d H') [] m H (c.f ds st) (PQ K Q) → codeAny (model P w) A (.call u ⟨us, []⟩) (CR (L2N.CX P w) outer P w H s Q E) s
/-- it is a function's object -/
def CalF (base : Heap) : D → Prop
  | .clo a _ _ => PySem.W.FnAt a base
  | .glo x => PySem.W.keepIn K (.ref (He.ga K x)) = true
  | _ => False
/-- x is a def whose first value is something to be called with cn values (at the level cl); n: how many further ones -/
def HasH (base0 : Heap) (x : Str) (n cn cl lv : Nat) (F : Fn → Fn) : Prop :=
  ∃ a : Addr, mg x = some (.ref a) ∧ PySem.W.keepIn K (.ref a) = true ∧ ∀ (base : Heap), Wider base0 base → ∀ (A : Around) (outer : List Env) (s : Shared) (H : Hp) (m : MX) (d : D) (f : Fn) (u : Value) (v : V) (us : List Value) (vs : List V) (ds : List D) (st : Sto) (Q : VK) (E : XK),
    Room lv A → Env0 P w K mg base A outer s H → CalF K base d → CalAt P w K mg base ⟨d, cn, cl, f⟩ → RepSt K m H st → Rep K m H d v → RelV v u → Reps K m H ds vs → Vals vs us → ds.length = n →
    Post K (fun c d _ H' => E c d H') [] m H (F f ds st) (PQ K Q) → codeAny (model P w) A (.call (.ref a) ⟨u :: us, []⟩) (CR (L2N.CX P w) outer P w H s Q E) s
end
section
variable {P : Program} {w : World} {K : PySem.W.Frag} {mg : Str → Option Value} {base base' : Heap}
theorem Has.mono {x : Str} {n lv lv' : Nat} {f : Fn} (h : Has P w K mg base x n lv f) (hl : lv ≤ lv') : Has P w K mg base x n lv' f := by
  obtain ⟨a, fd, ps, h1, h2, h3, h4⟩ := h
  exact ⟨a, fd, ps, h1, h2, h3, h4.mono hl⟩
theorem HasW.wider {x : Str} {n lv : Nat} {f : Fn} (h : HasW P w K mg base x n lv f) (e : Wider base base') : HasW P w K mg base' x n lv f := fun b y => h b (e.trans y)
theorem HasW.mono {x : Str} {n lv lv' : Nat} {f : Fn} (h : HasW P w K mg base x n lv f) (hl : lv ≤ lv') : HasW P w K mg base x n lv' f := fun b y => (h b y).mono hl
theorem HasH.wider {x : Str} {n cn cl lv : Nat} {F : Fn → Fn} (h : HasH P w K mg base x n cn cl lv F) (e : Wider base base') : HasH P w K mg base' x n cn cl lv F := by
  obtain ⟨a, h1, h2, h3⟩ := h
  exact ⟨a, h1, h2, fun b y => h3 b (e.trans y)⟩
theorem CalAt.wider {c : Cal} (h : CalAt P w K mg base c) (e : Wider base base') : CalAt P w K mg base' c := fun b x => h b (e.trans x)
theorem CalAt.mono {d : D} {n lv lv' : Nat} {f : Fn} (h : CalAt P w K mg base ⟨d, n, lv, f⟩) (l : lv ≤ lv') : CalAt P w K mg base ⟨d, n, lv', f⟩ := fun b x A outer s H m u v us vs ds st Q E hr => h b x A outer s H m u v us vs ds st Q E (hr.mono l)
theorem CalF.wider {d : D} (h : CalF K base d) (e : Wider base base') : CalF K base' d := by
  cases d with
  | clo a _ _ =>
    obtain ⟨oc, od, fd, sl, q⟩ := h
    exact ⟨oc, od, fd, sl, e _ _ q⟩
  | glo x => exact h
  | _ => exact h
/-- a def of the module -/
theorem CalAt.of_has {x : Str} {n lv : Nat} {f : Fn} (h : HasW P w K mg base x n lv f) (hg : mg x = some (.ref (He.ga K x))) : CalF K base (.glo x) ∧ CalAt P w K mg base ⟨.glo x, n, lv, f⟩ := by
  refine ⟨?_, fun b2 w2 A outer s H m u v us vs ds st Q E hr e0 hst rd ru rv rr hl hp => ?_⟩
  · obtain ⟨a, fd, ps, h1, h2, _⟩ := h base .rfl'
    rw [hg] at h1
    cases h1
    exact h2
  · obtain ⟨a, fd, ps, h1, h2, h3, h4⟩ := h b2 w2
    rw [hg] at h1
    cases h1
    simp only [Rep] at rd
    subst rd
    cases ru
    have hsp : spF K n f vs H Q E := ⟨m, ds, st, rv, hl, hst, hp⟩
    have KI : K.In s.heap := e0.mod.kin.keeps fun b o e => (e0.bs b o e).1
    have hlen := h4.len _ _ _ _ hsp
    have b := h3 s us KI (by rw [List.append_nil, ← rr.length, hlen])
    exact h4.run A outer s H ⟨us, []⟩ us vs Q E hr e0 (by simpa using b) rr hsp
/-- the making of a lambda: the tables grow, nothing else is changed -/
theorem lam_ext {m : MX} {H H1 : Hp} {st : Sto} (hst : RepSt K m H st) (e : LamX.ExtN H H1) (t : LamX.Tabs (lamT K) H1) : Ext K m H m H1 ∧ RepSt K m H1 st := by
  have x : Ext K m H m H1 := ⟨⟨[], m.add_nil.symm, fun _ z => nomatch z⟩, fun a o h nt _ => e a o h nt, fun a xs h => e a _ h (fun _ z => nomatch z), fun a o u h => e a _ h (fun _ z => nomatch z), fun a h o q => by
    by_cases t : ∃ ps, o = .tbl ps
    · exact t
    · exact h o (e a o q fun ps z => t ⟨ps, z⟩)⟩
  exact ⟨x, hst.len, hst.nd, fun n xs q => by
    obtain ⟨a, vs, h1, h2, h3⟩ := hst.at_ n xs q
    exact ⟨a, vs, h1, e _ _ h2 (fun _ z => nomatch z), h3.mono x⟩, fun a ha => let ⟨vs, h⟩ := hst.bz a ha; ⟨vs, e _ _ h (fun _ z => nomatch z)⟩, t⟩
end
/-! ### a wider base -/
theorem env0_wide {X : Cx} {pins : List (Addr × Obj)} {σ : L2.St} {H : Hp} {s : Shared} (I : Inv X pins σ H s) (l : List Addr) (hl : ∀ b ∈ l, (∃ o, s.heap.get? b = some o) ∧ H b = none ∧ b ∉ frs X.stack) :
    ∃ base', Wider X.base base' ∧ (∀ b ∈ l, ∀ o, s.heap.get? b = some o → base'.get? b = some o) ∧ Env0 X.prog X.w X.K X.mg base' X.A X.stack s H := by
  have e0 := I.env0
  obtain ⟨out, ho⟩ : ∃ out : List Addr, out = (List.range s.heap.objs.size).filter fun b => !((X.base.get? b).isSome || decide (b ∈ l)) := ⟨_, rfl⟩
  have nin : ∀ b, ((X.base.get? b).isSome || decide (b ∈ l)) = true → b ∉ out := fun b hb z => by
    rw [ho] at z
    have := (List.mem_filter.mp z).2
    rw [hb] at this
    cases this
  have isin : ∀ b, b < s.heap.objs.size → ((X.base.get? b).isSome || decide (b ∈ l)) = false → b ∈ out := fun b h1 h2 => by
    rw [ho]
    exact List.mem_filter.mpr ⟨List.mem_range.mpr h1, by rw [h2]; rfl⟩
  have wid : Wider X.base (PySem.W.hideAll s.heap out) := fun b o e => PySem.W.hideAll_get _ (I.bk b o e) (nin b (by rw [e]; rfl))
  have of : ∀ b o, (PySem.W.hideAll s.heap out).get? b = some o → s.heap.get? b = some o ∧ ((∃ o', X.base.get? b = some o') ∨ b ∈ l) := fun b o e => by
    have e1 := PySem.W.of_hideAll _ e
    refine ⟨e1, ?_⟩
    cases q : ((X.base.get? b).isSome || decide (b ∈ l)) with
    | false =>
      have := PySem.W.hideAll_none (h := s.heap) out (isin b (Heap.lt_size e1) q)
      rw [e] at this; cases this
    | true =>
      rw [Bool.or_eq_true, decide_eq_true_eq] at q
      exact q.imp Option.isSome_iff_exists.mp id
  obtain ⟨mb, hb1, hb2⟩ := I.ok.mod.blt
  refine ⟨PySem.W.hideAll s.heap out, wid, fun b hb o e => PySem.W.hideAll_get _ e (nin b (by rw [decide_eq_true hb, Bool.or_true])), e0.frames, ⟨I.ok.mod.kin.keeps wid, I.ok.mod.glob.keeps wid, ⟨mb, hb1.keeps wid, hb2⟩, I.ok.mod.nolimit.keeps wid⟩, fun b o e => ?_, by rw [PySem.W.hideAll_size]; exact Nat.le_refl _, ?_, e0.frf, e0.hok, e0.bare⟩
  · obtain ⟨h1, h2⟩ := of b o e
    refine ⟨h1, ?_⟩
    rcases h2 with ⟨o', h2⟩ | h2
    · exact (I.bs b o' h2).2
    · exact (hl b h2).2.1
  · refine funFrames_none I.stack fun b hb => ?_
    cases q : (PySem.W.hideAll s.heap out).get? b with
    | none => rfl
    | some o =>
      rcases (of b o q).2 with ⟨o', h2⟩ | h2
      · have := (I.stack.mem hb).1
        rw [h2] at this; cases this
      · exact absurd hb (hl b h2).2.2

/-! ### a lambda -/
/-- the slots at its entry: its values, what it captures, its own names -/
def slotsL (N : List Str) (js : List Nat) (ds : List D) (ρ : Sl) : Sl := ds.map some ++ (js.map (fun j => (ρ[j]?).getD none) ++ List.replicate (N.length - ds.length - js.length) none)
theorem repSl_lam {K : PySem.W.Frag} {m : MX} {H : Hp} {N : List Str} {js : List Nat} {ds : List D} {vs : List V} {ρ : Sl} {σ : L2.St} (rd : Reps K m H ds vs) (hsl : RepSl K m H ρ σ) : RepSl K m H (slotsL N js ds ρ) (NdefX.startF N vs (js.map (NdefX.slotAt σ))) := by
  have hl := rd.len
  refine ⟨by simp [slotsL, NdefX.startF, hl], fun i d e => ?_⟩
  unfold slotsL at e
  unfold NdefX.startF
  by_cases h1 : i < ds.length
  · rw [List.getElem?_append_left (by simpa using h1), List.getElem?_map] at e
    rw [List.getElem?_append_left (by simp [hl]; exact h1), List.getElem?_map]
    cases q : ds[i]? with
    | none => rw [q] at e; cases e
    | some x =>
      rw [q] at e
      cases e
      obtain ⟨v, a, b⟩ := rd.get q
      exact ⟨v, by rw [a]; rfl, b⟩
  · rw [List.getElem?_append_right (by simpa using h1), List.length_map] at e
    rw [List.getElem?_append_right (by simp [hl]; omega)]
    simp only [List.length_map, hl]
    by_cases h2 : i - ds.length < js.length
    · rw [List.getElem?_append_left (by simpa using h2), List.getElem?_map] at e
      rw [List.getElem?_append_left (by simpa using h2), List.getElem?_map]
      cases q : js[i - ds.length]? with
      | none => rw [q] at e; cases e
      | some j =>
        rw [q] at e
        have e : (ρ[j]?).getD none = some d := Option.some.inj e
        cases r : ρ[j]? with
        | none => rw [r] at e; cases e
        | some o =>
          rw [r] at e
          have e : o = some d := e
          subst e
          obtain ⟨v, a, b⟩ := hsl.2 j d r
          exact ⟨v, by show some (NdefX.slotAt σ j) = _; rw [NdefX.slotAt_of a], b⟩
    · rw [List.getElem?_append_right (by simpa using h2), List.getElem?_replicate] at e
      split at e <;> cases e
theorem Post.back {α : Type} {K : PySem.W.Frag} {E : XK} {σ : L2.St} {m : MX} {H : Hp} {r : R α} {P : α → Sto → MX → Hp → Prop} (h : Post K (fun c d _ H' => E c d H') [] m H r P) : Post K (fun c d _ H' => E c d H') σ m H r P := by
  cases r with
  | ok a st => exact h
  | exc c st => exact h
  | bad => exact h
/-- the cells that a lambda captures, of objects that run nowhere -/
structure Cells (X : Cx) (scope : Scope) : Prop where
  free : ∀ y ∈ scope.names, y.2 = .free → ∃ c, X.env.cells.lookup y.1 = some c
  nofr : ∀ y c, X.env.cells.lookup y = some c → c ∉ frs X.stack
section
variable {X : Cx} {pins : List (Addr × Obj)} {σ : L2.St} {H1 : Hp} {s1 : Shared} {m1 : MX} {ρ : Sl} {st1 : Sto} {f c' : Addr} {params : Arguments} {body : Expr} {scope : Scope} {pm ctv : Value} {N ps fr : List Str} {js : List Nat} {lv : Nat} {fb : Ev}
/-- its words -/
abbrev lamF (X : Cx) (params : Arguments) (scope : Scope) (c' : Addr) : NdefX.NF := ⟨"<lambda>", X.env.qual ++ "<lambda>", params, [], scope, cloFrom X.env.cells scope.names [], c'⟩
/-- the context of its body -/
abbrev lamX (X : Cx) (base' : Heap) (N : List Str) (params : Arguments) (scope : Scope) (c' f : Addr) (A : Around) (outer : List Env) (s : Shared) (H : Hp) (E : XK) : Cx :=
  NdefX.ncx (L2N.CX X.prog X.w) X.prog X.w X.K X.mg base' N (lamF X params scope c') f A outer s H E
theorem lam_cal (I : Inv X pins σ H1 s1) (sl : RepSl X.K m1 H1 ρ σ) (hst : RepSt X.K m1 H1 st1)
    (hf : s1.heap.get? f = some (PySem.W.kla_obj "<lambda>" (X.env.qual ++ "<lambda>") params body scope (cloFrom X.env.cells scope.names []) pm c' ctv)) (hfn : H1 f = none) (hfr : f ∉ frs X.stack) (hc : H1 c' = some (LamX.CodeO c' (X.env.qual ++ "<lambda>")))
    (Ce : Cells X scope) (S : NdefX.NScope N ps fr scope) (cp : NdefX.Caps X (cloFrom X.env.cells scope.names []) fr js)
    (hbind : ∀ us : List Value, us.length = ps.length → bindArgs (PySem.W.kla_fn "<lambda>" (X.env.qual ++ "<lambda>") params body scope (cloFrom X.env.cells scope.names []) pm (.ref c') ctv) ⟨us, []⟩ = pure (ps.zip us))
    (hb : ∀ (base' : Heap) (A : Around) (outer : List Env) (s : Shared) (H : Hp) (E : XK), Wider X.base base' → (∀ y c, (cloFrom X.env.cells scope.names []).lookup y = some c → ∃ o, base'.get? c = some o) → Room lv (A.deeper (NdefX.envF (lamF X params scope c') f s.heap.objs.size)) →
      PE (lamX X base' N params scope c' f A outer s H E) body (tE X.K (fun c d _ H' => E c d H') fb)) :
    ∃ base', Wider X.base base' ∧ Env0 X.prog X.w X.K X.mg base' X.A X.stack s1 H1 ∧ CalF X.K base' (.clo f m1 H1) ∧ CalAt X.prog X.w X.K X.mg base' ⟨.clo f m1 H1, ps.length, lv + 1, fun ds st => fb (slotsL N js ds ρ) st⟩ := by
  have C := NdefX.cells_of I cp
  have mem : ∀ {y c}, (cloFrom X.env.cells scope.names []).lookup y = some c → X.env.cells.lookup y = some c := fun {y c} e => NdefX.clo_cm Ce.free e
  have memP : ∀ {p : Str × Addr}, p ∈ cloFrom X.env.cells scope.names [] → X.env.cells.lookup p.1 = some p.2 := fun {p} hp => by
    rcases cloFrom_mem (n := p.1) (c := p.2) hp with z | ⟨z1, z2⟩
    · cases z
    · obtain ⟨c1, hc1⟩ := Ce.free _ z1 rfl
      have hc1 : X.env.cells.lookup p.1 = some c1 := hc1
      rw [z2, hc1]; rfl
  obtain ⟨base', wid, all, e0'⟩ := env0_wide I (f :: (cloFrom X.env.cells scope.names []).map (·.2)) fun b hb => by
    rcases List.mem_cons.mp hb with rfl | hb
    · exact ⟨⟨_, hf⟩, hfn, hfr⟩
    · obtain ⟨p, hp, rfl⟩ := List.mem_map.mp hb
      obtain ⟨v, o, ho, _⟩ := I.cell p.1 p.2 (memP hp)
      exact ⟨⟨o, ho⟩, I.freeC p.1 p.2 (memP hp), Ce.nofr p.1 p.2 (memP hp)⟩
  have inb : ∀ {y c}, (cloFrom X.env.cells scope.names []).lookup y = some c → ∀ o, s1.heap.get? c = some o → base'.get? c = some o := fun {y c} e o ho =>
    all c (List.mem_cons_of_mem _ (List.mem_map.mpr ⟨(y, c), PySem.mem_of_lookup e, rfl⟩)) o ho
  have hfb := all f List.mem_cons_self _ hf
  refine ⟨base', wid, e0', ⟨_, _, _, _, hfb⟩, ?_⟩
  intro base2 w2 A outer s H m u v us vs ds st Q E hr e0 hst' rd ru rv rr hl hp
  simp only [Rep] at rd
  obtain ⟨rfl, hw⟩ := rd
  cases ru
  have keep : ∀ {b : Addr} {o : Obj}, base'.get? b = some o → s.heap.get? b = some o ∧ H b = none := fun {b o} e => e0.bs b o (w2 b o e)
  have ho := (keep hfb).1
  have cel : ∀ y c v, (cloFrom X.env.cells scope.names []).lookup y = some c → s1.heap.IsCell c v → s.heap.IsCell c v ∧ H c = none := fun y c v e ⟨o, q1, q2⟩ =>
    let k := keep (inb e o q1)
    ⟨⟨o, k.1, q2⟩, k.2⟩
  have C2 : NdefX.CellsAt (cloFrom X.env.cells scope.names []) fr (js.map (NdefX.slotAt σ)) s.heap H := by
    refine ⟨C.len, fun y c e => ?_, C.inj, fun i y e => ?_⟩
    · obtain ⟨_, v, hv⟩ := C.all y c e
      exact ⟨(cel y c v e hv).2, v, (cel y c v e hv).1⟩
    · obtain ⟨c, h1, h2⟩ := C.has i y e
      refine ⟨c, h1, fun v hv => ?_⟩
      obtain ⟨u, h3, h4⟩ := h2 v hv
      exact ⟨u, h3, (cel y c _ h1 h4).1⟩
  have hc2 : H c' = some (LamX.CodeO c' (X.env.qual ++ "<lambda>")) := (hw.kp _ _ hc LamX.codeO_ne fun z => by
    obtain ⟨vs, e1⟩ := hst.there z
    rw [hc] at e1
    exact codeO_lst vs (Option.some.inj e1)).1
  have lim : s.heap.NoLimit := e0.mod.nolimit.keeps fun b o e => (e0.bs b o e).1
  have hvl : vs.length = ps.length := by rw [rv.len, hl]
  refine PySem.W.kla_callFunE hr.depth ho rfl S.co S.gen rfl (NdefX.codeO_at e0.hok hc2) ?_
  rw [hbind us (by rw [← rr.length]; exact hvl)]
  refine wpAny_pure (wpAny_newFunctionEnv S.nocell (fun ⟨n, _⟩ hy => S.par n (List.of_mem_zip hy).1) (fun h₁ hns hsb => ⟨lim.fresh _ hsb, ?_⟩) S.kind)
  show codeAny _ _ (.expr body (NdefX.envF (lamF X params scope c') f s.heap.objs.size)) _ _
  have kp : ∀ b o, s.heap.get? b = some o → h₁.get? b = some o := fun b o e => hsb.extBut b o (Nat.ne_of_lt (Heap.lt_size e)) (Heap.get?_push_of_some _ e)
  have J : Inv (lamX X base2 N params scope c' f A outer s H E) [] (NdefX.startF N vs (js.map (NdefX.slotAt σ))) H { s with heap := h₁, toks := s.toks + (ps.zip us).length } := NdefX.inv_startN (F := lamF X params scope c') S hr.hd e0 hvl rr C2 hns kp
  have body_ := hb base2 A outer s H E (wid.trans w2) (fun y c e => by
    obtain ⟨_, v, o, q1, q2⟩ := C.all y c e
    exact ⟨o, w2 _ _ (inb e o q1)⟩) (hr.deeper _)
  refine PySem.W.kla_codeExpr (wpAny_mono (body_.run [] _ _ H Q J ⟨m, slotsL N js ds ρ, st, repSl_lam rv (sl.wk hw), hst', hp.back⟩) (fun v s' hq => ?_) fun e s' hq => hq)
  obtain ⟨w', H', J', rv', q⟩ := hq
  exact ⟨w', H', J'.os, J'.bare, J'.base, J'.hok, rv', q⟩
end
end Ip
set_option Elab.async false
set_option linter.all false
set_option maxRecDepth 100000
set_option maxHeartbeats 4000000
namespace Ip
open PySem PySem.Spec PyProof.Rows L2
/-- what the making of a lambda asks -/
structure Maker (X : Cx) : Prop where
  tab : ∃ cc P, X.env.code = .ref cc ∧ LamX.TabB X.base X.mg cc P ∧ (P, X.env.qual ++ "<lambda>") ∈ lamT X.K ∧ ∀ p ∈ lamT X.K, p.1 = P → p.2 = X.env.qual ++ "<lambda>"
  nofr : (∃ pn xe pins σ H s, Inv (X.tr pn xe) pins σ H s) → ∀ y c, X.env.cells.lookup y = some c → c ∉ frs X.stack
theorem Inv.unpin {X : Cx} {pins : List (Addr × Obj)} {σ : L2.St} {H : Hp} {s : Shared} {p : Addr × Obj} (I : Inv X (p :: pins) σ H s) : Inv X pins σ H s :=
  I.pins_of fun q hq => I.pin q (List.mem_append_right _ (List.mem_cons_of_mem _ hq))
/-- a new function's object is pinned -/
theorem Inv.pinned {X : Cx} {pins : List (Addr × Obj)} {σ : L2.St} {H : Hp} {s : Shared} (I : Inv X pins σ H s) {f : Addr} {o : Obj} (h1 : s.heap.get? f = some o) (h2 : H f = none) (h3 : f ∉ frs X.stack) (hd : ∃ fd, o.data = .func fd) : Inv X ((f, o) :: pins) σ H s := by
  obtain ⟨fd, hd⟩ := hd
  have nl : f ≠ X.env.locals := fun z => by
    obtain ⟨m, ⟨o', es, ep, ho', hd', _⟩, _⟩ := I.loc
    rw [← z, h1] at ho'
    cases ho'
    rw [hd] at hd'
    cases hd'
  refine I.pins_of fun p hp => ?_
  rcases List.mem_cons.mp hp with rfl | hp
  · refine ⟨h1, h2, nl, fun z => h3 ?_, fun v z => by rw [hd] at z; cases z⟩
    rcases I.ok.stk with e | ⟨e, hf⟩
    · rw [e]; exact z
    · rw [e]
      unfold frs at z ⊢
      rw [List.filterMap_cons, hf]
      exact List.mem_cons_of_mem _ z
  · exact I.pin p (List.mem_append_right _ hp)
/-- x(lambda ..: body, es), x a def that calls what it gets -/
def evLam (F : Fn → Fn) (fb : Ev) (N : List Str) (js : List Nat) (n : Nat) (ga : Ea) : Ev := fun ρ st => (ga ρ st).bind fun ds st1 => if ds.length = n then F (fun es st => fb (slotsL N js es ρ) st) ds st1 else .bad
/-- x(g, es), g a def of the module -/
def evHo (F : Fn → Fn) (f : Fn) (n : Nat) (ga : Ea) : Ev := fun ρ st => (ga ρ st).bind fun ds st1 => if ds.length = n then F f ds st1 else .bad
section
variable {X : Cx} {W : WX} {x : Str} {es : List Expr} {p pos : Pos}
theorem e_lamcall {F : Fn → Fn} {n cl lvd : Nat} {ps fr N : List Str} {js : List Nat} {params : Arguments} {body : Expr} {scope : Scope} {fb : Ev} {ga : Ea} {lpos : Pos}
    (HF : HasH X.prog X.w X.K X.mg X.base x n ps.length (cl + 1) lvd F) (hr : Room lvd X.A) (hg : Gl X x) (hdb : (x == ("__debug__" : Str)) = false) (tk : L2N.Takes X W) (ha : PA X es (tA X.K W ga)) (hpl : ∀ env, (backTo pos (starEach es env)).any (·.1) = false)
    (M : Maker X) (hdef : defaultsOf params X.env = ([], [])) (hfree : ∀ y ∈ scope.names, y.2 = .free → X.env.scope.names.lookup y.1 = some .cell ∨ X.env.scope.names.lookup y.1 = some .free) (S : NdefX.NScope N ps fr scope) (hfr : ∀ y ∈ fr, (y, NameKind.free) ∈ scope.names) (hjs : js.map (fun j => X.N[j]?) = fr.map some)
    (hbind : ∀ (q : Str) (cl : List (Str × Addr)) (pm cv ctv : Value) (us : List Value), us.length = ps.length → bindArgs (PySem.W.kla_fn "<lambda>" q params body scope cl pm cv ctv) ⟨us, []⟩ = pure (ps.zip us))
    (hb : ∀ (c' f : Addr) (base' : Heap) (A : Around) (outer : List Env) (s : Shared) (H : Hp) (E : XK), Wider X.base base' → (∀ y c, (cloFrom X.env.cells scope.names []).lookup y = some c → ∃ o, base'.get? c = some o) → Room cl (A.deeper (NdefX.envF (lamF X params scope c') f s.heap.objs.size)) →
      PE (lamX X base' N params scope c' f A outer s H E) body (tE X.K (fun c d _ H' => E c d H') fb)) :
    PE X (.Call (.Name x p) (.Lambda params body scope lpos :: es) [] pos) (tE X.K W (evLam F fb N js n ga)) := by
  obtain ⟨g, hm, hk, G⟩ := HF
  refine ⟨fun pins s σ H Q I hw => ?_⟩
  obtain ⟨m, ρ, st, hsl, hst, hp⟩ := hw
  obtain ⟨cc, T, hcode, TB, hmT, hu⟩ := M.tab
  have Ce : Cells X scope := ⟨fun y hy e => (hfree y hy e).elim (fun z => I.ok.has _ (.inl z)) fun z => I.ok.has _ (.inr z), M.nofr ⟨X.pn, X.xe, _, _, _, _, I⟩⟩
  refine wpAny_Call_Name_kw (ld_glob I hg hm ?_ hdb)
  refine PySem.W.callWith_K (h₀ := X.base) I.ok.mod.kin hk ?_ (by rfl) (hpl _)
  show wpAny _ _ (spliced ((false, eval (.Lambda params body scope lpos) X.env) :: backTo pos (starEach es X.env))) _ _ s
  refine Calls.spliced_cons (LamX.lam_make2 I TB hcode hmT hu hst.tab hdef Ce.free fun f c' pm ctv H1 s1 I1 eN T1 hf hfn hfr' hco => ?_)
  obtain ⟨x1, hst1⟩ := lam_ext hst eN T1
  have sl1 := hsl.mono x1
  have J1 := Inv.pinned I1 hf hfn hfr' ⟨_, rfl⟩
  refine seqA ha J1 sl1 hst1 (Post.ext x1 hp) fun us s2 vs H2 m2 ds st2 J2 r2 x2 sl2 hst2 rd p2 => ?_
  obtain ⟨hf2, hfn2, _, _, _⟩ := J2.pin _ (List.mem_append.mpr (.inr List.mem_cons_self))
  have hco2 : H2 c' = some (LamX.CodeO c' (X.env.qual ++ "<lambda>")) := x2.kp _ _ hco LamX.codeO_ne fun z => by
    obtain ⟨vs, e1⟩ := hst1.there (.inl z)
    rw [hco] at e1
    exact codeO_lst vs (Option.some.inj e1)
  have I2 := Inv.unpin J2
  obtain ⟨base', wid, e0, cf, cal⟩ := lam_cal (lv := cl) (fb := fb) I2 sl2 hst2 hf2 hfn2 hfr' hco2 Ce S (NdefX.Caps.made I2.ok hfree hfr hjs) (hbind _ _ _ _ _) (hb c' f)
  by_cases hn : ds.length = n
  · rw [if_pos hn] at p2
    refine ⟨I2.kIn, ?_⟩
    show wpAny _ _ (call (.ref g) (.ref f :: us)) _ _ _
    refine wpAny_call (codeAny_mono (G base' wid X.A X.stack s2 H2 m2 _ _ (.ref f) (.ref f) us vs ds st2 Q (fun c d H' => W c d σ H') hr e0 cf cal hst2 (by simp only [Rep]; exact ⟨trivial, .refl⟩) rfl rd r2 hn p2.wish) fun r s' hq => ?_)
    cases r with
    | error e => exact L2N.passAt tk σ pins H2 s2 e s' I2 hq
    | ok fl =>
      cases fl with
      | ret u => exact I2.after hq
      | next => exact False.elim hq
      | brk => exact False.elim hq
      | cont => exact False.elim hq
  · rw [if_neg hn] at p2; exact p2.elim
theorem e_hocall {F : Fn → Fn} {n cn cl lvd lvg : Nat} {g : Str} {f : Fn} {ga : Ea} {gp : Pos} (HF : HasH X.prog X.w X.K X.mg X.base x n cn cl lvd F) (hr : Room lvd X.A) (hg : Gl X x) (hdb : (x == ("__debug__" : Str)) = false) (tk : L2N.Takes X W) (ha : PA X es (tA X.K W ga)) (hpl : ∀ env, (backTo pos (starEach es env)).any (·.1) = false)
    (Hg : HasW X.prog X.w X.K X.mg X.base g cn lvg f) (hl : lvg ≤ cl) (hgg : Gl X g) (hmg : X.mg g = some (.ref (He.ga X.K g))) (hdg : (g == ("__debug__" : Str)) = false) :
    PE X (.Call (.Name x p) (.Name g gp :: es) [] pos) (tE X.K W (evHo F f n ga)) := by
  obtain ⟨a, hm, hk, G⟩ := HF
  obtain ⟨cf, cal⟩ := CalAt.of_has (base := X.base) Hg hmg
  refine ⟨fun pins s σ H Q I hw => ?_⟩
  obtain ⟨m, ρ, st, hsl, hst, hp⟩ := hw
  refine wpAny_Call_Name_kw (ld_glob I hg hm ?_ hdb)
  refine PySem.W.callWith_K (h₀ := X.base) I.ok.mod.kin hk ?_ (by rfl) (hpl _)
  show wpAny _ _ (spliced ((false, eval (.Name g gp) X.env) :: backTo pos (starEach es X.env))) _ _ s
  refine Calls.spliced_cons (ld_glob I hgg hmg ?_ hdg)
  refine seqA ha I hsl hst hp fun us s2 vs H2 m2 ds st2 I2 r2 x2 sl2 hst2 rd p2 => ?_
  by_cases hn : ds.length = n
  · rw [if_pos hn] at p2
    refine ⟨I2.kIn, ?_⟩
    show wpAny _ _ (call (.ref a) (.ref (He.ga X.K g) :: us)) _ _ _
    refine wpAny_call (codeAny_mono (G X.base .rfl' X.A X.stack s2 H2 m2 _ _ (.ref (He.ga X.K g)) (.ref (He.ga X.K g)) us vs ds st2 Q (fun c d H' => W c d σ H') hr I2.env0 cf (cal.mono hl) hst2 (by simp only [Rep]) rfl rd r2 hn p2.wish) fun r s' hq => ?_)
    cases r with
    | error e => exact L2N.passAt tk σ pins H2 s2 e s' I2 hq
    | ok fl =>
      cases fl with
      | ret u => exact I2.after hq
      | next => exact False.elim hq
      | brk => exact False.elim hq
      | cont => exact False.elim hq
  · rw [if_neg hn] at p2; exact p2.elim

/-! ### x(es), x a local name -/
/-- what the data d is run as -/
noncomputable def calOf (cs : List Cal) (fns : List (Str × Nat × Nat × Fn)) (d : D) : Option (Nat × Fn) :=
  open Classical in match cs with
  | [] => match d with
    | .glo y => (fns.find? fun q => q.1 == y).map fun q => (q.2.1, q.2.2.2)
    | _ => none
  | c :: cs => if c.d = d then some (c.n, c.f) else calOf cs fns d
noncomputable def evCallV (i : Nat) (cs : List Cal) (fns : List (Str × Nat × Nat × Fn)) (ga : Ea) : Ev := fun ρ st => (evVar i ρ st).bind fun d st1 => match calOf cs fns d with
  | some q => (ga ρ st1).bind fun ds st2 => if ds.length = q.1 then q.2 ds st2 else .bad
  | none => .bad
theorem calOf_at {cs : List Cal} {fns : List (Str × Nat × Nat × Fn)} {d : D} {n : Nat} {f : Fn} (h : calOf cs fns d = some (n, f)) (hc : ∀ c ∈ cs, CalF X.K X.base c.d ∧ CalAt X.prog X.w X.K X.mg X.base c ∧ Room c.lv X.A)
    (hf : ∀ q ∈ fns, HasW X.prog X.w X.K X.mg X.base q.1 q.2.1 q.2.2.1 q.2.2.2 ∧ X.mg q.1 = some (.ref (He.ga X.K q.1)) ∧ Room q.2.2.1 X.A) : ∃ lv, CalF X.K X.base d ∧ CalAt X.prog X.w X.K X.mg X.base ⟨d, n, lv, f⟩ ∧ Room lv X.A := by
  induction cs with
  | nil =>
    unfold calOf at h
    cases d with
    | glo y =>
      obtain ⟨q, h1, h2⟩ := Option.map_eq_some_iff.mp h
      have h3 := List.find?_some h1
      have h4 := List.mem_of_find?_eq_some h1
      obtain rfl : q.1 = y := eq_of_beq h3
      cases h2
      obtain ⟨k1, k2, k3⟩ := hf q h4
      obtain ⟨cf, cal⟩ := CalAt.of_has (base := X.base) k1 k2
      exact ⟨_, cf, cal, k3⟩
    | _ => cases h
  | cons c cs ih =>
    unfold calOf at h
    split at h
    · rename_i e
      subst e
      cases h
      obtain ⟨k1, k2, k3⟩ := hc c List.mem_cons_self
      exact ⟨c.lv, k1, k2, k3⟩
    · exact ih h fun c' hc' => hc c' (List.mem_cons_of_mem _ hc')
theorem callV_run {pins : List (Addr × Obj)} {σ : L2.St} {H : Hp} {s : Shared} {m : MX} {st : Sto} {d : D} {n lv : Nat} {f : Fn} {u : Value} {v : V} {us : List Value} {vs : List V} {ds : List D} {Q : VK} (tk : L2N.Takes X W) (I : Inv X pins σ H s) (ca : CalAt X.prog X.w X.K X.mg X.base ⟨d, n, lv, f⟩) (hr : Room lv X.A) (hst : RepSt X.K m H st) (rd : Rep X.K m H d v) (ru : RelV v u)
    (rv : Reps X.K m H ds vs) (rr : Vals vs us) (hp : Post X.K W σ m H (if ds.length = n then f ds st else .bad) (PQ X.K Q)) : wpAny (model X.prog X.w) X.A (call u us) (EP X pins σ Q) X.xe s := by
  by_cases hn : ds.length = n
  · rw [if_pos hn] at hp
    refine wpAny_call (codeAny_mono (ca X.base .rfl' X.A X.stack s H m u v us vs ds st Q (fun c d H' => W c d σ H') hr I.env0 hst rd ru rv rr hn hp.wish) fun r s' hq => ?_)
    cases r with
    | error e => exact L2N.passAt tk σ pins H s e s' I hq
    | ok fl =>
      cases fl with
      | ret u => exact I.after hq
      | next => exact False.elim hq
      | brk => exact False.elim hq
      | cont => exact False.elim hq
  · rw [if_neg hn] at hp; exact hp.elim
theorem e_callV {i : Nat} {cs : List Cal} {fns : List (Str × Nat × Nat × Fn)} {ga : Ea} {e : Expr} (hN : X.N[i]? = some x) (hv : Vis X.env.scope x) (hd : (x == ("__debug__" : Str)) = false) (hcd : (x == ("__classdict__" : Str)) = false) (tk : L2N.Takes X W)
    (hc : ∀ c ∈ cs, CalF X.K X.base c.d ∧ CalAt X.prog X.w X.K X.mg X.base c ∧ Room c.lv X.A) (hf : ∀ q ∈ fns, HasW X.prog X.w X.K X.mg X.base q.1 q.2.1 q.2.2.1 q.2.2.2 ∧ X.mg q.1 = some (.ref (He.ga X.K q.1)) ∧ Room q.2.2.1 X.A)
    (ha : PA X (e :: es) (tA X.K W ga)) (he : starEach (e :: es) X.env = (false, eval e X.env) :: starEach es X.env) (hpl : (backTo pos (starEach es X.env)).any (·.1) = false) : PE X (.Call (.Name x p) (e :: es) [] pos) (tE X.K W (evCallV i cs fns ga)) := by
  refine ⟨fun pins s σ H Q I hw => ?_⟩
  obtain ⟨m, ρ, st, hsl, hst, hp⟩ := hw
  refine wpAny_Call_Name_kw ?_
  refine seqE (e_var (pos := p) hN hv hd hcd) I hsl hst hp fun u s1 v H1 m1 d st1 I1 r1 x1 sl1 y1 rv1 p1 => ?_
  cases ec : calOf cs fns d with
  | none => rw [ec] at p1; exact p1.elim
  | some q =>
    rw [ec] at p1
    obtain ⟨lv, cf, cal, hr⟩ := calOf_at (X := X) (n := q.1) (f := q.2) ec hc hf
    cases d with
    | clo a m0 H0 =>
      have ra := rv1
      simp only [Rep] at ra
      obtain rfl := ra.1
      cases r1
      have at_ : ∀ {h : Heap}, (∀ b o, X.base.get? b = some o → h.get? b = some o) → PySem.W.FnAt a h := fun k => let ⟨oc, od, fd, sl, z⟩ := cf; ⟨oc, od, fd, sl, k _ _ z⟩
      refine PySem.W.callWith_F (first := []) (at_ I1.bk) (seqA ha I1 sl1 y1 p1 fun us s2 vs H2 m2 ds st2 I2 r2 x2 sl2 hst2 rd p2 => ⟨at_ I2.bk, ?_⟩) he hpl
      exact callV_run tk I2 cal hr hst2 (rv1.mono x2) rfl rd r2 p2
    | glo y =>
      have ra := rv1
      simp only [Rep] at ra
      subst ra
      cases r1
      refine PySem.W.callWith_K (h₀ := X.base) I1.ok.mod.kin cf (seqA ha I1 sl1 y1 p1 fun us s2 vs H2 m2 ds st2 I2 r2 x2 sl2 hst2 rd p2 => ⟨I2.kIn, ?_⟩) he hpl
      exact callV_run tk I2 cal hr hst2 (rv1.mono x2) rfl rd r2 p2
    | _ => exact cf.elim
theorem e_callV0 {i : Nat} {cs : List Cal} {fns : List (Str × Nat × Nat × Fn)} (hN : X.N[i]? = some x) (hv : Vis X.env.scope x) (hd : (x == ("__debug__" : Str)) = false) (hcd : (x == ("__classdict__" : Str)) = false) (tk : L2N.Takes X W)
    (hc : ∀ c ∈ cs, CalF X.K X.base c.d ∧ CalAt X.prog X.w X.K X.mg X.base c ∧ Room c.lv X.A) (hf : ∀ q ∈ fns, HasW X.prog X.w X.K X.mg X.base q.1 q.2.1 q.2.2.1 q.2.2.2 ∧ X.mg q.1 = some (.ref (He.ga X.K q.1)) ∧ Room q.2.2.1 X.A) :
    PE X (.Call (.Name x p) [] [] pos) (tE X.K W (evCallV i cs fns eaNil)) := by
  refine ⟨fun pins s σ H Q I hw => ?_⟩
  obtain ⟨m, ρ, st, hsl, hst, hp⟩ := hw
  refine wpAny_Call_Name_kw ?_
  refine seqE (e_var (pos := p) hN hv hd hcd) I hsl hst hp fun u s1 v H1 m1 d st1 I1 r1 x1 sl1 y1 rv1 p1 => ?_
  cases ec : calOf cs fns d with
  | none => rw [ec] at p1; exact p1.elim
  | some q =>
    rw [ec] at p1
    have p1 : Post X.K W σ m1 H1 (if ([] : List D).length = q.1 then q.2 [] st1 else .bad) (PQ X.K Q) := p1
    obtain ⟨lv, cf, cal, hr⟩ := calOf_at (X := X) (n := q.1) (f := q.2) ec hc hf
    cases d with
    | clo a m0 H0 =>
      have ra := rv1
      simp only [Rep] at ra
      obtain rfl := ra.1
      cases r1
      obtain ⟨oc, od, fd, sl, z⟩ := cf
      exact PySem.W.callWith_F0 (first := []) ⟨oc, od, fd, sl, I1.bk _ _ z⟩ (callV_run tk I1 cal hr y1 rv1 rfl .nil .nil p1)
    | glo y =>
      have ra := rv1
      simp only [Rep] at ra
      subst ra
      cases r1
      exact PySem.W.callWith_K0 (first := []) I1.kIn cf (callV_run tk I1 cal hr y1 rv1 rfl .nil .nil p1)
    | _ => exact cf.elim
/-- a name of the module that holds a def -/
theorem e_glo (hg : Gl X x) (hm : X.mg x = some (.ref (He.ga X.K x))) (hd : (x == ("__debug__" : Str)) = false) : PE X (.Name x pos) (tE X.K W (evC (.glo x))) :=
  e_const (pe_glob hg hm (v := .ref _) rfl hd) fun _ _ => by simp only [Rep]
end
end Ip
set_option Elab.async false
set_option linter.all false
set_option maxRecDepth 100000
set_option maxHeartbeats 4000000
namespace Ip
open PySem PySem.Spec PyProof.Rows L2 HotX L2H

/-! ### while an exception is handled: a walk's end, a tuple taken apart -/
section
variable {prog : Program} {w : World} {A : Around} {E : Value → Shared → Prop} {s : Shared} {x1 : Addr}
theorem hot_held {h h' : Heap} (t : HotAt A x1 h) (k : ∀ b o, b = x1 → h.get? b = some o → h'.get? b = some o) : HotAt A x1 h' := by
  obtain ⟨a, o, vs, e, d, c⟩ := t
  exact ⟨a, o, vs, k _ _ rfl e, d, c⟩
/-- StopIteration, raised there -/
theorem stop_hot {α : Type} {Q : α → Shared → Prop} (hot : HotAt A x1 s.heap) (h : ∀ h' e, (∀ b o, s.heap.get? b = some o → h'.get? b = some o) → (∃ o, h'.get? e = some o ∧ o.cls = .type "StopIteration") → E (.ref e) { s with heap := h' }) :
    wpAny (model prog w) A (newExc (.type "StopIteration") [] >>= fun e => (raiseNew e : Sem α)) Q E s := by
  refine wpAny_bind ?_; simp only [newExc, newTuple]
  refine wpAny_bind (wpAny_newObj_type ?_ (by size_fits)); refine wpAny_bind (m := firstArgMember _ _) (wpAny_of_eq (a := Value.none) (by first | rfl | (simp only [firstArgMember]; rfl)) ?_)
  refine wpAny_newObj_type ?_ (by size_fits); obtain ⟨a, o1, vs1, e1, d1, c1⟩ := hot
  refine raiseNew_hot ⟨a, o1, vs1, Heap.get?_push_of_some _ (Heap.get?_push_of_some _ e1), d1, c1⟩ (Nat.ne_of_lt (Heap.lt_size (Heap.get?_push_of_some _ e1))) (Heap.get?_push_size _ rfl) rfl (by first | (simp; done) | (simp; omega) | (simp only [Array.size_append]; simp; omega)) (h _ _ (fun b o e => ?_) ⟨_, Heap.get?_update_self _ (Heap.get?_push_size _ rfl) rfl, rfl⟩)
  rw [Heap.get?_update_other _ _ (Nat.ne_of_gt (Heap.lt_size (Heap.get?_push_of_some _ e)))]; exact Heap.get?_push_of_some _ (Heap.get?_push_of_some _ e)
/-- a list's walk is over -/
theorem list_over {it l : Addr} {i : Nat} {items : Array Value} {Q : Value → Shared → Prop} (hot : HotAt A x1 s.heap) (nx : x1 ≠ it) (hit : s.heap.IsListIter it l i) (hl : s.heap.IsList l items) (hx : items[i]? = none)
    (hE : ∀ h' e, Heap.ExtBut it s.heap h' → (∃ o, h'.get? e = some o ∧ o.cls = .type "StopIteration") → E (.ref e) { s with heap := h' }) : wpAny (model prog w) A (Builtin.SmallTypes.nextOf (.ref it)) Q E s := by
  obtain ⟨o, ho, hc, hd⟩ := id hit; obtain ⟨ol, hol, _, nl, hdl⟩ := hl; unfold Builtin.SmallTypes.nextOf
  refine wpAny_bind (wpAny_callSpecial?_slot (name := Str.ofString "__next__") hit.typeIs slot_listiter_next (wpAny_call_entry slot_listiter_next hit.typeIs entry_listiter_next ?_ (args_listiter_next _)))
  (show wpAny _ _ (field (.ref it) 0 >>= _) _ _ s); refine wpAny_bind (wpAny_field ho hd (x := .ref l) rfl ?_)
  (show wpAny _ _ (if (Value.ref l == Value.none) = true then _ else _) _ _ s); rw [if_neg (fun z : (Value.ref l == Value.none) = true => Bool.false_ne_true z)]
  (show wpAny _ _ (field (.ref it) 1 >>= _) _ _ s); refine wpAny_bind (wpAny_field ho hd (x := .int i 0) rfl ?_)
  (show wpAny _ _ (seqItems? (.ref l) >>= _) _ _ s); refine wpAny_bind (wpAny_seqItems hol hdl ?_); simp only [Int.toNat_natCast, hx]
  refine wpAny_bind (wpAny_rule (wpAny_bind (wpAny_setField ho hd (by simp) ?_)))
  obtain ⟨hA, o1, vs1, e1, d1, c1⟩ := hot
  have e2 : (s.heap.update it (Obj.mapFields (·.setIfInBounds 0 Value.none))).get? x1 = some o1 := (Heap.get?_update_other _ _ (Ne.symm nx)).trans e1
  exact stop_hot (s := { s with heap := s.heap.update it (Obj.mapFields (·.setIfInBounds 0 Value.none)) }) ⟨hA, o1, vs1, e2, d1, c1⟩ fun h' e k he => hE h' e (fun b o hb q => k b o ((Heap.SameBut.update ..).extBut b o hb q)) he
/-- a tuple's walk is over -/
theorem tuple_over {it t : Addr} {i : Nat} {items : Array Value} {Q : Option Value → Shared → Prop} (hot : HotAt A x1 s.heap) (nx : x1 ≠ it) (hit : IsTupIter s.heap it t i) (ht : IsTup s.heap t items) (hx : items[i]? = none)
    (hQ : ∀ h', Heap.ExtBut it s.heap h' → Q none { s with heap := h' }) : wpAny (model prog w) A (pyNext (.ref it)) Q E s := by
  obtain ⟨o, ho, hc, hd⟩ := id hit; obtain ⟨ol, hol, _, nl, hdl⟩ := ht; unfold pyNext
  refine wpAny_bind (wpAny_attempt (wpAny_callSpecial?_slot (name := Str.ofString "__next__") hit.typeIs slot_tupleiter_next (wpAny_call_entry slot_tupleiter_next hit.typeIs entry_tupleiter_next ?_ (args_tupleiter_next _))))
  (show wpAny _ _ (field (.ref it) 0 >>= _) _ _ s); refine wpAny_bind (wpAny_field ho hd (x := .ref t) rfl ?_)
  (show wpAny _ _ (if (Value.ref t == Value.none) = true then _ else _) _ _ s); rw [if_neg (fun z : (Value.ref t == Value.none) = true => Bool.false_ne_true z)]
  (show wpAny _ _ (field (.ref it) 1 >>= _) _ _ s); refine wpAny_bind (wpAny_field ho hd (x := .int i 0) rfl ?_)
  (show wpAny _ _ (seqItems? (.ref t) >>= _) _ _ s); refine wpAny_bind (wpAny_seqItems hol hdl ?_); simp only [Int.toNat_natCast, hx]
  refine wpAny_bind (wpAny_rule (wpAny_bind (wpAny_setField ho hd (by simp) ?_)))
  obtain ⟨hA, o1, vs1, e1, d1, c1⟩ := hot
  have e2 : (s.heap.update it (Obj.mapFields (·.setIfInBounds 0 Value.none))).get? x1 = some o1 := (Heap.get?_update_other _ _ (Ne.symm nx)).trans e1
  refine stop_hot (s := { s with heap := s.heap.update it (Obj.mapFields (·.setIfInBounds 0 Value.none)) }) ⟨hA, o1, vs1, e2, d1, c1⟩ fun h' e k he => ?_
  obtain ⟨oe, q1, q2⟩ := he
  exact wpAny_bind (wpAny_isInstance (T := "StopIteration") (b := true) ⟨oe, q1, q2⟩ isSubtype_stop (wpAny_pure (hQ _ fun b o hb q => k b o ((Heap.SameBut.update ..).extBut b o hb q))))
/-- a tuple is taken apart -/
theorem unpack_hot {t : Addr} {items : Array Value} {ts : List (Bool × (Value → Sem Unit))} {Q : Unit → Shared → Prop} (hot : HotAt A x1 s.heap) (ht : IsTup s.heap t items) (hn : ts.length = items.size) (hs : ts.findIdx? (·.1) = none)
    (h : ∀ h', Heap.ExtBut s.heap.objs.size s.heap h' → wpAny (model prog w) A (assignInOrder (ts.map (·.2)) items.toList) Q E { s with heap := h' }) : wpAny (model prog w) A (unpack (.ref t) ts) Q E s := by
  have ne : t ≠ s.heap.objs.size := by
    obtain ⟨o, ho, _⟩ := ht
    exact Nat.ne_of_lt (Heap.lt_size ho)
  have nx : x1 ≠ s.heap.objs.size := by
    obtain ⟨_, o, _, ho, _⟩ := hot
    exact Nat.ne_of_lt (Heap.lt_size ho)
  unfold unpack; rw [hn, hs]
  refine wpAny_bind (wpAny_holding ?_)
  unfold unpackItems; refine wpAny_bind ?_; unfold notIterableAtAll
  refine wpAny_bind (wpAny_specialOf ht.typeIs slot_tuple_iter.lookup (wpAny_pure ?_)); simp only [Bool.false_eq_true, if_false]
  refine wpAny_bind (wpAny_holding (iter_tuple ht (wpAny_bind (wpAny_holding (draw_tuple ne items.size 0 _ _ ⟨_, Heap.get?_push_size _ rfl, rfl, rfl⟩ (ht.push _) (by omega) fun h₁ hit₁ sb => ?_)))))
  have all : List.take items.size (List.drop 0 items.toList) = items.toList := by rw [List.drop_zero]; exact List.take_of_length_le (by simp)
  rw [all, if_neg (by simp)]
  have hot1 : HotAt A x1 h₁ := hot_held hot fun b o e q => sb.extBut b o (e ▸ nx) (Heap.get?_push_of_some _ q)
  refine wpAny_bind (wpAny_holding (tuple_over hot1 nx hit₁ ((ht.push _).extBut sb.extBut ne) (by simp) fun h₂ k₂ => ?_)); simp only [Option.isSome_none, Bool.false_eq_true, if_false]
  exact wpAny_pure (h h₂ fun b o hb e => k₂ b o hb (sb.extBut b o hb (Heap.get?_push_of_some _ e)))
/-- zip of two lists is over with the first -/
theorem zip_over {z TI TO i1 i2 l1 l2 : Addr} {k1 : Nat} {xs : Array Value} {a b : Value} {Q : Option Value → Shared → Prop} (hot : HotAt A x1 s.heap) (nz : x1 ≠ z) (n1 : x1 ≠ i1) (D : ZipApart z TI TO i1 i2 l1 l2)
    (hz : IsZip s.heap z TI TO .none) (hTI : IsPair s.heap TI (.ref i1) (.ref i2)) (hTO : IsPair s.heap TO a b) (h1 : s.heap.IsListIter i1 l1 k1) (hl1 : s.heap.IsList l1 xs) (hx : xs[k1]? = none)
    (hQ : ∀ h', (∀ c o, c ≠ z → c ≠ i1 → s.heap.get? c = some o → h'.get? c = some o) → Q none { s with heap := h' }) : wpAny (model prog w) A (pyNext (.ref z)) Q E s := by
  have hT : s.TypeIs (.ref z) "zip" := ⟨_, hz, rfl⟩
  unfold pyNext
  refine wpAny_bind (wpAny_attempt (wpAny_callSpecial?_slot (name := Str.ofString "__next__") hT F.slot_zip_next (wpAny_call_entry F.slot_zip_next hT F.entry_zip_next ?_ (F.args_zip_next_1 _))))
  (show wpAny _ _ (field (.ref z) 2 >>= _) _ _ _); refine wpAny_bind (wpAny_field hz rfl (x := .bool false) rfl ?_)
  (show wpAny _ _ (field (.ref z) 3 >>= _) _ _ _); refine wpAny_bind (wpAny_field hz rfl (x := .ref TI) rfl (wpAny_bind (wpAny_seqItems hTI rfl ?_)))
  (show wpAny _ _ (Builtin.SmallTypes.ownedTupleIsFree (.ref z) >>= _) _ _ _); refine wpAny_bind ?_; unfold Builtin.SmallTypes.ownedTupleIsFree
  refine wpAny_bind (wpAny_field hz rfl (x := .none) rfl (wpAny_pure ?_)); simp only [if_true]
  refine wpAny_bind (wpAny_rule (wpAny_bind (wpAny_field hz rfl (x := .ref TO) rfl (wpAny_bind (wpAny_setField_rec hz (by simp) fun h₁ hz₁ hs₁ => ?_)))))
  replace hz₁ : IsZip h₁ z TI TO .ellipsis := hz₁
  refine wpAny_bind ?_; simp only [List.zipIdx_cons, List.zipIdx_nil, List.forIn_cons, List.forIn_nil]
  refine wpAny_bind (wpAny_bind (wpAny_onRaise ?_)); (show wpAny _ _ (Builtin.SmallTypes.nextOf (.ref i1) >>= _) _ _ _)
  have hot1 : HotAt A x1 h₁ := hot_held hot fun c o e q => hs₁.extBut c o (e ▸ nz) q
  refine wpAny_bind (list_over (A := A.in1) (s := { s with heap := h₁ }) hot1 n1 (h1.extBut hs₁.extBut D.i1z) (hl1.extBut hs₁.extBut D.l1z) hx fun h₂ e hs₂ he => ?_)
  obtain ⟨oe, hoe, hce⟩ := he
  have hz₂ : IsZip h₂ z TI TO .ellipsis := hs₂ _ _ D.i1z.symm hz₁
  have hez : e ≠ z := fun x => by subst x; rw [hz₂] at hoe; cases hoe; simp at hce
  refine wpAny_setField_rec hz₂ (by simp) fun h₃ _ hs₃ => ?_
  refine wpAny_bind (wpAny_isInstance (T := "StopIteration") (b := true) ⟨oe, hs₃.extBut _ _ hez hoe, hce⟩ isSubtype_stop (wpAny_pure (hQ _ fun c o c1 c3 x => hs₃.extBut _ _ c1 (hs₂ _ _ c3 (hs₁.extBut _ _ c1 x)))))
end
/-! ### the rules -/
theorem hot_at {X : Cx} {pins : List (Addr × Obj)} {σ : L2.St} {H : Hp} {s : Shared} (c : HotC X) (I : Inv X pins σ H s) : ∃ p ∈ X.pn, HotAt X.A p.1 s.heap := by
  obtain ⟨p, ⟨hh, v1, e1, c1⟩, hp⟩ := c
  exact ⟨p, hp, hh, p.2, v1, (I.pin p (List.mem_append_left _ hp)).1, e1, c1⟩
/-- pairs of two lists' items, till the first one is over -/
def ItzA (K : PySem.W.Frag) (a b : Addr) : It := ⟨(Itz K a b).go, (Itz K a b).yld, fun i H => ∃ xs, SqL K H a xs ∧ xs.length ≤ i⟩
theorem goes_zip {P : Program} {w : World} {K : PySem.W.Frag} {elts : List Expr} {kk : Nat} {tpos : Pos} {a b z TI TO i1 i2 : Addr} (D : ZipApart z TI TO i1 i2 a b) :
    Goes HotC P w K (.Tuple elts kk tpos) (ItzA K a b) [z, TI, TO, i1, i2] z (fun i h => IsZip h z TI TO .none ∧ IsPair h TI (.ref i1) (.ref i2) ∧ (∃ x y, IsPair h TO x y) ∧ h.IsListIter i1 a i ∧ h.IsListIter i2 b i) where
  thing := (turn_zip (P := P) (w := w) (K := K) (elts := elts) (kk := kk) (tpos := tpos) D).obj
  stays := (turn_zip (P := P) (w := w) (K := K) (elts := elts) (kk := kk) (tpos := tpos) D).keep
  step := by
    intro X hP hw hK _ i pins s σ H E I hf st hg
    subst hP hw hK
    obtain ⟨hz, hTI, ⟨x0, y0, hTO⟩, h1, h2⟩ := st
    obtain ⟨xs, ys, x, y, qx, qy, ex, ey⟩ := hg
    obtain ⟨ix, rx, px, _⟩ := I.list qx
    obtain ⟨iy, ry, py, _⟩ := I.list qy
    obtain ⟨u, eu, ru⟩ := rx.get ex
    obtain ⟨v, ev, rv⟩ := ry.get ey
    have lz : z < s.heap.objs.size := Heap.lt_size hz
    refine wpAny_pyNext_zip_item D hz hTI hTO h1 h2 px.isList py.isList (x := u) (y := v) (by simpa using eu) (by simpa using ev) fun h' z' TO' h1' h2' hT hsz hk => ⟨_, rfl, wpAny_letOwnedTupleGo_zip (s := { s with heap := h' }) z' fun h'' z'' sb => ?_⟩
    have hT2 : h''.get? s.heap.objs.size = some { cls := .type "tuple", data := .seq #[u, v] } := (sb.2 _ (Nat.ne_of_gt lz)).trans hT
    have kept : ∀ c o, c ∉ [z, TI, TO, i1, i2] → s.heap.get? c = some o → h''.get? c = some o := fun c o hc q => by
      simp only [List.mem_cons, List.not_mem_nil, or_false, not_or] at hc
      exact (sb.2 c hc.1).trans (hk c o hc.1 hc.2.2.1 hc.2.2.2.1 hc.2.2.2.2 q)
    have I1 : Inv X pins σ (upd H s.heap.objs.size (.tup [x, y])) { s with heap := h'' } := I.turnedNew (t' := s.toks) (ch := [z, TI, TO, i1, i2]) (fun c o hb q => kept c o hb q) hf (Nat.le_refl _) ⟨by show 2 ≤ sizeLine; decide, [u, v], .cons ru (.cons rv .nil), ⟨_, hT2, rfl, _, rfl⟩⟩
    refine ⟨.ref s.heap.objs.size, _, I1, rfl, ⟨_, x, y, rfl, I.hok.fresh (Nat.le_refl _), rfl, fun l hl => (I.list_inj hl qx) ▸ ex, fun l hl => (I.list_inj hl qy) ▸ ey⟩, ⟨z'', (sb.2 _ D.TIz).trans (hk _ _ D.TIz D.TITO D.TIi1 D.TIi2 hTI), ⟨u, v, (sb.2 _ D.TOz).trans TO'⟩, h1'.at fun o q => (sb.2 _ D.i1z).trans q, h2'.at fun o q => (sb.2 _ D.i2z).trans q⟩, fun c hc => ?_⟩
    have hlt : c < s.heap.objs.size := by
      obtain ⟨o, e, _⟩ := (turn_zip (P := X.prog) (w := X.w) (K := X.K) (elts := elts) (kk := kk) (tpos := tpos) D).obj i s.heap ⟨hz, hTI, ⟨x0, y0, hTO⟩, h1, h2⟩ c hc
      exact Heap.lt_size e
    rw [upd_ne (Nat.ne_of_lt hlt)]
    exact (hf c hc).1
  over := by
    intro X hP hw hK hc i pins s σ H E I hf st hg
    subst hP hw hK
    obtain ⟨hz, hTI, ⟨x0, y0, hTO⟩, h1, h2⟩ := st
    obtain ⟨xs, qx, hend⟩ := hg
    obtain ⟨ix, rx, px, _⟩ := I.list qx
    obtain ⟨p, hp, hot⟩ := hot_at hc I
    have far : ∀ c ∈ [z, TI, TO, i1, i2], p.1 ≠ c := fun c hm => (hf c hm).2.2.2.2.2 p (List.mem_append_left _ hp)
    have he : ix.toArray[i]? = none := by
      have := rx.length
      simp; omega
    refine zip_over hot (far z (by simp)) (far i1 (by simp)) D hz hTI hTO h1 px.isList he fun h' hk => ⟨rfl, I.turnedL (t' := s.toks) (ch := [z, TI, TO, i1, i2]) (fun c o hb q => ?_) hf⟩
    simp only [List.mem_cons, List.not_mem_nil, or_false, not_or] at hb
    exact hk c o hb.1 hb.2.2.2.1 q
  own := (turn_zip (P := P) (w := w) (K := K) (elts := elts) (kk := kk) (tpos := tpos) D).self
/-- zip(a, b) of lists, the first not longer -/
def itZipH (g : Ea) : Ea := fun ρ st => (g ρ st).bind fun ds st1 => match ds with
  | [.lst xs, .lst ys] => if xs.length ≤ ys.length then .ok (pairZ xs ys) st1 else .bad
  | _ => .bad
section
variable {X : Cx} {W : WX} {tg e a b : Expr} {p pos tpos : Pos} {elts : List Expr} {kk : Nat}
theorem i_zipH {g : Ea} (hg : Gl X "zip") (hm : X.mg "zip" = none) (ha : PA X [a, b] (tA X.K W g)) (hs : starEach [a, b] X.env = (false, eval a X.env) :: starEach [b] X.env) (hpl : (backTo pos (starEach [b] X.env)).any (·.1) = false) :
    PIo HotC X (.Tuple elts kk tpos) (.Call (.Name "zip" p) [a, b] [] pos) (tI X.K W (itZipH g)) := by
  refine ⟨fun pins s σ H R I hw => ?_⟩
  obtain ⟨m, ρ, st, hsl, hst, hp⟩ := hw
  refine Call_ (ld_blt I hg hm PyProof.Rows.boot_zip (PyProof.Rows.callWith_type1 (seqA ha I hsl hst hp fun us s1 vs H1 m1 ds st1 I1 rr x1 sl1 y1 rv p1 => ?_) hs hpl))
  split at p1
  · rename_i xs ys
    split at p1
    · rename_i hl
      obtain ⟨v, w, rfl, r, r'⟩ := reps2 rv
      obtain ⟨l1, vs, rfl, f1, q1⟩ := lst_rep r
      obtain ⟨l2, ws, rfl, f2, q2⟩ := lst_rep r'
      cases rr with
      | cons r1 rr =>
        cases rr with
        | cons r2 rr =>
          cases rr; cases r1; cases r2
          obtain ⟨ix, rx, px, _⟩ := I1.list f1.sq
          obtain ⟨iy, ry, py, _⟩ := I1.list f2.sq
          refine call_zip_2 px.isList py.isList fun h' hz hTI hTO h1 h2 hsz hk => wpAny_pyIter_zip hz ?_
          have I2 : Inv X pins σ H1 { s1 with heap := h' } := I1.kept (t' := s1.toks) hk
          refine ⟨_, _, _, _, H1, rfl, I2, goes_zip (PySem.W.ktu_apart s1.heap.objs.size l1 l2 px.lt py.lt), ⟨hz, hTI, ⟨_, _, hTO⟩, h1, h2⟩, fun c hc => ?_, ?_⟩
          · have hle : s1.heap.objs.size ≤ c := by
              simp only [List.mem_cons, List.not_mem_nil, or_false] at hc
              rcases hc with rfl | rfl | rfl | rfl | rfl
              · exact Nat.le_add_right _ _
              · exact Nat.le_add_right _ _
              · exact Nat.le_add_right _ _
              · exact Nat.le_refl _
              · exact Nat.le_add_right _ _
            exact I1.fpOk hle (I1.hok.fresh hle)
          · have yl := yl_zipL f1 q1 f2 q2
            exact p1 m1 H1 .refl y1 _ ⟨yl.go, yl.yl, fun m' H' ek => ⟨vs, (f1.wk ek).sq, by rw [pairZ_len, q1.len]; omega⟩⟩
    · exact p1.elim
  · exact p1.elim
theorem g_tupH {es : List Expr} {ts : List Nat} {g : Tgs} {n k : Nat} (hc : HotC X) (h : PGs X es (tGs X.K ts g)) (hn : (assignEach es X.env).length = n) (hst : (assignEach es X.env).findIdx? (·.1) = none) : PG X (.Tuple es k pos) (tG X.K ts (gTu n g)) := by
  refine ⟨fun pins s σ H v u Q I r hw => ?_⟩
  obtain ⟨m, d, ρ, ρ', hsl, rd, e, q⟩ := hw
  cases d with
  | tup ds =>
    have e : (if ds.length = n then g ds ρ else none) = some ρ' := e
    split at e
    · rename_i hl
      obtain ⟨a, vs, rfl, h1, h2⟩ := tup_rep rd
      cases r
      obtain ⟨its, rv, ht, hz⟩ := I.tuple h1
      obtain ⟨p0, hp0, hot⟩ := hot_at hc I
      rw [assign_Tuple]
      refine wpAny_bind (wpAny_standAt (unpack_hot hot ht (by simp [hn, ← hl, ← h2.len, rv.length]) hst fun h' hx => ?_))
      have I1 : Inv X pins σ H { s with heap := h' } := I.kept (t' := s.toks) fun b o e => hx b o (Nat.ne_of_lt (Heap.lt_size e)) e
      exact h.run pins _ σ H vs _ Q I1 (by simpa using rv) ⟨m, ds, ρ, ρ', hsl, h2, e, q⟩
    · cases e
  | _ => cases e
end
end Ip
set_option Elab.async false
set_option linter.all false
set_option maxRecDepth 100000
set_option maxHeartbeats 4000000
namespace Ip
open PySem PySem.Spec PyProof.Rows L2 HotX L2H

/-! ### the package's errors -/
def errs : List Str := ["InvalidPlan", "InvalidCase", "InvalidView", "InvalidThing", "InvalidThings", "InvalidNumber", "InvalidWay", "InvalidWords", "InvalidSigns", "InvalidSights", "InvalidIndex", "InvalidLot", "InvalidTruth", "InvalidText", "Unlike", "NothingToUndo", "TooMany"]
/-- those that keep no attribute -/
def ers0 : List Str := ["InvalidPlan", "InvalidCase", "InvalidView", "InvalidThing", "InvalidThings", "InvalidNumber", "InvalidWay", "InvalidWords", "InvalidSigns", "InvalidSights", "InvalidIndex", "InvalidLot", "InvalidTruth", "InvalidText", "Unlike", "NothingToUndo"]
def labs : List Str := ["plan", "case", "view", "thing", "things", "number", "way", "words", "signs", "sights", "index", "lot", "truth", "text", "unlike", "undo", "many"]
/-- what the laws call an error -/
def nameOf (c : Str) : Str := ((errs.zip labs).lookup c).getD ""
/-- what the head tells of such a class -/
structure ErrOk (K : PySem.W.Frag) (c : Str) : Prop where
  exc : ExcC K (He.ga K c)
  lot : PySem.W.exmOne K (.ref (He.ga K c)) (.ref (He.ga K "LotError")) = some true
  ve : PySem.W.kitOne K (.ref (He.ga K c)) (.type "ValueError") = some true
  kits : ∀ y ∈ errs, PySem.W.kitOne K (.ref (He.ga K c)) (.ref (He.ga K y)) = some (decide (c = y))
  mem : c ∈ errs
def excCB (K : PySem.W.Frag) (D : Addr) : Bool :=
  He.eqO (PySem.W.findIn K (.ref D) "__getattribute__") (some (some (.builtin "BaseException.__getattribute__"))) && (He.eqO (PySem.W.findIn K (.ref D) "__getattr__") (some none) && (decide (PySem.W.subIn K (.ref D) (.type "BaseException") = some true) && (PySem.W.hasDictIn K D && (He.eqO (PySem.W.findIn K (.ref D) "__class__") (some (some (.builtin "object.__class__"))) &&
    (He.eqO (PySem.W.specialIn K (.builtin "object.__class__") "__get__") (some (some (.builtin "getset_descriptor.__get__"))) && (decide (PySem.W.takesIn K (.builtin "object.__class__") = some true) && decide (PySem.W.mroIn K D (.type "object") = some true)))))))
def errB (K : PySem.W.Frag) (c : Str) : Bool := excCB K (He.ga K c) && (decide (PySem.W.exmOne K (.ref (He.ga K c)) (.ref (He.ga K "LotError")) = some true) && (decide (PySem.W.kitOne K (.ref (He.ga K c)) (.type "ValueError") = some true) && ((errs.all fun y => decide (PySem.W.kitOne K (.ref (He.ga K c)) (.ref (He.ga K y)) = some (decide (c = y)))) && decide (c ∈ errs))))
theorem errB_ok {K : PySem.W.Frag} {c : Str} (h : errB K c = true) : ErrOk K c := by
  unfold errB excCB at h
  simp only [Bool.and_eq_true, decide_eq_true_eq, List.all_eq_true] at h
  obtain ⟨⟨h1, h2, h3, h4, h5, h6, h7, h8⟩, h9, h10, h11, h12⟩ := h
  exact ⟨⟨He.eqO_ok h1, He.eqO_ok h2, h3, h4, He.eqO_ok h5, He.eqO_ok h6, h7, h8⟩, h9, h10, fun y hy => h11 y hy, h12⟩

/-! ### isinstance(e, C), e the error that is handled -/
/-- the error that is handled: it is pinned -/
structure Caught (X : Cx) (a : Addr) (c : Str) : Prop where
  pin : ∃ oe, (a, oe) ∈ X.pn ∧ Hot1 X.A (a, oe) ∧ Zc (.ref (He.ga X.K c)) none oe
  ok : ErrOk X.K c
theorem Caught.hot {X : Cx} {a : Addr} {c : Str} (h : Caught X a c) : HotC X := by
  obtain ⟨oe, h1, h2, _⟩ := h.pin
  exact ⟨_, h2, h1⟩
def isErr (X : Cx) (a : Addr) (c : Str) : List V → Hp → VK → Prop := fun xs H Q => ∃ (t : V) (tv : Value) (b : Bool), xs = [.ref a, t] ∧ (∀ u, RelV t u → u = tv) ∧ PySem.W.kitOne X.K (.ref (He.ga X.K c)) tv = some b ∧ Q (.bl b) H
theorem call_isErr {X : Cx} {a : Addr} {c : Str} (h : Caught X a c) : CallR X (.builtin "isinstance") (isErr X a c) := by
  intro pins s σ H xs us Q I r hw
  obtain ⟨t, tv, b, rfl, only, e, q⟩ := hw
  obtain ⟨oe, m, hot, hz⟩ := h.pin
  obtain ⟨u1, u2, rfl, r1, r2⟩ := vals2 r
  cases r1
  obtain rfl := only _ r2
  obtain ⟨_, vs, hv, _⟩ := hot
  have at_ := (I.pin (a, oe) (List.mem_append.mpr (.inl m))).1
  obtain ⟨oc, od, oda, osl⟩ := oe
  obtain ⟨z1, z2⟩ := hz
  dsimp only at z1 z2 hv
  subst z1 z2 hv
  have C := h.ok.exc
  have J : PySem.W.InstAt s.heap a ⟨.ref (He.ga X.K c), none, .fields vs, osl⟩ (He.ga X.K c) none := ⟨at_, rfl, rfl, True.intro⟩
  exact PySem.W.kia_one (PySem.W.handS_kitx_exc C.hg C.hk C.hs C.hd C.ha C.hn C.ht C.hm) I.kIn J e (fun z => nomatch z) fun tk => ⟨.bl b, H, I.kept (t' := tk) fun _ _ z => z, rfl, q⟩
/-- the handled error's token at the slot i -/
def evErr (i : Nat) (a : Addr) (d : D) : Ev := fun ρ st => (evVar i ρ st).bind fun e st1 => match e with
  | .clo b _ _ => if b = a then .ok d st1 else .bad
  | _ => .bad
theorem evErr_at {i : Nat} {a : Addr} {d : D} {ρ : Sl} {st : Sto} {m0 : MX} {H0 : Hp} (h : ρ[i]? = some (some (.clo a m0 H0))) : evErr i a d ρ st = .ok d st := by
  unfold evErr evVar
  rw [h]
  exact if_pos rfl
section
variable {X : Cx} {W : WX} {x y : Str} {i : Nat} {a : Addr} {c : Str} {p p2 pos : Pos}
theorem e_isErr {tv : V} {b : Bool} (h : Caught X a c) (hg : Gl X "isinstance") (hm : X.mg "isinstance" = none) (hN : X.N[i]? = some x) (hv : Vis X.env.scope x) (hd : (x == ("__debug__" : Str)) = false) (hcd : (x == ("__classdict__" : Str)) = false)
    (ht : PE X (.Name y p2) (tC tv)) (u : Value) (only : ∀ u', RelV tv u' → u' = u) (hk : PySem.W.kitOne X.K (.ref (He.ga X.K c)) u = some b) : PE X (.Call (.Name "isinstance" p) [.Name x pos, .Name y p2] [] pos') (tE X.K W (evErr i a (.bl b))) := by
  refine PE_imp (pe_callB (call_isErr h) hg hm boot_isinstance (pa_cons (e_var (pos := pos) (W := W) hN hv hd hcd) (pa_cons ht pa_nil))) fun σ H Q hw => ?_
  obtain ⟨m, ρ, st, hsl, hst, hp⟩ := hw
  unfold evErr at hp
  refine tE_seq hsl hst hp fun v H1 m1 d st1 x1 sl1 y1 rv p1 => ?_
  cases d with
  | clo b0 m0 H0 =>
    simp only at p1
    split at p1
    · rename_i e
      subst e
      simp only [Rep] at rv
      obtain rfl := rv.1
      exact ⟨tv, u, b, rfl, only, hk, p1 m1 H1 .refl y1 _ rBl⟩
    · exact p1.elim
  | _ => exact p1.elim
end
/-! ### _law_named_error(e) -/
/-- what it is called for an error's name -/
def nerS : Str := "_law_named_error"
/-- the def that names an error, called while the error is handled -/
def NerAt (P : Program) (w : World) (K : PySem.W.Frag) (mg : Str → Option Value) (base : Heap) (k : Nat) : Prop :=
  ∃ f : Addr, mg nerS = some (.ref f) ∧ PySem.W.keepIn K (.ref f) = true ∧ ∀ (base' : Heap), Wider base base' → ∀ (A : Around) (outer : List Env) (s : Shared) (H : Hp) (m : MX) (st : Sto) (p : Addr × Obj) (c : Str) (Q : VK) (E : XK), RoomH k A → Hot1 A p → PinOk outer H s p → ErrOk K c → Zc (.ref (He.ga K c)) none p.2 → Env0 P w K mg base' A outer s H → RepSt K m H st →
    (∀ m' H' v, Ext K m H m' H' → RepSt K m' H' st → Rep K m' H' (.str (nameOf c)) v → Q v H') → codeAny (model P w) A (.call (.ref f) ⟨[.ref p.1], []⟩) (CR (L2N.CX P w) outer P w H s Q E) s
theorem NerAt.wider {P : Program} {w : World} {K : PySem.W.Frag} {mg : Str → Option Value} {base base' : Heap} {k : Nat} (h : NerAt P w K mg base k) (e : Wider base base') : NerAt P w K mg base' k := by
  obtain ⟨f, h1, h2, h3⟩ := h
  exact ⟨f, h1, h2, fun b y => h3 b (e.trans y)⟩
section
variable {X : Cx} {W : WX} {x : Str} {i k : Nat} {a : Addr} {c : Str} {p p2 pos : Pos}
theorem e_ner (h : Caught X a c) (F : NerAt X.prog X.w X.K X.mg X.base k) (hr : RoomH k X.A) (hxe : X.xe = fun _ _ => False) (hg : Gl X nerS) (hN : X.N[i]? = some x) (hv : Vis X.env.scope x) (hd : (x == ("__debug__" : Str)) = false) (hcd : (x == ("__classdict__" : Str)) = false) :
    PE X (.Call (.Name nerS p) [.Name x p2] [] pos) (tE X.K W (evErr i a (.str (nameOf c)))) := by
  obtain ⟨f, hm, hk, G⟩ := F
  obtain ⟨oe, mem, hot, hz⟩ := h.pin
  refine ⟨fun pins s σ H Q I hw => ?_⟩
  obtain ⟨m, ρ, st, hsl, hst, hp⟩ := hw
  refine wpAny_Call_Name_kw (ld_glob I hg hm ?_ (by decide +kernel))
  refine PySem.W.callWith_K (h₀ := X.base) I.ok.mod.kin hk ?_ (by rfl) (by rfl)
  show wpAny _ _ (spliced ((false, eval (.Name x p2) X.env) :: backTo pos (starEach [] X.env))) _ _ s
  refine Calls.spliced_cons (seqE (e_var (pos := p2) (W := W) hN hv hd hcd) I hsl hst hp fun u s1 v H1 m1 d st1 I1 r1 x1 sl1 y1 rv p1 => ?_)
  cases d with
  | clo b0 m0 H0 =>
    simp only at p1
    split at p1
    · rename_i e
      subst e
      simp only [Rep] at rv
      obtain rfl := rv.1
      cases r1
      refine Calls.spliced_nil ⟨I1.kIn, ?_⟩
      have P1 := I1.pin (b0, oe) (List.mem_append_left _ mem)
      have pok : PinOk X.stack H1 s1 (b0, oe) := ⟨P1.1, P1.2.1, fun hm => (List.mem_cons.mp (I1.stkSub b0 hm)).elim P1.2.2.1 P1.2.2.2.1, P1.2.2.2.2⟩
      show wpAny _ _ (call (.ref f) [.ref b0]) _ _ _
      refine wpAny_call (codeAny_mono (G X.base .rfl' X.A X.stack s1 H1 m1 st1 (b0, oe) c Q (fun _ _ _ => False) hr hot pok h.ok hz I1.env0 y1 fun m' H' v' x y r => p1 m' H' x y v' r) fun r s' hq => ?_)
      cases r with
      | error e =>
        obtain ⟨_, _, _, _, _, _, _, _, _, _, _, _, z⟩ := hq
        exact z.elim
      | ok fl =>
        cases fl with
        | ret u => exact I1.after hq
        | next => exact False.elim hq
        | brk => exact False.elim hq
        | cont => exact False.elim hq
    · exact p1.elim
  | _ => exact p1.elim
end
/-! ### try: .. except LotError as e: return .. -/
/-- an error is told by what the suite returns -/
def sTry (f : Es) (g : Str → Option D) : Es := fun ρ st => match f ρ st with
  | .exc c _ st1 => match g c with
    | some d => .rt d st1
    | none => .bad
  | r => r
section
variable {X : Cx} {W : WX} {n : Str} {i : Nat} {body : List Stmt} {e : Expr} {np hp pos pos' pos2 : Pos} {f : Es} {g : Str → Option D}
theorem s_try (hs : X.stack = X.env :: X.outer) (hf : X.env.frame = some X.env.locals) (hN : X.N.Nodup) (hi : X.N[i]? = some n) (hln : X.env.kindOf n = some .local) (hg : Gl X "LotError") (hm : X.mg "LotError" = some (.ref (He.ga X.K "LotError"))) (tk : L2N.Takes X W)
    (hb : ∀ (W : WX) (pn : List (Addr × Obj)) (xe : Value → Shared → Prop), L2N.Takes (X.tr pn xe) W → PassesOwn (model X.prog X.w) X.A X.env xe → PSs (X.tr pn xe) body (tS X.K W f))
    (hsu : ∀ (a : Addr) (c : Str) (d : D) (Y : Cx), g c = some d → (∃ oe pn, Y = X.suite a ((a, oe) :: pn)) → Caught Y a c → ∃ fe : Ev, PE Y e (tE X.K WF fe) ∧ ∀ (ρ : Sl) m0 H0 st, i < ρ.length → fe (ρ.set i (some (.clo a m0 H0))) st = .ok d st)
    (hok : ∀ c d, g c = some d → ErrOk X.K c) :
    PS X (.Try body [.ExceptHandler (some (.Name "LotError" np)) (some n) [.Return (some e) hp] pos'] [] [] pos) (tS X.K W (sTry f g)) := by
  refine PS_imp (L2N.ps_try_as (tb := fun W => tS X.K W f) (ts := fun a cls d0 D σ H => ∃ c d, g c = some d ∧ cls = .ref (He.ga X.K c) ∧ d0 = none ∧ ∃ (ρ : Sl) (st : Sto) (m : MX), RepSl X.K m H (ρ.set i (some (.clo a m H))) σ ∧ RepSt X.K m H st ∧ ∀ m' H' v, Ext X.K m H m' H' → RepSt X.K m' H' st → Rep X.K m' H' d v → D.rt v H')
    hs hf hN hi hln ⟨hg, by decide +kernel, .inl hm⟩ tk hb fun a oe cls d0 pn hz hv => ?_) fun D σ H hw => ?_
  · refine ⟨fun pins s σ H D I hh => ?_⟩
    obtain ⟨c, d, hgc, rfl, rfl, ρ, st, m, hsl, hst, q⟩ := hh
    obtain ⟨vs, hv⟩ := hv
    have ct : Caught (X.suite a ((a, oe) :: pn)) a c := ⟨⟨oe, List.mem_cons_self, ⟨rfl, vs, hv, hz.2.2 vs hv⟩, hz.1, hz.2.1⟩, hok c d hgc⟩
    obtain ⟨fe, pe, ev⟩ := hsu a c d _ hgc ⟨oe, pn, rfl⟩ ct
    refine (pss_one (ps_ret pe)).run pins s σ H D I ⟨m, _, st, hsl, hst, ?_⟩
    have hl : i < ρ.length := by
      have h1 := hsl.1
      rw [List.length_set] at h1
      rw [h1, I.len]
      exact (List.getElem?_eq_some_iff.mp hi).1
    rw [ev ρ m H st hl]
    exact fun m' H' x y v r => q m' H' v x y r
  · obtain ⟨m, ρ, st, hsl, hst, hp⟩ := hw
    refine ⟨m, ρ, st, hsl, hst, ?_⟩
    unfold sTry at hp
    cases ef : f ρ st with
    | exc c ρ1 st1 =>
      rw [ef] at hp
      simp only at hp
      cases eg : g c with
      | none => rw [eg] at hp; exact hp.elim
      | some d =>
        rw [eg] at hp
        intro m' H' σ' x sl y
        refine ⟨true, (hok c d eg).lot, fun _ a na => ?_, fun z => (nomatch z)⟩
        refine ⟨c, d, eg, rfl, rfl, ρ1, st1, m', sl.set ?_, y, fun m2 H2 v x2 y2 r2 => hp m2 H2 v (x.trans x2) y2 r2⟩
        simp only [Rep]
        exact ⟨trivial, .refl⟩
    | _ => rw [ef] at hp; exact hp
end
end Ip
set_option Elab.async false
set_option linter.all false
set_option maxRecDepth 100000
set_option maxHeartbeats 4000000
namespace Ip
open PySem PySem.Spec PyProof.Rows L2
/-! ### texts: split, join -/
/-- a method of a text, with one value -/
def evM1 (k : Sto → Str → D → Option D) (fo fe : Ev) : Ev := fun ρ st => (fo ρ st).bind fun d st1 => match d with
  | .str a => (fe ρ st1).bind fun e st2 => .lift (k st2 a e) st2
  | _ => .bad
def kSplit (_ : Sto) (a : Str) : D → Option D
  | .str b => if (b.length == 0) = false ∧ a.length + 2 ≤ 1000000 then some (.lst ((Txt.split a b).map .str)) else none
  | _ => none
def strsOf : List D → Option (List Str)
  | [] => some []
  | .str x :: xs => (strsOf xs).map (x :: ·)
  | _ => none
def kJoin (st : Sto) (a : Str) (d : D) : Option D := match (items st d).bind strsOf with
  | some ys => if (ys.map (·.length)).sum + ys.length * a.length ≤ 16777216 then some (.str (Txt.join a ys)) else none
  | none => none
theorem strsOf_map : ∀ ys : List Str, strsOf (ys.map D.str) = some ys
  | [] => rfl
  | y :: ys => by show (strsOf (ys.map D.str)).map (y :: ·) = _; rw [strsOf_map ys]; rfl
theorem strsOf_reps {K : PySem.W.Frag} {m : MX} {H : Hp} : ∀ {xs : List D} {ys : List Str} {vs : List V}, strsOf xs = some ys → Reps K m H xs vs → vs = ys.map V.str
  | [], ys, vs, e, r => by cases e; exact r.nil_inv
  | .str x :: xs, ys, vs, e, r => by
    obtain ⟨zs, e1, rfl⟩ := Option.map_eq_some_iff.mp (show (strsOf xs).map (x :: ·) = some ys from e)
    obtain ⟨v, t, rfl, r1, r2⟩ := r.cons_inv
    rw [iStr r1, strsOf_reps e1 r2]; rfl
  | .non :: _, _, _, e, _ => by cases e
  | .bl _ :: _, _, _, e, _ => by cases e
  | .int _ :: _, _, _, e, _ => by cases e
  | .tup _ :: _, _, _, e, _ => by cases e
  | .lst _ :: _, _, _, e, _ => by cases e
  | .scr _ :: _, _, _, e, _ => by cases e
  | .ref _ :: _, _, _, e, _ => by cases e
  | .glo _ :: _, _, _, e, _ => by cases e
  | .clo _ _ _ :: _, _, _, e, _ => by cases e
  | .ins _ _ :: _, _, _, e, _ => by cases e
theorem strs_reps {K : PySem.W.Frag} {m : MX} {H : Hp} : ∀ ys : List Str, Reps K m H (ys.map D.str) (ys.map V.str)
  | [] => .nil
  | y :: ys => .cons (by simp only [Rep]) (strs_reps ys)
section
variable {X : Cx} {W : WX} {o e : Expr} {fo fe : Ev} {apos pos : Pos}
theorem tM1_str {r : V → List V → Hp → VK → Prop} {k : Sto → Str → D → Option D} {σ : L2.St} {H : Hp} {Q : VK} (h : tE X.K W (evM1 k fo fe) σ H Q)
    (q : ∀ a d z H1 m1 st1 v, RepSt X.K m1 H1 st1 → Rep X.K m1 H1 d v → k st1 a d = some z → (∀ m' H' v', Ext X.K m1 H1 m' H' → RepSt X.K m' H' st1 → Rep X.K m' H' z v' → Q v' H') → r (.str a) [v] H1 Q) : tM1 r (tE X.K W fo) (tE X.K W fe) σ H Q := by
  obtain ⟨m, ρ, st, hsl, hst, hp⟩ := h
  refine tE_seq hsl hst hp fun v H1 m1 d st1 x1 sl1 y1 rv p1 => ?_
  cases d with
  | str a =>
    obtain rfl := iStr rv
    refine ⟨⟨a, rfl⟩, tE_seq sl1 y1 p1 fun v2 H2 m2 d2 st2 x2 sl2 y2 rv2 p2 => ?_⟩
    cases ek : k st2 a d2 with
    | none => rw [ek] at p2; exact p2.elim
    | some z =>
      rw [ek] at p2
      exact q a d2 z H2 m2 st2 v2 y2 rv2 ek fun m' H' v' x y r => p2 m' H' x y v' r
  | _ => exact p1.elim
theorem e_split (ho : PE X o (tE X.K W fo)) (he : PE X e (tE X.K W fe)) (hs : starEach [e] X.env = [(false, eval e X.env)]) (hb : attributeBase o "split" X.env (eval o X.env) = eval o X.env) (hl : (apos.endLine == pos.line) = true) : PE X (.Call (.Attribute o "split" apos) [e] [] pos) (tE X.K W (evM1 kSplit fo fe)) :=
  PE_imp (pe_split ho he hs hb hl) fun σ H Q hw => tM1_str hw fun a d z H1 m1 st1 v hst rd ek q => by
    cases d with
    | str b =>
      have ek : (if (b.length == 0) = false ∧ a.length + 2 ≤ 1000000 then some (D.lst ((Txt.split a b).map .str)) else none) = some z := ek
      split at ek
      · rename_i hc
        cases ek
        rw [iStr rd]
        exact ⟨a, b, rfl, rfl, hc.1, mil_line hc.2, fun p np => q m1 _ _ (.new np) (hst.new np) (.lst_new hst np (strs_reps _))⟩
      · cases ek
    | _ => cases ek
theorem e_join (ho : PE X o (tE X.K W fo)) (he : PE X e (tE X.K W fe)) (hs : starEach [e] X.env = [(false, eval e X.env)]) (hb : attributeBase o "join" X.env (eval o X.env) = eval o X.env) (hl : (apos.endLine == pos.line) = true) : PE X (.Call (.Attribute o "join" apos) [e] [] pos) (tE X.K W (evM1 kJoin fo fe)) :=
  PE_imp (pe_join ho he hs hb hl) fun σ H Q hw => tM1_str hw fun a d z H1 m1 st1 v hst rd ek q => by
    unfold kJoin at ek
    cases ef : items st1 d with
    | none => rw [ef] at ek; cases ek
    | some xs =>
      rw [ef] at ek
      cases es : strsOf xs with
      | none => simp only [Option.bind_some, es] at ek; cases ek
      | some ys =>
        simp only [Option.bind_some, es] at ek
        split at ek
        · rename_i hc
          cases ek
          have fin := q m1 H1 (.str (Txt.join a ys)) .refl hst (by simp only [Rep])
          obtain ⟨p, vs, rfl, h1, h2⟩ := items_rep hst ef rd
          rw [strsOf_reps es h2] at h1
          exact ⟨a, p, ys, rfl, rfl, h1, hc, fin⟩
        · cases ek
end
end Ip
set_option Elab.async false
set_option linter.all false
set_option maxRecDepth 100000
set_option maxHeartbeats 4000000
namespace Ip
open PySem PySem.Spec PyProof.Rows L2

/-! ### texts of numbers -/
def bStr (_ : Sto) : List D → Option D := one1 fun d => match d with
  | .int i => if i.natAbs < 2 ^ 1900 then some (.str (toString i)) else none
  | .str x => some (.str x)
  | _ => none
theorem log_lt {i : Int} (h : i.natAbs < 2 ^ 1900) : i.natAbs.log2 < 1920 := by
  by_cases h0 : i.natAbs = 0
  · rw [h0]; decide
  · exact Nat.lt_of_lt_of_le ((Nat.log2_lt h0).mpr h) (by decide)
section
variable {X : Cx} {W : WX}
theorem cStr : CallS X (.type "str") bStr := by
  intro pins s σ H m st ds z vs us Q I hst rv ru ho q
  obtain ⟨d, rfl, ho⟩ := one1_inv ho
  obtain ⟨v, rfl, r⟩ := reps1 rv
  cases d with
  | int i =>
    have ho : (if i.natAbs < 2 ^ 1900 then some (D.str (toString i)) else none) = some z := ho
    split at ho
    · rename_i hc
      cases ho
      rw [iInt r] at ru
      exact call_str_int pins s σ H _ us Q I ru ⟨i, rfl, log_lt hc, q m H _ .refl hst rStr⟩
    · cases ho
  | str x =>
    cases ho
    rw [iStr r] at ru
    exact SkE.call_str_str pins s σ H _ us Q I ru ⟨x, rfl, q m H _ .refl hst rStr⟩
  | _ => cases ho
/-- f'..{e}' -/
def evFs (x : Str) (f : Ev) : Ev := fun ρ st => if (Str.empty ++ x).length ≤ 1000000 then (f ρ st).bind (fun d st1 => match d with
  | .int i => if i.natAbs < 2 ^ 1900 ∧ (Str.empty ++ x ++ (toString i : Str)).length ≤ 1000000 then .ok (.str (Str.empty ++ x ++ (toString i : Str))) st1 else .bad
  | _ => .bad) else .bad
theorem e_fs {x : Str} {e : Expr} {f : Ev} {cp fp pos : Pos} {u : Nat} (he : PE X e (tE X.K W f)) : PE X (.JoinedStr [.Constant (.str x) u cp, .FormattedValue e (-1) none fp] pos) (tE X.K W (evFs x f)) := by
  refine PE_imp (pe_joined (.cons pe_str (.cons (pe_fmt he) .nil))) fun σ H Q hw => ?_
  obtain ⟨m, ρ, st, hsl, hst, hp⟩ := hw
  unfold evFs at hp
  split at hp
  · rename_i hx
    refine ⟨x, rfl, mil_line hx, tE_seq hsl hst hp fun v H1 m1 d st1 x1 sl1 y1 rv p1 => ?_⟩
    split at p1
    · rename_i i
      split at p1
      · rename_i hc
        exact .inr ⟨i, iInt rv, log_lt hc.1, toString i, rfl, mil_line hc.2, p1 m1 H1 .refl y1 _ rStr⟩
      · exact p1.elim
    · exact p1.elim
  · exact hp.elim
/-! ### sorted(set(e)), e a tuple of ints -/
def dedupI : List Int → List Int
  | [] => []
  | n :: ns => if n ∈ ns then dedupI ns else n :: dedupI ns
theorem dedupI_mem : ∀ {ns : List Int} {k : Int}, k ∈ dedupI ns ↔ k ∈ ns
  | [], _ => Iff.rfl
  | n :: ns, k => by
    unfold dedupI
    split
    · rename_i h
      rw [dedupI_mem (ns := ns), List.mem_cons]
      exact ⟨.inr, fun z => z.elim (fun e => e ▸ h) id⟩
    · rw [List.mem_cons, List.mem_cons, dedupI_mem (ns := ns)]
theorem dedupI_nodup : ∀ ns : List Int, (dedupI ns).Nodup
  | [] => .nil
  | n :: ns => by
    unfold dedupI
    split
    · exact dedupI_nodup ns
    · rename_i h
      exact List.nodup_cons.mpr ⟨fun z => h (dedupI_mem.mp z), dedupI_nodup ns⟩
def uniqS (ns : List Int) : List Int := (dedupI ns).mergeSort fun a b => decide (a ≤ b)
theorem uniqS_mem {ns : List Int} {k : Int} : k ∈ uniqS ns ↔ k ∈ ns := by
  unfold uniqS
  rw [List.mem_mergeSort, dedupI_mem]
theorem uniqS_lt (ns : List Int) : (uniqS ns).Pairwise (· < ·) := by
  have h1 : (uniqS ns).Pairwise fun a b => decide (a ≤ b) = true := List.pairwise_mergeSort (fun a b c h1 h2 => by simp at *; omega) (fun a b => by simp; omega) _
  have h2 : (uniqS ns).Nodup := (List.mergeSort_perm _ _).nodup_iff.mpr (dedupI_nodup ns)
  exact (h1.and h2).imp fun {a b} h => by
    have := of_decide_eq_true h.1
    have := h.2
    omega
theorem ltI_unique : ∀ {a b : List Int}, a.Pairwise (· < ·) → b.Pairwise (· < ·) → (∀ x, x ∈ a ↔ x ∈ b) → a = b
  | [], [], _, _, _ => rfl
  | [], y :: b, _, _, h => absurd ((h y).mpr (List.mem_cons_self ..)) (fun z => nomatch z)
  | x :: a, [], _, _, h => absurd ((h x).mp (List.mem_cons_self ..)) (fun z => nomatch z)
  | x :: a, y :: b, ha, hb, h => by
    obtain ⟨a1, a2⟩ := List.pairwise_cons.mp ha
    obtain ⟨b1, b2⟩ := List.pairwise_cons.mp hb
    have e : x = y := by
      rcases List.mem_cons.mp ((h x).mp (List.mem_cons_self ..)) with e | hx
      · exact e
      · rcases List.mem_cons.mp ((h y).mpr (List.mem_cons_self ..)) with e | hy
        · exact e.symm
        · have := b1 x hx
          have := a1 y hy
          omega
    subst e
    rw [ltI_unique a2 b2 fun z => ⟨fun hz => ?_, fun hz => ?_⟩]
    · rcases List.mem_cons.mp ((h z).mp (List.mem_cons_of_mem _ hz)) with e | hz'
      · subst e
        exact absurd (a1 z hz) (by omega)
      · exact hz'
    · rcases List.mem_cons.mp ((h z).mpr (List.mem_cons_of_mem _ hz)) with e | hz'
      · subst e
        exact absurd (b1 z hz) (by omega)
      · exact hz'
def kSS : D → Option D
  | .tup xs => (match intsOf xs with
    | some ns => if ns.length ≤ 4000 ∧ (dedupI ns).length ≤ 60 then some (.lst ((uniqS ns).map .int)) else none
    | none => none)
  | _ => none
def evSS (f : Ev) : Ev := fun ρ st => (f ρ st).bind fun d st1 => .lift (kSS d) st1
theorem ints_reps {K : PySem.W.Frag} {m : MX} {H : Hp} : ∀ ns : List Int, Reps K m H (ns.map D.int) (ns.map V.int)
  | [] => .nil
  | n :: ns => .cons rInt (ints_reps ns)
theorem ints_vs {K : PySem.W.Frag} {m : MX} {H : Hp} : ∀ {ns : List Int} {vs : List V}, Reps K m H (ns.map D.int) vs → vs = ns.map V.int
  | [], _, r => r.nil_inv
  | n :: ns, _, r => by
    obtain ⟨v, t, rfl, r1, r2⟩ := Reps.cons_inv (d := .int n) r
    rw [iInt r1, ints_vs r2]
    rfl
def rSetI (K : PySem.W.Frag) (w : World) : List V → Hp → VK → Prop := fun vs H Q => ∃ (a : Addr) (ns : List Int), vs = [.ref a] ∧ SqT K H a (ns.map V.int) ∧ ns.length ≤ 4000 ∧ ∀ p n, H p = none → n ≤ (dedupI ns).length → Q (.ref p) (upd H p (SetO w p (fun j => decide (j ∈ ns)) n))
theorem cr_setI (hc : X.calm = true) : CallR X (.type "set") (rSetI X.K X.w) := by
  intro pins s σ H vs us Q I ru h
  obtain ⟨a, ns, rfl, ha, hl, q⟩ := h
  rw [Vals.ref1 ru]
  obtain ⟨its, rv, pt, hz⟩ := I.tuple ha
  have hi : IntsAre its.toArray.toList ns := ints_of_vals rv
  refine call_set_tupI ns (I.ok.hd hc) (show s.heap.IsTuple a its.toArray from pt) hi (by unfold scanBound; omega) fun h' tk c R1 hcn k => ?_
  have hc2 : c ≤ (dedupI ns).length := by
    obtain ⟨o, es, ep, t, _, _, _, _, nd, hm, _, _, hn, _, _⟩ := R1
    have e : (es.toList.map keyOf).length = c := by rw [List.length_map, Array.length_toList]; exact hn
    rw [← e]
    exact nd.length_le_of_subset fun x hx => dedupI_mem.mpr (of_decide_eq_true ((hm x).mpr hx))
  exact ⟨.ref s.heap.objs.size, _, I.laid (t' := tk) k (Nat.le_refl _) (setO_new R1), rfl, q _ c (I.hok.fresh (Nat.le_refl _)) hc2⟩
theorem e_sortSet {e : Expr} {f : Ev} {p p2 pos pos2 : Pos} (hc : X.calm = true) (hg : Gl X "sorted") (hm : X.mg "sorted" = none) (hg2 : Gl X "set") (hm2 : X.mg "set" = none) (he : PE X e (tE X.K W f)) (hs : starEach [e] X.env = (false, eval e X.env) :: starEach [] X.env) :
    PE X (.Call (.Name "sorted" p) [.Call (.Name "set" p2) [e] [] pos2] [] pos) (tE X.K W (evSS f)) := by
  have inner := pe_callTy (p := p2) (pos := pos2) (cr_setI hc) hg2 hm2 PyProof.Rows.boot_set (pa_cons he pa_nil hs) (by decide) (by decide) hs rfl
  refine PE_imp (pe_callB (p := p) (pos := pos) (cr_sortedSet hc) hg hm boot_sorted (pa_cons inner pa_nil rfl) (by decide) (by decide) rfl rfl) fun σ H Q hw => ?_
  obtain ⟨m, ρ, st, hsl, hst, hp⟩ := hw
  have go : tE X.K W f σ H fun v H1 => rSetI X.K X.w [v] H1 fun v' H2 => rSortedSet X.w [v'] H2 Q := tE_seq hsl hst hp fun v H1 m1 d st1 x1 sl1 y1 rv p1 => by
    cases ek : kSS d with
    | none => rw [ek] at p1; exact p1.elim
    | some z =>
      rw [ek] at p1
      unfold kSS at ek
      split at ek
      · rename_i xs
        split at ek
        · rename_i ns en
          split at ek
          · rename_i hl
            cases ek
            obtain ⟨a, vs, rfl, h1, h2⟩ := tup_rep rv
            rw [intsOf_inv en] at h2
            rw [ints_vs h2] at h1
            refine ⟨a, ns, rfl, h1, hl.1, fun p n hp hn => ⟨p, _, n, rfl, upd_same, by have := hl.2; omega, fun ms p' hs hm _ hp' => ?_⟩⟩
            have e : ms = uniqS ns := ltI_unique hs (uniqS_lt ns) fun x => by rw [hm x, uniqS_mem, decide_eq_true_eq]
            rw [e]
            exact p1 m1 _ (.trans (.new hp) (.new hp')) ((y1.new hp).new hp') _ (.lst_new (y1.new hp) hp' (ints_reps _))
          · cases ek
        · cases ek
      · cases ek
  exact go
/-! ### a tuple of texts that the module names -/
def gtB (K : PySem.W.Frag) (x : Str) (zs : List Str) : Bool := match K.lookup (He.ga K x) with
  | some o => decide (o.cls = .type "tuple" ∧ o.dict = none) && (match o.data with
    | .seq its _ => decide (its.size ≤ 1000) && (its.toList.length == zs.length && (its.toList.zip zs).all fun q => match q.1 with
      | .str y _ => decide (y = q.2)
      | _ => false)
    | _ => false)
  | none => false
theorem vals_strs : ∀ {its : List Value} {zs : List Str}, its.length = zs.length → ((its.zip zs).all fun q => match q.1 with
      | .str y _ => decide (y = q.2)
      | _ => false) = true → Vals (zs.map V.str) its
  | [], [], _, _ => .nil
  | [], _ :: _, h, _ => nomatch h
  | _ :: _, [], h, _ => nomatch h
  | v :: its, z :: zs, h, e => by
    rw [List.zip_cons_cons, List.all_cons, Bool.and_eq_true] at e
    refine .cons ?_ (vals_strs (by simpa using h) e.2)
    have e1 := e.1
    dsimp only at e1
    split at e1
    · rename_i y t
      exact ⟨t, by rw [of_decide_eq_true e1]⟩
    · cases e1
theorem gt_ty {K : PySem.W.Frag} {x : Str} {zs : List Str} (h : gtB K x zs = true) (H : Hp) : tyV K "tuple" (.ref (He.ga K x)) H := by
  unfold gtB at h
  split at h
  · rename_i o ho
    rw [Bool.and_eq_true] at h
    have z := of_decide_eq_true h.1
    exact .inr (.inl ⟨rfl, o, ho, z.1, z.2⟩)
  · cases h
theorem gt_sq {K : PySem.W.Frag} {x : Str} {zs : List Str} (h : gtB K x zs = true) (H : Hp) : SqT K H (He.ga K x) (zs.map V.str) := by
  unfold gtB at h
  split at h
  · rename_i o ho
    rw [Bool.and_eq_true] at h
    obtain ⟨h1, h2⟩ := h
    split at h2
    · rename_i its n hd
      simp only [Bool.and_eq_true] at h2
      obtain ⟨g1, g2, g3⟩ := h2
      exact .inr ⟨o, its, n, ho, (of_decide_eq_true h1).1, hd, mil_line (Nat.le_trans (of_decide_eq_true g1) (by decide)), vals_strs (eq_of_beq g2) g3⟩
    · cases h2
  · cases h
theorem e_gtup {x : Str} {zs : List Str} {pos : Pos} (h : gtB X.K x zs = true) (hg : Gl X x) (hm : X.mg x = some (.ref (He.ga X.K x))) (hd : (x == ("__debug__" : Str)) = false) : PE X (.Name x pos) (tE X.K W (evC (.tup (zs.map .str)))) := by
  refine PE_imp (pe_glob (v := .ref (He.ga X.K x)) hg hm rfl hd) fun σ H Q hw => ?_
  obtain ⟨m, ρ, st, hsl, hst, hp⟩ := hw
  have r : Rep X.K m H (.tup (zs.map .str)) (.ref (He.ga X.K x)) := by
    simp only [Rep]
    exact ⟨_, _, rfl, gt_sq h H, strs_reps zs⟩
  exact hp m H .refl hst _ r
/-- t.index(x), t a tuple of texts -/
def rIxS (K : PySem.W.Frag) : V → List V → Hp → VK → Prop := fun x xs H Q => ∃ (a : Addr) (ys : List Str) (k : Str), x = .ref a ∧ xs = [.str k] ∧ SqT K H a (ys.map V.str) ∧ k ∈ ys ∧ Q (.int (ys.idxOf k : Nat)) H
theorem mt_ixS : MtR X "tuple.index" (rIxS X.K) := by
  intro pins s σ H x xs v us Q I rx rxs h
  obtain ⟨a, ys, k, rfl, rfl, ha, hk, q⟩ := h
  cases rx
  cases rxs with
  | cons ry rt =>
    cases rt
    obtain ⟨tk, rfl⟩ := ry
    obtain ⟨its, rv, pt, hz⟩ := I.tuple ha
    exact PySem.SeqAt.tuple_index_strs pt (strsAre_of rv) hk ⟨.int (ys.idxOf k : Nat), H, I.tok _, ⟨_, rfl⟩, q⟩
def evIxG (zs : List Str) (g : Ea) : Ev := fun ρ st => (g ρ st).bind fun ds st2 => match ds with
  | [.str k] => if k ∈ zs then .ok (.int (zs.idxOf k : Nat)) st2 else .bad
  | _ => .bad
theorem e_idxG {x : Str} {zs : List Str} {p apos cpos : Pos} {g : Ea} {e : Expr} (h : gtB X.K x zs = true) (hg : Gl X x) (hm : X.mg x = some (.ref (He.ga X.K x))) (hd : (x == ("__debug__" : Str)) = false) (ha : PA X [e] (tA X.K W g))
    (hb : attributeBase (.Name x p) "index" X.env (eval (.Name x p) X.env) = eval (.Name x p) X.env) (hl : (apos.endLine == cpos.line) = true) (h1 : starEach [e] X.env = (false, eval e X.env) :: starEach [] X.env) :
    PE X (.Call (.Attribute (.Name x p) "index" apos) [e] [] cpos) (tE X.K W (evIxG zs g)) := by
  refine PE_imp (pe_bm F.plainAttrs_tuple F.slot_tuple_index F.type_tuple_index mt_ixS (pe_glob (v := .ref (He.ga X.K x)) hg hm rfl hd) ha hb (plainFew h1) hl h1 rfl) fun σ H Q hw => ?_
  obtain ⟨m, ρ, st, hsl, hst, hp⟩ := hw
  refine ⟨gt_ty h H, tA_seq hsl hst hp fun vs H2 m2 ds st2 x2 sl2 y2 rv2 p2 => ?_⟩
  split at p2
  · rename_i k
    split at p2
    · rename_i hk
      obtain ⟨w, rfl, rw'⟩ := reps1 rv2
      exact ⟨_, zs, k, rfl, by rw [iStr rw'], gt_sq h H2, hk, p2 m2 H2 .refl y2 _ rInt⟩
    · exact p2.elim
  · exact p2.elim
end
end Ip
set_option Elab.async false
set_option linter.all false
set_option maxRecDepth 100000
set_option maxHeartbeats 4000000
namespace Ip
open PySem PySem.Spec PyProof.Rows L2 L2H

/-! ### what is known where a text is read -/
/-- a def whose first value is something to be called: n further values, cn values of what is called, which has the level cl + 1; its own level -/
structure Ho where
  x : Str
  n : Nat
  cn : Nat
  cl : Nat
  lv : Nat
  F : Fn → Fn
structure Ctx where
  N : List Str
  sc : Scope
  fnl : Str → Bool
  lv : Nat
  fns : List (Str × Nat × Nat × Fn)
  gis : List (Str × Int)
  excs : List Str
  clss : List Str
  mu : List Str
  cals : List Cal
  hos : List Ho
  mkr : Bool
  hot : Option (Addr × Str)
  ner : Option Nat
  ers : List Str
  gts : List (Str × List Str)
/-- the names of built-in things that may be used -/
def bltn : List Str := ["len", "all", "any", "sum", "max", "min", "sorted", "tuple", "list", "int", "bool", "range", "enumerate", "zip", "isinstance", "str", "ValueError", "set"]
structure Cpt (Γ : Ctx) (X : Cx) (W : WX) : Prop where
  N : X.N = Γ.N
  nd : Γ.N.Nodup
  sc : X.env.scope = Γ.sc
  fnl : X.fn = Γ.fnl
  calm : Γ.hot = none → X.calm = true
  caught : ∀ q, Γ.hot = some q → Caught X q.1 q.2
  room : Γ.hot = none → Room Γ.lv X.A
  un : X.A.units + 65 < cLine
  fns : ∀ q ∈ Γ.fns, HasW X.prog X.w X.K X.mg X.base q.1 q.2.1 q.2.2.1 q.2.2.2 ∧ X.mg q.1 = some (.ref (He.ga X.K q.1)) ∧ q.2.2.1 ≤ Γ.lv
  gis : ∀ q ∈ Γ.gis, ∃ t, X.mg q.1 = some (.int q.2 t)
  excs : ∀ q ∈ Γ.excs, ExcHas X q
  clss : ∀ q ∈ Γ.clss, X.mg q = some (.ref (He.ga X.K q))
  blt : ∀ q ∈ bltn, X.mg q = none
  tk : L2N.Takes X W
  cals : ∀ c ∈ Γ.cals, CalF X.K X.base c.d ∧ CalAt X.prog X.w X.K X.mg X.base c ∧ c.lv ≤ Γ.lv
  hos : ∀ h ∈ Γ.hos, HasH X.prog X.w X.K X.mg X.base h.x h.n h.cn (h.cl + 1) h.lv h.F ∧ h.lv ≤ Γ.lv
  maker : Γ.mkr = true → Maker X
  ner : ∀ k, Γ.ner = some k → NerAt X.prog X.w X.K X.mg X.base k ∧ k ≤ Γ.lv ∧ X.mg "LotError" = some (.ref (He.ga X.K "LotError"))
  ers : ∀ c ∈ Γ.ers, ErrOk X.K c
  gts : ∀ q ∈ Γ.gts, gtB X.K q.1 q.2 = true ∧ X.mg q.1 = some (.ref (He.ga X.K q.1))
/-- inside a comprehension of one clause, of two -/
def Ctx.blk (Γ : Ctx) (scope : Scope) : Ctx := { Γ with sc := relS scope Γ.sc, fnl := fun x => scope.names.lookup x == some .cell }
def Ctx.blk0 (Γ : Ctx) (scope : Scope) : Ctx := { Γ.blk scope with mkr := false }
/-- inside a lambda -/
def Ctx.lam (Γ : Ctx) (N : List Str) (scope : Scope) (cl : Nat) : Ctx :=
  { Γ with N := N, sc := scope, fnl := fun _ => false, lv := cl, fns := Γ.fns.filter (fun q => decide (q.2.2.1 ≤ cl)), mu := [], cals := Γ.cals.filter (fun c => decide (c.lv ≤ cl)), hos := Γ.hos.filter (fun h => decide (h.lv ≤ cl)), mkr := false, hot := none, ner := none }
theorem takesF {X : Cx} : L2N.Takes X WF := fun _ _ x => by
  obtain ⟨_, _, _, _, _, _, _, _, _, _, _, _, _, _, _, _, z⟩ := x
  exact z.elim
theorem Cpt.blk0 {Γ : Ctx} {X : Cx} {W : WX} (h : Cpt Γ X W) (hh : Γ.hot = none) {scope : Scope} {s : Shared} {H : Hp} {C : Addr} {cl : List (Str × Addr)} {fp : List Addr} : Cpt (Γ.blk0 scope) (X.blk s H scope (compEnvC scope cl C X.env) fp) WF where
  N := h.N
  nd := h.nd
  sc := by
    show relS scope X.env.scope = relS scope Γ.sc
    rw [h.sc]
  fnl := rfl
  calm := h.calm
  caught := fun q e => by
    have e : Γ.hot = some q := e
    rw [hh] at e; cases e
  room := h.room
  un := h.un
  fns := h.fns
  gis := h.gis
  excs := h.excs
  clss := h.clss
  blt := h.blt
  tk := takesF
  cals := h.cals
  hos := h.hos
  maker := fun z => by cases z
  ner := h.ner
  ers := h.ers
  gts := h.gts
theorem Maker.blk {X : Cx} (M : Maker X) {scope : Scope} {own : List (Str × Nat)} {s : Shared} {H : Hp} {C : Addr} {cl : List (Str × Addr)} {fp : List Addr} {pn : List (Addr × Obj)} (ok : BlkOk X.N X.env.scope scope own) (st : Starts X scope s C cl pn) : Maker (blkP X s H scope (compEnvC scope cl C X.env) fp pn) := by
  obtain ⟨cc, T, h1, h2, h3, h4⟩ := M.tab
  refine ⟨⟨cc, T, h1, h2, h3, h4⟩, fun _ y c e z => ?_⟩
  obtain ⟨pins, σ, H', I, _⟩ := st.at_
  have e : cl.lookup y = some c := e
  rw [st.cells, ← Heap.size_push s.heap { cls := .type "dict", data := .dict #[] }] at e
  rcases cells_mem (PySem.mem_of_lookup e) with q | ⟨_, q, _⟩
  · rcases cloFrom_mem q with q | ⟨q1, q2⟩
    · cases q
    · obtain ⟨c1, hc⟩ := I.ok.has y ((ok.free _ q1 rfl).imp id id)
      rw [hc] at q2
      have q2 : c = c1 := q2
      subst q2
      exact M.nofr ⟨X.pn, X.xe, _, _, _, _, I⟩ y c hc z
  · rw [Heap.size_push] at q
    obtain ⟨_, o, ho, _⟩ := I.stack.mem z
    exact absurd (Nat.lt_of_lt_of_le (Heap.lt_size ho) (Nat.le_of_succ_le q)) (Nat.lt_irrefl _)
theorem Cpt.blkP {Γ : Ctx} {X : Cx} {W : WX} (h : Cpt Γ X W) {scope : Scope} {own : List (Str × Nat)} {s : Shared} {H : Hp} {C : Addr} {cl : List (Str × Addr)} {fp : List Addr} {pn : List (Addr × Obj)} (ok : BlkOk X.N X.env.scope scope own) (st : Starts X scope s C cl pn) : Cpt (Γ.blk scope) (blkP X s H scope (compEnvC scope cl C X.env) fp pn) WF where
  N := h.N
  nd := h.nd
  sc := by
    show relS scope X.env.scope = relS scope Γ.sc
    rw [h.sc]
  fnl := rfl
  calm := h.calm
  caught := fun q e => by
    obtain ⟨⟨oe, p1, p2, p3⟩, k⟩ := h.caught q e
    obtain ⟨pins, _, _, _, e2⟩ := st.at_
    exact ⟨⟨oe, by show _ ∈ pn; rw [e2]; exact List.mem_append_left _ p1, p2, p3⟩, k⟩
  room := h.room
  un := h.un
  fns := h.fns
  gis := h.gis
  excs := h.excs
  clss := h.clss
  blt := h.blt
  tk := takesF
  cals := h.cals
  hos := h.hos
  maker := fun z => (h.maker z).blk ok st
  ner := h.ner
  ers := h.ers
  gts := h.gts
theorem Cpt.lam {Γ : Ctx} {X : Cx} {W : WX} (h : Cpt Γ X W) {N ps fr : List Str} {params : Arguments} {scope : Scope} {clv : Nat} {c' f : Addr} {base' : Heap} {A : Around} {outer : List Env} {s : Shared} {H : Hp} {E : XK} (S : NdefX.NScope N ps fr scope) (wid : Wider X.base base')
    (hr : Room clv (A.deeper (NdefX.envF (lamF X params scope c') f s.heap.objs.size))) : Cpt (Γ.lam N scope clv) (lamX X base' N params scope c' f A outer s H E) (fun c d _ H' => E c d H') where
  N := rfl
  nd := S.nd
  sc := rfl
  fnl := rfl
  calm := fun _ => rfl
  caught := fun q e => by cases e
  room := fun _ => hr
  un := Nat.lt_of_le_of_lt (Nat.add_le_add_left (by omega : 65 ≤ 16 * clv + 200) _) (by have := hr.un; rw [← Nat.add_assoc]; exact this)
  fns := fun q hq => by
    obtain ⟨h1, h2⟩ := List.mem_filter.mp (show q ∈ Γ.fns.filter _ from hq)
    obtain ⟨k1, k2, _⟩ := h.fns q h1
    exact ⟨k1.wider wid, k2, of_decide_eq_true h2⟩
  gis := h.gis
  excs := h.excs
  clss := h.clss
  blt := h.blt
  tk := L2N.takes_of rfl rfl rfl rfl
  cals := fun c hc => by
    obtain ⟨h1, h2⟩ := List.mem_filter.mp (show c ∈ Γ.cals.filter _ from hc)
    obtain ⟨k1, k2, _⟩ := h.cals c h1
    exact ⟨k1.wider wid, k2.wider wid, of_decide_eq_true h2⟩
  hos := fun q hq => by
    obtain ⟨h1, h2⟩ := List.mem_filter.mp (show q ∈ Γ.hos.filter _ from hq)
    obtain ⟨k1, _⟩ := h.hos q h1
    exact ⟨k1.wider wid, of_decide_eq_true h2⟩
  maker := fun z => by cases z
  ner := fun k e => by cases e
  ers := h.ers
  gts := h.gts
section
variable {Γ : Ctx} {X : Cx} {W : WX}
theorem Cpt.gl (h : Cpt Γ X W) {x : Str} (e : Γ.sc.names.lookup x = some .globalImplicit) : Gl X x := by
  show X.env.scope.names.lookup x = _
  rw [h.sc]; exact e
theorem Cpt.vis (h : Cpt Γ X W) {x : Str} (e : Vis Γ.sc x) : Vis X.env.scope x := by rw [h.sc]; exact e
theorem Cpt.ndX (h : Cpt Γ X W) : X.N.Nodup := by rw [h.N]; exact h.nd
theorem Cpt.ix (h : Cpt Γ X W) {i : Nat} {x : Str} (e : Γ.N[i]? = some x) : X.N[i]? = some x := by rw [h.N]; exact e
end
/-! ### what a reading is -/
structure CE (Γ : Ctx) (e : Expr) where
  f : Ev
  ok : ∀ {X : Cx} {W : WX}, Cpt Γ X W → PE X e (tE X.K W f)
structure CN (Γ : Ctx) (e : Expr) where
  f : Ea
  ok : ∀ {X : Cx} {W : WX}, Cpt Γ X W → PE X e (tN X.K W f)
structure CT (Γ : Ctx) (e : Expr) where
  f : Eb
  ok : ∀ {X : Cx} {W : WX}, Cpt Γ X W → PT X e (tT X.K W f)
structure CTw (Γ : Ctx) (e : Expr) where
  f : Eb
  ok : ∀ {X : Cx} {W : WX}, Cpt Γ X W → PW X e (tT X.K W f)
structure CQ (Γ : Ctx) (es : List Expr) where
  f : Eb
  ok : ∀ {X : Cx} {W : WX}, Cpt Γ X W → PTs X es (tT X.K W f)
structure CA (Γ : Ctx) (es : List Expr) where
  f : Ea
  ok : ∀ {X : Cx} {W : WX}, Cpt Γ X W → PA X es (tA X.K W f)
structure CO (Γ : Ctx) (e : Option Expr) where
  f : Eo
  ok : ∀ {X : Cx} {W : WX}, Cpt Γ X W → PO X e (tO X.K W f)
structure CI (Γ : Ctx) (tg e : Expr) where
  f : Ea
  ok : ∀ {X : Cx} {W : WX}, Cpt Γ X W → PI X tg e (tI X.K W f)
structure CG (Γ : Ctx) (e : Expr) where
  ts : List Nat
  f : Tg
  ok : ∀ {X : Cx} {W : WX}, Cpt Γ X W → PG X e (tG X.K ts f)
structure CGs (Γ : Ctx) (es : List Expr) where
  ts : List Nat
  f : Tgs
  ok : ∀ {X : Cx} {W : WX}, Cpt Γ X W → PGs X es (tGs X.K ts f)
structure Cs where
  e : (Γ : Ctx) → (e : Expr) → Option (CE Γ e)
  t : (Γ : Ctx) → (e : Expr) → Option (CT Γ e)
  i : (Γ : Ctx) → (tg e : Expr) → Option (CI Γ tg e)
  g : (Γ : Ctx) → (e : Expr) → Option (CG Γ e)

/-! ### side conditions that are looked up in the text -/
def notStar : Expr → Bool
  | .Starred .. => false
  | _ => true
theorem notStar_each {e : Expr} (h : notStar e = true) (es : List Expr) (env : Env) : starEach (e :: es) env = (false, eval e env) :: starEach es env := by
  cases e <;> first | rfl | cases h
theorem stars_plain : ∀ {es : List Expr} {env : Env} {pos : Pos}, es.all notStar = true → (backTo pos (starEach es env)).any (·.1) = false
  | [], _, _, _ => rfl
  | e :: es, env, pos, h => by
    rw [List.all_cons, Bool.and_eq_true] at h
    rw [notStar_each h.1]
    have ih := stars_plain (env := env) (pos := pos) h.2
    unfold backTo at ih ⊢
    rw [List.map_cons, List.any_cons, ih]
    rfl
theorem notStar_assign {e : Expr} (h : notStar e = true) (es : List Expr) (env : Env) : assignEach (e :: es) env = (false, assign e env) :: assignEach es env := by
  cases e <;> first | rfl | cases h
theorem stars_assign : ∀ {es : List Expr} {env : Env}, es.all notStar = true → (assignEach es env).length = es.length ∧ (assignEach es env).findIdx? (·.1) = none
  | [], _, _ => ⟨rfl, rfl⟩
  | e :: es, env, h => by
    rw [List.all_cons, Bool.and_eq_true] at h
    rw [notStar_assign h.1]
    obtain ⟨h1, h2⟩ := stars_assign (env := env) h.2
    refine ⟨by rw [List.length_cons, List.length_cons, h1], ?_⟩
    rw [List.findIdx?_cons, h2]
    rfl
def notSet : Expr → Bool
  | .Set .. => false
  | _ => true
theorem notSet_fold {e : Expr} (h : notSet e = true) (env : Env) (x : Value) : foldedSetIterable e env x = pure x := by
  cases e <;> first | rfl | cases h
theorem notSet_in {e : Expr} (h : notSet e = true) (op : CmpOp) : behindInMarks op e = false := by
  cases e <;> first | rfl | cases h
def notComp : Expr → Bool
  | .ListComp .. => false
  | .SetComp .. => false
  | .DictComp .. => false
  | _ => true
theorem notComp_swap {e : Expr} (h : notComp e = true) (t : Option Expr) (l : Nat) (env : Env) : swapsWith e t l env = pure false := by
  cases e <;> first | rfl | cases h
def plainTest : Expr → Bool
  | .UnaryOp .Not _ _ => false
  | .BoolOp .. => false
  | .IfExp .. => false
  | .Compare .. => false
  | _ => true
theorem plain_test {e : Expr} (h : plainTest e = true) (env : Env) (w : Sem Value) : isTrue e env w = (do let v ← w; standAt e.pos; holding [v] (truthy v)) := by
  cases e with
  | UnaryOp op x p => cases op <;> first | rfl | cases h
  | _ => first | rfl | cases h
def ixPlain : Expr → Bool
  | .Slice .. => false
  | _ => true
theorem ix_plain {e : Expr} (h : ixPlain e = true) : PlainIx e := by
  intro o i
  cases e <;> first | rfl | cases h
def baseName : Expr → Bool
  | .Name .. => true
  | .Constant .. => true
  | .Subscript .. => true
  | .Attribute .. => true
  | .BinOp .. => true
  | _ => false
theorem base_name {e : Expr} (h : baseName e = true) (m : Str) (env : Env) (w : Sem Value) : attributeBase e m env w = w := by
  cases e <;> first | rfl | cases h

/-! ### operators -/
structure BO (op : Operator) where
  o : Sto → D → D → Option D
  ok : ∀ {X : Cx}, OpS X (binaryOp op) o
def boOf : (op : Operator) → Option (BO op)
  | .Add => some ⟨oAdd, opAdd⟩
  | .Sub => some ⟨oSub, opSub⟩
  | .Mult => some ⟨oMul, opMul⟩
  | .FloorDiv => some ⟨oDiv, opDiv⟩
  | .Mod => some ⟨oMod, opMod⟩
  | .Pow => some ⟨oPow, opPow⟩
  | _ => none
structure PO' (op : CmpOp) where
  o : Sto → D → D → Option D
  ok : ∀ {X : Cx}, X.A.units + 65 < cLine → OpS X (compareOp op) o
def poOf : (op : CmpOp) → PO' op
  | .Eq => ⟨oEq, fun h => opEq (Nat.lt_of_succ_lt h)⟩
  | .NotEq => ⟨oNe, fun h => opNe (Nat.lt_of_succ_lt h)⟩
  | .Lt => ⟨oLt, fun _ => opLt⟩
  | .LtE => ⟨oLe, fun _ => opLe⟩
  | .Gt => ⟨oGt, fun _ => opGt⟩
  | .GtE => ⟨oGe, fun _ => opGe⟩
  | .Is => ⟨oIs, fun _ => opIs⟩
  | .IsNot => ⟨oIsNot, fun _ => opIsNot⟩
  | .In => ⟨oIn, opIn⟩
  | .NotIn => ⟨oNotIn, opNotIn⟩
/-! ### built-in functions by their names -/
structure BF (x : Str) where
  o : Sto → List D → Option D
  mem : x ∈ bltn
  nn : x ≠ "__name__"
  db : (x == ("__debug__" : Str)) = false
  ok : (∃ id, bootBuiltins x = some (.builtin id) ∧ ∀ {X : Cx}, X.calm = true → X.A.units + 65 < cLine → CallS X (.builtin id) o) ∨ ∃ T, bootBuiltins x = some (.type T) ∧ ∀ {X : Cx}, CallS X (.type T) o
def bfOf (x : Str) : Option (BF x) :=
  if h : x = "len" then some ⟨bLen, by subst h; decide +kernel, by subst h; decide +kernel, by subst h; decide +kernel, by subst h; exact .inl ⟨"len", boot_len, fun _ _ => cLen⟩⟩ else
  if h : x = "all" then some ⟨bAll, by subst h; decide +kernel, by subst h; decide +kernel, by subst h; decide +kernel, by subst h; exact .inl ⟨"all", boot_all, fun h _ => cAll h⟩⟩ else
  if h : x = "any" then some ⟨bAny, by subst h; decide +kernel, by subst h; decide +kernel, by subst h; decide +kernel, by subst h; exact .inl ⟨"any", boot_any, fun h _ => cAny h⟩⟩ else
  if h : x = "sum" then some ⟨bSum, by subst h; decide +kernel, by subst h; decide +kernel, by subst h; decide +kernel, by subst h; exact .inl ⟨"sum", boot_sum, fun h _ => cSum h⟩⟩ else
  if h : x = "max" then some ⟨bMax, by subst h; decide +kernel, by subst h; decide +kernel, by subst h; decide +kernel, by subst h; exact .inl ⟨"max", boot_max, fun h _ => cMax h⟩⟩ else
  if h : x = "min" then some ⟨bMin, by subst h; decide +kernel, by subst h; decide +kernel, by subst h; decide +kernel, by subst h; exact .inl ⟨"min", boot_min, fun h h2 => cMin h h2⟩⟩ else
  if h : x = "sorted" then some ⟨bSorted, by subst h; decide +kernel, by subst h; decide +kernel, by subst h; decide +kernel, by subst h; exact .inl ⟨"sorted", boot_sorted, fun _ h => cSorted h⟩⟩ else
  if h : x = "tuple" then some ⟨bTuple, by subst h; decide +kernel, by subst h; decide +kernel, by subst h; decide +kernel, by subst h; exact .inr ⟨"tuple", boot_tuple, cTuple⟩⟩ else
  if h : x = "list" then some ⟨bList, by subst h; decide +kernel, by subst h; decide +kernel, by subst h; decide +kernel, by subst h; exact .inr ⟨"list", boot_list, cList⟩⟩ else
  if h : x = "int" then some ⟨bInt, by subst h; decide +kernel, by subst h; decide +kernel, by subst h; decide +kernel, by subst h; exact .inr ⟨"int", boot_int, cInt⟩⟩ else
  if h : x = "str" then some ⟨bStr, by subst h; decide +kernel, by subst h; decide +kernel, by subst h; decide +kernel, by subst h; exact .inr ⟨"str", boot_str, cStr⟩⟩ else
  if h : x = "bool" then some ⟨bBool, by subst h; decide +kernel, by subst h; decide +kernel, by subst h; decide +kernel, by subst h; exact .inr ⟨"bool", boot_bool, cBool⟩⟩ else
  none

theorem BF.run {x : Str} (b : BF x) {Γ : Ctx} {X : Cx} {W : WX} (h : Cpt Γ X W) (hh : Γ.hot = none) {e : Expr} {es : List Expr} {g : Ea} {p pos : Pos} (hx : Γ.sc.names.lookup x = some .globalImplicit) (hs : (e :: es).all notStar = true) (ha : PA X (e :: es) (tA X.K W g)) : PE X (.Call (.Name x p) (e :: es) [] pos) (tE X.K W (evB b.o g)) := by
  rw [List.all_cons, Bool.and_eq_true] at hs
  rcases b.ok with ⟨id, h1, h2⟩ | ⟨T, h1, h2⟩
  · exact e_callB (h2 (h.calm hh) h.un) (h.gl hx) (h.blt x b.mem) h1 ha b.nn b.db (notStar_each hs.1 _ _) (stars_plain hs.2)
  · exact e_callTy h2 (h.gl hx) (h.blt x b.mem) h1 ha b.nn b.db (notStar_each hs.1 _ _) (stars_plain hs.2)
def tyOf (y : Str) : Option { T : Ty // bootBuiltins y = some (.type T.name) ∧ y ∈ bltn ∧ y ≠ "__name__" ∧ (y == ("__debug__" : Str)) = false } :=
  if h : y = "int" then some ⟨.int, by subst h; exact ⟨boot_int, by decide +kernel, by decide +kernel, by decide +kernel⟩⟩ else
  if h : y = "bool" then some ⟨.bool, by subst h; exact ⟨boot_bool, by decide +kernel, by decide +kernel, by decide +kernel⟩⟩ else
  if h : y = "tuple" then some ⟨.tuple, by subst h; exact ⟨boot_tuple, by decide +kernel, by decide +kernel, by decide +kernel⟩⟩ else
  if h : y = "list" then some ⟨.list, by subst h; exact ⟨boot_list, by decide +kernel, by decide +kernel, by decide +kernel⟩⟩ else
  if h : y = "str" then some ⟨.str, by subst h; exact ⟨boot_str, by decide +kernel, by decide +kernel, by decide +kernel⟩⟩ else
  none
theorem mem_bltn {x y : Str} (h : y = x) (m : x ∈ bltn) : y ∈ bltn := h ▸ m
theorem m_isinst : ("isinstance" : Str) ∈ bltn := by decide +kernel
theorem m_range : ("range" : Str) ∈ bltn := by decide +kernel
theorem m_enumerate : ("enumerate" : Str) ∈ bltn := by decide +kernel
theorem m_zip : ("zip" : Str) ∈ bltn := by decide +kernel
theorem m_list : ("list" : Str) ∈ bltn := by decide +kernel
theorem m_tuple : ("tuple" : Str) ∈ bltn := by decide +kernel

/-! ### the reader: one level, over readings of the parts -/
section
variable (c : Cs) (Γ : Ctx)
def cA : (es : List Expr) → Option (CA Γ es)
  | [] => some ⟨eaNil, fun _ => a_nil⟩
  | e :: es => match c.e Γ e, cA es with
    | some x, some r => if h : notStar e = true then some ⟨eaCons x.f r.f, fun k => a_cons (x.ok k) (r.ok k) (notStar_each h _ _)⟩ else none
    | _, _ => none
def cAnd (pos : Pos) : (es : List Expr) → Option (CE Γ (.BoolOp .And es pos))
  | [] => none
  | a :: es => match c.e Γ a with
    | none => none
    | some x => match es with
      | [] => some ⟨x.f, fun k => e_one (x.ok k)⟩
      | b :: rest => match cAnd pos (b :: rest) with
        | some r => some ⟨evAnd x.f r.f, fun k => e_and (x.ok k) (r.ok k)⟩
        | none => none
def cOr (pos : Pos) : (es : List Expr) → Option (CE Γ (.BoolOp .Or es pos))
  | [] => none
  | a :: es => match c.e Γ a with
    | none => none
    | some x => match es with
      | [] => some ⟨x.f, fun k => e_one (x.ok k)⟩
      | b :: rest => match cOr pos (b :: rest) with
        | some r => some ⟨evOr x.f r.f, fun k => e_or (x.ok k) (r.ok k)⟩
        | none => none
def cTAnd (pos : Pos) : (es : List Expr) → Option (CTw Γ (.BoolOp .And es pos))
  | [] => none
  | a :: es => match c.t Γ a with
    | none => none
    | some x => match es with
      | [] => some ⟨x.f, fun k => t_and1 (x.ok k)⟩
      | b :: rest => match cTAnd pos (b :: rest) with
        | some r => some ⟨ebAnd x.f r.f, fun k => t_and (x.ok k) (r.ok k)⟩
        | none => none
def cTOr (pos : Pos) : (es : List Expr) → Option (CTw Γ (.BoolOp .Or es pos))
  | [] => none
  | a :: es => match c.t Γ a with
    | none => none
    | some x => match es with
      | [] => some ⟨x.f, fun k => t_or1 (x.ok k)⟩
      | b :: rest => match cTOr pos (b :: rest) with
        | some r => some ⟨ebOr x.f r.f, fun k => t_or (x.ok k) (r.ok k)⟩
        | none => none
instance (sc : Scope) (x : Str) : Decidable (Vis sc x) := by unfold Vis; infer_instance
instance (sc : Scope) (x : Str) : Decidable (L2.Loc sc x) := by unfold L2.Loc; infer_instance
def fnFind (x : Str) : Option (Nat × Nat × Fn) := (Γ.fns.find? fun q => q.1 == x).map (·.2)
theorem fnFind_mem {x : Str} {q : Nat × Nat × Fn} (h : fnFind Γ x = some q) : (x, q) ∈ Γ.fns := by
  unfold fnFind at h
  obtain ⟨p, h1, rfl⟩ := Option.map_eq_some_iff.mp h
  have h2 := List.find?_some h1
  have h3 := List.mem_of_find?_eq_some h1
  have e : p.1 = x := eq_of_beq h2
  rw [← e]
  exact h3
def cName (x : Str) (pos : Pos) : Option (CE Γ (.Name x pos)) :=
  if hd : (x == ("__debug__" : Str)) = false then
    if hc : (x == ("__classdict__" : Str)) = false then
      if hv : Vis Γ.sc x then
        match Γ.N.idxOf? x with
        | some i => if hi : Γ.N[i]? = some x then some ⟨evVar i, fun k => e_var (k.ix hi) (k.vis hv) hd hc⟩ else none
        | none => none
      else if hg : Γ.sc.names.lookup x = some .globalImplicit then
        match Γ.gis.find? fun q => q.1 == x with
        | some q => if hq : q ∈ Γ.gis ∧ q.1 = x then some ⟨evC (.int q.2), fun k => e_gint (k.gl hg) (hq.2 ▸ k.gis q hq.1) hd⟩ else none
        | none => match hf : fnFind Γ x with
          | some q => some ⟨evC (.glo x), fun k => e_glo (k.gl hg) (k.fns _ (fnFind_mem Γ hf)).2.1 hd⟩
          | none => match Γ.gts.find? fun q => q.1 == x with
            | some q => if hq : q ∈ Γ.gts ∧ q.1 = x then some ⟨evC (.tup (q.2.map .str)), fun k => by
                obtain ⟨h1, h2⟩ := k.gts q hq.1
                rw [hq.2] at h1 h2
                exact e_gtup h1 (k.gl hg) h2 hd⟩ else none
            | none => none
      else none
    else none
  else none
def cSl : (lo : Option Expr) → Option (CO Γ lo)
  | none => some ⟨eoNone, fun _ => o_none⟩
  | some e => match c.e Γ e with
    | some x => some ⟨eoSome x.f, fun k => o_some (x.ok k)⟩
    | none => none
/-- isinstance(e, C) of the error that is handled -/
def cIsErr (x : Str) (p : Pos) (e : Expr) (y : Str) (p3 : Pos) (pos : Pos) : Option (CE Γ (.Call (.Name x p) [e, .Name y p3] [] pos)) := match e with
  | .Name z pz => match hq : Γ.hot, Γ.N.idxOf? z with
    | some q, some i => if h : x = "isinstance" ∧ Γ.sc.names.lookup x = some .globalImplicit ∧ Γ.N[i]? = some z ∧ Vis Γ.sc z ∧ (z == ("__debug__" : Str)) = false ∧ (z == ("__classdict__" : Str)) = false ∧ y ∈ errs ∧ y ∈ Γ.clss ∧ Γ.sc.names.lookup y = some .globalImplicit ∧ (y == ("__debug__" : Str)) = false then
        some ⟨evErr i q.1 (.bl (decide (q.2 = y))), fun k => by
          obtain ⟨h1, h2, h3, h4, h5, h6, h7, h8, h9, h10⟩ := h
          subst h1
          have C := k.caught q hq
          exact e_isErr C (k.gl h2) (k.blt _ m_isinst) (k.ix h3) (k.vis h4) h5 h6 (pe_glob (k.gl h9) (k.clss y h8) (v := .ref (He.ga _ y)) rfl h10) (.ref (He.ga _ y)) (fun u r => r) (C.ok.kits y h7)⟩ else none
    | _, _ => none
  | _ => none
def cCall (x : Str) (p : Pos) (es : List Expr) (pos : Pos) : Option (CE Γ (.Call (.Name x p) es [] pos)) :=
  if hh : Γ.hot = none then
  if hd : (x == ("__debug__" : Str)) = false then
    if hg : Γ.sc.names.lookup x = some .globalImplicit then
      match hf : fnFind Γ x with
      | some q => match es with
        | [] => some ⟨evCall q.1 q.2.2 eaNil, fun k => e_call0 ((k.fns _ (fnFind_mem Γ hf)).1 _ .rfl') ((k.room hh).mono (k.fns _ (fnFind_mem Γ hf)).2.2) (k.gl hg) hd k.tk⟩
        | e :: es => match cA c Γ (e :: es) with
          | some g => if hs : (e :: es).all notStar = true then some ⟨evCall q.1 q.2.2 g.f, fun k => by
              have hs' := hs
              rw [List.all_cons, Bool.and_eq_true] at hs'
              exact e_call ((k.fns _ (fnFind_mem Γ hf)).1 _ .rfl') ((k.room hh).mono (k.fns _ (fnFind_mem Γ hf)).2.2) (k.gl hg) hd k.tk (g.ok k) (notStar_each hs'.1 _ _) (stars_plain hs'.2)⟩ else none
          | none => none
      | none => match es with
        | [a, .Name y p3] => if hi : x = "isinstance" then (match tyOf y, c.e Γ a with
          | some T, some f => if hy : notStar a = true ∧ Γ.sc.names.lookup y = some .globalImplicit then some ⟨evIs T.1 f.f, fun k => by
              subst hi
              exact e_isinst (k.gl hg) (k.blt _ m_isinst) (f.ok k) (k.gl hy.2) (k.blt _ T.2.2.1) T.2.1 T.2.2.2.1 T.2.2.2.2 (notStar_each hy.1 _ _)⟩ else none
          | _, _ => none) else (match bfOf x, cA c Γ [a, .Name y p3] with
            | some b, some g => if hs : [a, .Name y p3].all notStar = true then some ⟨evB b.o g.f, fun k => b.run k hh hg hs (g.ok k)⟩ else none
            | _, _ => none)
        | e :: es => match bfOf x, cA c Γ (e :: es) with
          | some b, some g => if hs : (e :: es).all notStar = true then some ⟨evB b.o g.f, fun k => b.run k hh hg hs (g.ok k)⟩ else none
          | _, _ => none
        | [] => none
    else none
  else none
  else match es with
    | [a, .Name y p3] => cIsErr Γ x p a y p3 pos
    | _ => none
/-- x(es), x a name of the def's -/
noncomputable def cCallV (x : Str) (p : Pos) (es : List Expr) (pos : Pos) : Option (CE Γ (.Call (.Name x p) es [] pos)) := match Γ.N.idxOf? x with
  | none => none
  | some i => if h : Γ.hot = none ∧ Γ.N[i]? = some x ∧ Vis Γ.sc x ∧ (x == ("__debug__" : Str)) = false ∧ (x == ("__classdict__" : Str)) = false then (match es with
    | [] => some ⟨evCallV i Γ.cals Γ.fns eaNil, fun k => e_callV0 (k.ix h.2.1) (k.vis h.2.2.1) h.2.2.2.1 h.2.2.2.2 k.tk (fun c hc => ⟨(k.cals c hc).1, (k.cals c hc).2.1, (k.room h.1).mono (k.cals c hc).2.2⟩) (fun q hq => ⟨(k.fns q hq).1, (k.fns q hq).2.1, (k.room h.1).mono (k.fns q hq).2.2⟩)⟩
    | e :: es => match cA c Γ (e :: es) with
      | some g => if hs : (e :: es).all notStar = true then some ⟨evCallV i Γ.cals Γ.fns g.f, fun k => by
          have hs' := hs
          rw [List.all_cons, Bool.and_eq_true] at hs'
          exact e_callV (k.ix h.2.1) (k.vis h.2.2.1) h.2.2.2.1 h.2.2.2.2 k.tk (fun c hc => ⟨(k.cals c hc).1, (k.cals c hc).2.1, (k.room h.1).mono (k.cals c hc).2.2⟩) (fun q hq => ⟨(k.fns q hq).1, (k.fns q hq).2.1, (k.room h.1).mono (k.fns q hq).2.2⟩) (g.ok k) (notStar_each hs'.1 _ _) (stars_plain hs'.2)⟩ else none
      | none => none) else none
def hoFind (x : Str) : Option Ho := Γ.hos.find? fun q => q.x == x
theorem hoFind_mem {x : Str} {q : Ho} (h : hoFind Γ x = some q) : q ∈ Γ.hos ∧ q.x = x := by
  unfold hoFind at h
  have h2 := List.find?_some h
  exact ⟨List.mem_of_find?_eq_some h, eq_of_beq h2⟩
def psOf : List Arg → List Str
  | [] => []
  | a :: as => a.arg :: psOf as
def lamArgs : List Arg → Bool
  | [] => true
  | [a] => decide (a.arg = "odd") || decide (a.arg = "inner")
  | _ => false
theorem lam_bind {as : List Arg} (hs : lamArgs as = true) {body : Expr} {scope : Scope} (q : Str) (cl : List (Str × Addr)) (pm cv ctv : Value) (us : List Value) (hl : us.length = (psOf as).length) :
    bindArgs (PySem.W.kla_fn "<lambda>" q ⟨[], as, none, [], [], none, []⟩ body scope cl pm cv ctv) ⟨us, []⟩ = pure ((psOf as).zip us) := by
  match as, hs with
  | [], _ => match us, hl with
    | [], _ => rfl
  | [⟨n, an, po⟩], hs =>
    have hs : (decide (n = "odd") || decide (n = "inner")) = true := hs
    rw [Bool.or_eq_true, decide_eq_true_eq, decide_eq_true_eq] at hs
    rcases hs with rfl | rfl
    · match us, hl with
      | [u], _ => rfl
    · match us, hl with
      | [u], _ => rfl
  | _ :: _ :: _, hs => cases hs
/-- x(lambda ..: body, es), x(g, es), x a def that calls its first value -/
def cHo (x : Str) (p : Pos) (es : List Expr) (pos : Pos) : Option (CE Γ (.Call (.Name x p) es [] pos)) := match hf : hoFind Γ x with
  | none => none
  | some q => if h : Γ.hot = none ∧ Γ.sc.names.lookup x = some .globalImplicit ∧ (x == ("__debug__" : Str)) = false then (match es with
    | .Lambda ⟨[], as, none, [], [], none, []⟩ body scope lpos :: es => match cA c Γ es, c.e (Γ.lam (psOf as ++ (scope.names.filter fun y => decide (y.2 = .free)).map (·.1)) scope q.cl) body with
      | some g, some fb => if hs : es.all notStar = true ∧ Γ.mkr = true ∧ lamArgs as = true ∧ q.cn = (psOf as).length ∧ NdefX.nscB (psOf as ++ (scope.names.filter fun y => decide (y.2 = .free)).map (·.1)) (psOf as) ((scope.names.filter fun y => decide (y.2 = .free)).map (·.1)) scope = true ∧ NdefX.ndefB Γ.sc scope ((scope.names.filter fun y => decide (y.2 = .free)).map (·.1)) = true ∧
            (((scope.names.filter fun y => decide (y.2 = .free)).map (·.1)).map fun y => (Γ.N.idxOf? y).getD 0).map (fun j => Γ.N[j]?) = ((scope.names.filter fun y => decide (y.2 = .free)).map (·.1)).map some then
          some ⟨evLam q.F fb.f (psOf as ++ (scope.names.filter fun y => decide (y.2 = .free)).map (·.1)) (((scope.names.filter fun y => decide (y.2 = .free)).map (·.1)).map fun y => (Γ.N.idxOf? y).getD 0) q.n g.f, fun {X W} k => by
            obtain ⟨s1, s2, s3, s4, s5, s6, s7⟩ := hs
            obtain ⟨m1, m2⟩ := hoFind_mem Γ hf
            obtain ⟨HF, hl⟩ := k.hos q m1
            rw [m2, s4] at HF
            have S := NdefX.nscope_by s5
            exact e_lamcall HF ((k.room h.1).mono hl) (k.gl h.2.1) h.2.2 k.tk (g.ok k) (fun env => stars_plain s1) (k.maker s2) rfl (by rw [k.sc]; exact NdefX.ndef_free s6) S (NdefX.ndef_fr s6) (by rw [k.N]; exact s7) (lam_bind s3) fun c' f base' A outer s H E wid _ hr => fb.ok (k.lam S wid hr)⟩ else none
      | _, _ => none
    | .Name g gp :: es => match hg : fnFind Γ g, cA c Γ es with
      | some r, some ga => if hs : es.all notStar = true ∧ q.cn = r.1 ∧ r.2.1 ≤ q.cl + 1 ∧ Γ.sc.names.lookup g = some .globalImplicit ∧ (g == ("__debug__" : Str)) = false then
          some ⟨evHo q.F r.2.2 q.n ga.f, fun {X W} k => by
            obtain ⟨s1, s2, s3, s4, s5⟩ := hs
            obtain ⟨m1, m2⟩ := hoFind_mem Γ hf
            obtain ⟨HF, hl⟩ := k.hos q m1
            rw [m2, s2] at HF
            have G := k.fns _ (fnFind_mem Γ hg)
            exact e_hocall HF ((k.room h.1).mono hl) (k.gl h.2.1) h.2.2 k.tk (ga.ok k) (fun env => stars_plain s1) G.1 s3 (k.gl s4) G.2.1 s5⟩ else none
      | _, _ => none
    | _ => none) else none
/-- list(range(n)) -/
def cListRg (x : Str) (q1 : Pos) (y : Str) (p2 : Pos) (a : Expr) (p q2 : Pos) : Option (CN Γ (.Call (.Name x q1) [.Call (.Name y p2) [a] [] p] [] q2)) :=
  if hh : Γ.hot = none then if h : x = "list" ∧ y = "range" ∧ notStar a = true ∧ Γ.sc.names.lookup x = some .globalImplicit ∧ Γ.sc.names.lookup y = some .globalImplicit then
    match c.e Γ a with
    | some f => some ⟨rg1' f.f, fun k => by
        obtain ⟨h1, h2, h3, h4, h5⟩ := h
        subst h1 h2
        exact n_listRg (k.calm hh) (k.gl h4) (k.blt _ m_list) (k.gl h5) (k.blt _ m_range) (f.ok k) (notStar_each h3 _ _) rfl⟩
    | none => none
  else none else none
def cTupRg (x : Str) (q1 : Pos) (y : Str) (p2 : Pos) (a : Expr) (p q2 : Pos) : Option (CE Γ (.Call (.Name x q1) [.Call (.Name y p2) [a] [] p] [] q2)) :=
  if hh : Γ.hot = none then if h : x = "tuple" ∧ y = "range" ∧ notStar a = true ∧ Γ.sc.names.lookup x = some .globalImplicit ∧ Γ.sc.names.lookup y = some .globalImplicit then
    match c.e Γ a with
    | some f => some ⟨evT (rg1' f.f), fun k => by
        obtain ⟨h1, h2, h3, h4, h5⟩ := h
        subst h1 h2
        exact e_tupRg (k.calm hh) (k.gl h4) (k.blt _ m_tuple) (k.gl h5) (k.blt _ m_range) (f.ok k) (notStar_each h3 _ _) rfl⟩
    | none => none
  else none else none
def cSS (x : Str) (p : Pos) (y : Str) (p2 : Pos) (a : Expr) (p3 pos : Pos) : Option (CE Γ (.Call (.Name x p) [.Call (.Name y p2) [a] [] p3] [] pos)) :=
  if hh : Γ.hot = none then if h : x = "sorted" ∧ y = "set" ∧ notStar a = true ∧ Γ.sc.names.lookup x = some .globalImplicit ∧ Γ.sc.names.lookup y = some .globalImplicit then match c.e Γ a with
    | some f => some ⟨evSS f.f, fun k => by
        obtain ⟨h1, h2, h3, h4, h5⟩ := h
        subst h1 h2
        exact e_sortSet (k.calm hh) (k.gl h4) (k.blt _ (by decide +kernel)) (k.gl h5) (k.blt _ (by decide +kernel)) (f.ok k) (notStar_each h3 _ _)⟩
    | none => none
  else none else none
noncomputable def cCallA (x : Str) (p : Pos) (es : List Expr) (pos : Pos) : Option (CE Γ (.Call (.Name x p) es [] pos)) := match cHo c Γ x p es pos with
  | some r => some r
  | none => if Γ.sc.names.lookup x = some .globalImplicit then cCall c Γ x p es pos else cCallV c Γ x p es pos
noncomputable def cCallE (x : Str) (p : Pos) (es : List Expr) (pos : Pos) : Option (CE Γ (.Call (.Name x p) es [] pos)) := match es with
  | [.Call (.Name y p2) [a] [] p3] => match cListRg c Γ x p y p2 a p3 pos with
    | some r => some ⟨evL r.f, fun k => e_ofN (r.ok k)⟩
    | none => match cTupRg c Γ x p y p2 a p3 pos with
      | some r => some r
      | none => match cSS c Γ x p y p2 a p3 pos with
       | some r => some r
       | none => cCallA c Γ x p [.Call (.Name y p2) [a] [] p3] pos
  | es => cCallA c Γ x p es pos
/-- t.index(e), t a tuple of texts of the module -/
def cIxG (o : Expr) (m : Str) (apos : Pos) (es : List Expr) (cpos : Pos) : Option (CE Γ (.Call (.Attribute o m apos) es [] cpos)) := match o, es with
  | .Name x p, [e] => match Γ.gts.find? fun q => q.1 == x with
    | some q => match cA c Γ [e] with
      | some g => if h : (q ∈ Γ.gts ∧ q.1 = x) ∧ m = "index" ∧ (apos.endLine == cpos.line) = true ∧ notStar e = true ∧ baseName (.Name x p) = true ∧ Γ.sc.names.lookup x = some .globalImplicit ∧ (x == ("__debug__" : Str)) = false then some ⟨evIxG q.2 g.f, fun k => by
          obtain ⟨⟨h0, h1⟩, h2, h3, h4, h5, h6, h7⟩ := h
          subst h2
          obtain ⟨g1, g2⟩ := k.gts q h0
          rw [h1] at g1 g2
          exact e_idxG g1 (k.gl h6) g2 h7 (g.ok k) (base_name h5 _ _ _) h3 (notStar_each h4 _ _)⟩ else none
      | none => none
    | none => none
  | _, _ => none
def cMethS (o : Expr) (m : Str) (apos : Pos) (es : List Expr) (cpos : Pos) : Option (CE Γ (.Call (.Attribute o m apos) es [] cpos)) := match es with
  | [e] => match c.e Γ o, c.e Γ e with
    | some fo, some fe => if h : baseName o = true ∧ (apos.endLine == cpos.line) = true ∧ notStar e = true then
        if hm : m = "split" then some ⟨evM1 kSplit fo.f fe.f, fun k => by subst hm; exact e_split (fo.ok k) (fe.ok k) (notStar_each h.2.2 _ _) (base_name h.1 _ _ _) h.2.1⟩ else
        if hm : m = "join" then some ⟨evM1 kJoin fo.f fe.f, fun k => by subst hm; exact e_join (fo.ok k) (fe.ok k) (notStar_each h.2.2 _ _) (base_name h.1 _ _ _) h.2.1⟩ else
        none
      else none
    | _, _ => none
  | _ => none
def cMeth (o : Expr) (m : Str) (apos : Pos) (es : List Expr) (cpos : Pos) : Option (CE Γ (.Call (.Attribute o m apos) es [] cpos)) := match cMethS c Γ o m apos es cpos with
  | some r => some r
  | none => match cIxG c Γ o m apos es cpos with
  | some r => some r
  | none => match es with
  | [e] => match c.e Γ o, cA c Γ [e] with
    | some fo, some g => if h : baseName o = true ∧ (apos.endLine == cpos.line) = true ∧ notStar e = true then
        if hm : m = "append" then some ⟨evMR mApp fo.f g.f, fun k => by subst hm; exact e_app (fo.ok k) (g.ok k) (base_name h.1 _ _ _) h.2.1 (notStar_each h.2.2 _ _)⟩ else
        if hm : m = "pop" then some ⟨evMR mPop fo.f g.f, fun k => by subst hm; exact e_pop (fo.ok k) (g.ok k) (base_name h.1 _ _ _) h.2.1 (notStar_each h.2.2 _ _)⟩ else
        if hm : m = "index" then some ⟨evML mIdx fo.f g.f, fun k => by subst hm; exact e_idx k.un (fo.ok k) (g.ok k) (base_name h.1 _ _ _) h.2.1 (notStar_each h.2.2 _ _)⟩ else
        none
      else none
    | _, _ => none
  | _ => none
/-- a block's own names, with their places -/
def ownOf (scope : Scope) : List (Str × Nat) := (Γ.N.zipIdx).filter fun p => decide (scope.names.lookup p.1 = some .local) || decide (scope.names.lookup p.1 = some .cell)
def cQ (Γ : Ctx) : (ifs : List Expr) → Option (CQ Γ ifs)
  | [] => some ⟨ebYes, fun _ => q_nil⟩
  | [a] => match c.t Γ a with
    | some x => some ⟨x.f, fun k => q_one (x.ok k)⟩
    | none => none
  | _ => none
theorem parts_of {Γ : Ctx} {X : Cx} {W : WX} (k : Cpt Γ X W) {scope : Scope} {own : List (Str × Nat)} {tg elt : Expr} {ifs : List Expr} (g : CG (Γ.blk scope) tg) (t : CQ (Γ.blk scope) ifs) (f : CE (Γ.blk scope) elt) (ok : BlkOk X.N X.env.scope scope own) :
    Parts X scope tg elt ifs (tG X.K g.ts g.f) (tT X.K WF t.f) (tE X.K WF f.f) := ⟨fun s H C cl fp pn st => ⟨g.ok (k.blkP ok st), t.ok (k.blkP ok st), f.ok (k.blkP ok st)⟩⟩
theorem calm_blk {Γ : Ctx} {X : Cx} {W : WX} (k : Cpt Γ X W) (hh : Γ.hot = none) {scope : Scope} : ∀ s H C cl fp pn, Starts X scope s C cl pn → Calm (blkP X s H scope (compEnvC scope cl C X.env) fp pn) := fun _ _ _ _ _ _ _ => k.calm hh
theorem hot_blk {Γ : Ctx} {X : Cx} {W : WX} (k : Cpt Γ X W) {q : Addr × Str} (hh : Γ.hot = some q) {scope : Scope} : ∀ s H C cl fp pn, Starts X scope s C cl pn → HotC (blkP X s H scope (compEnvC scope cl C X.env) fp pn) := fun s H C cl fp pn st => by
  obtain ⟨p, p1, p2⟩ := (k.caught q hh).hot
  obtain ⟨pins, _, _, _, e⟩ := st.at_
  exact ⟨p, p1, by show p ∈ pn; rw [e]; exact List.mem_append_left _ p2⟩
def cZipH (tg : Expr) : (e : Expr) → Option { f : Ea // ∀ {X : Cx} {W : WX}, Cpt Γ X W → PIo HotC X tg e (tI X.K W f) }
  | .Call (.Name x p) [a, b] [] pos => if h : x = "zip" ∧ notStar a = true ∧ notStar b = true ∧ Γ.sc.names.lookup x = some .globalImplicit then (match tg with
      | .Tuple elts kk tpos => (match cA c Γ [a, b] with
        | some g => some ⟨itZipH g.f, fun k => by
            obtain ⟨h1, h2, h2', h3⟩ := h
            subst h1
            exact i_zipH (k.gl h3) (k.blt _ m_zip) (g.ok k) (notStar_each h2 _ _) (stars_plain (by rw [List.all_cons, h2']; rfl))⟩
        | none => none)
      | _ => none) else none
  | _ => none
def cLc (elt : Expr) (gs : List Comprehension) (scope : Scope) (pos : Pos) : Option (CE Γ (.ListComp elt gs scope pos)) := match gs with
  | [⟨tg, iter, ifs, 0⟩] => if hb : blkC Γ.N Γ.sc scope (ownOf Γ scope) = true ∧ notSet iter = true then
      match c.g (Γ.blk scope) tg, cQ c (Γ.blk scope) ifs, c.e (Γ.blk scope) elt with
      | some g, some t, some f => if ho : ∀ i ∈ g.ts, i ∈ (ownOf Γ scope).map (·.2) then
          if hh : Γ.hot = none then (match c.i Γ tg iter with
            | some it => some ⟨evLc ((ownOf Γ scope).map (·.2)) it.f g.f t.f f.f, fun {X W} k =>
                have ok : BlkOk X.N X.env.scope scope (ownOf Γ scope) := by rw [k.N, k.sc]; exact blkOk_by hb.1
                e_comp (calm_blk k hh) k.ndX (.calm (it.ok k)) ok (parts_of k g t f ok) (fun x => notSet_fold hb.2 _ x) ho⟩
            | none => none)
          else (match cZipH c Γ tg iter with
            | some it => some ⟨evLc ((ownOf Γ scope).map (·.2)) it.1 g.f t.f f.f, fun {X W} k =>
                have ok : BlkOk X.N X.env.scope scope (ownOf Γ scope) := by rw [k.N, k.sc]; exact blkOk_by hb.1
                match hq : Γ.hot, hh with
                | some q, _ => e_comp (hot_blk k hq) k.ndX (it.2 k) ok (parts_of k g t f ok) (fun x => notSet_fold hb.2 _ x) ho⟩
            | none => none)
          else none
      | _, _, _ => none
    else none
  | [⟨tg, iter, ifs, 0⟩, ⟨tg1, iter1, ifs1, 0⟩] => if hb : blkC Γ.N Γ.sc scope (ownOf Γ scope) = true ∧ notSet iter = true ∧ notSet iter1 = true ∧ Γ.hot = none then
      match c.i Γ tg iter, c.g (Γ.blk0 scope) tg, cQ c (Γ.blk0 scope) ifs, c.i (Γ.blk0 scope) tg1 iter1, c.g (Γ.blk0 scope) tg1, cQ c (Γ.blk0 scope) ifs1, c.e (Γ.blk0 scope) elt with
      | some it, some g, some t, some it1, some g1, some t1, some f => if ho : (∀ i ∈ g.ts, i ∈ (ownOf Γ scope).map (·.2)) ∧ (∀ i ∈ g1.ts, i ∈ (ownOf Γ scope).map (·.2)) then
          some ⟨evLc2 ((ownOf Γ scope).map (·.2)) g1.ts it.f g.f t.f it1.f g1.f t1.f f.f, fun {X W} k => e_lc2 (k.calm hb.2.2.2) k.ndX (it.ok k) (by rw [k.N, k.sc]; exact blkOk_by hb.1) ho.2 (fun s H C cl fp => g.ok (k.blk0 hb.2.2.2)) (fun s H C cl fp => t.ok (k.blk0 hb.2.2.2)) (fun s H C cl fp => it1.ok (k.blk0 hb.2.2.2)) (fun s H C cl fp => g1.ok (k.blk0 hb.2.2.2)) (fun s H C cl fp => t1.ok (k.blk0 hb.2.2.2)) (fun s H C cl fp => f.ok (k.blk0 hb.2.2.2))
            (fun x => notSet_fold hb.2.1 _ x) (fun env x => notSet_fold hb.2.2.1 _ x) ho.1 fun _ h => h⟩ else none
      | _, _, _, _, _, _, _ => none
    else none
  | _ => none
noncomputable def stepE : (e : Expr) → Option (CE Γ e)
  | .Name x pos => cName Γ x pos
  | .Constant (.int i) j pos => some ⟨evC (.int i), fun _ => e_int⟩
  | .Constant (.bool i) j pos => some ⟨evC (.bl i), fun _ => e_bl⟩
  | .Constant .none j pos => some ⟨evC .non, fun _ => e_non⟩
  | .Constant (.str x) j pos => some ⟨evC (.str x), fun _ => e_str⟩
  | .BinOp a op b pos => match c.e Γ a, c.e Γ b, boOf op with
    | some x, some y, some o => some ⟨evOp o.o x.f y.f, fun k => e_op o.ok (x.ok k) (y.ok k)⟩
    | _, _, _ => none
  | .UnaryOp .Not a pos => match c.e Γ a with
    | some x => some ⟨evNot x.f, fun k => e_not (x.ok k)⟩
    | none => none
  | .UnaryOp .USub a pos => match c.e Γ a with
    | some x => some ⟨evNeg x.f, fun k => e_neg (x.ok k)⟩
    | none => none
  | .BoolOp .And es pos => cAnd c Γ pos es
  | .BoolOp .Or es pos => cOr c Γ pos es
  | .IfExp t a b pos => match c.t Γ t, c.e Γ a, c.e Γ b with
    | some x, some y, some z => some ⟨evIf x.f y.f z.f, fun k => e_if (x.ok k) (y.ok k) (z.ok k)⟩
    | _, _, _ => none
  | .Compare a [op] [b] pos => match c.e Γ a, c.e Γ b with
    | some x, some y => if h : notSet b = true then some ⟨evOp (poOf op).o x.f y.f, fun k => e_cmp ((poOf op).ok k.un) (x.ok k) (y.ok k) (notSet_in h _)⟩ else none
    | _, _ => none
  | .Compare a [op, op'] [b, d] pos => match c.e Γ a, c.e Γ b, c.e Γ d with
    | some x, some y, some z => if h : notSet d = true then some ⟨evChain (poOf op).o (poOf op').o x.f y.f z.f, fun k => e_chain ((poOf op).ok k.un) ((poOf op').ok k.un) (x.ok k) (y.ok k) (z.ok k) (notSet_in h _)⟩ else none
    | _, _, _ => none
  | .Tuple es k pos => match cA c Γ es with
    | some g => some ⟨evTup g.f, fun h => e_tup (g.ok h)⟩
    | none => none
  | .List es pos => match cA c Γ es with
    | some g => some ⟨evL (elDisp g.f), fun h => e_ofN (n_disp (g.ok h))⟩
    | none => none
  | .Subscript a (.Slice none none (some (.UnaryOp .USub (.Constant (.int 1) k p1) p2)) p3) pos => match c.e Γ a with
    | some x => some ⟨evRevL x.f, fun h => e_revL (x.ok h)⟩
    | none => none
  | .Subscript a (.Slice lo hi none p2) pos => match c.e Γ a, cSl c Γ lo, cSl c Γ hi with
    | some x, some l, some h => some ⟨evSl x.f l.f h.f, fun k => e_slice (x.ok k) (l.ok k) (h.ok k)⟩
    | _, _, _ => none
  | .Subscript a b pos => match c.e Γ a, c.e Γ b with
    | some x, some y => if h : ixPlain b = true then some ⟨evOp oIx x.f y.f, fun k => e_ix (x.ok k) (y.ok k) (ix_plain h)⟩ else none
    | _, _ => none
  | .ListComp elt gs scope pos => cLc c Γ elt gs scope pos
  | .JoinedStr [.Constant (.str x) u cp, .FormattedValue e (-1) none fp] pos => match c.e Γ e with
    | some f => some ⟨evFs x f.f, fun k => e_fs (f.ok k)⟩
    | none => none
  | .Call (.Name x p) es [] pos => cCallE c Γ x p es pos
  | .Call (.Attribute o m apos) es [] pos => cMeth c Γ o m apos es pos
  | _ => none
def stepT : (e : Expr) → Option (CT Γ e)
  | .Compare a [op] [b] pos => match c.e Γ a, c.e Γ b with
    | some x, some y => if h : notSet b = true then some ⟨ebOf (evOp (poOf op).o x.f y.f), fun k => t_cmp ((poOf op).ok k.un) (x.ok k) (y.ok k) (notSet_in h _)⟩ else none
    | _, _ => none
  | .BoolOp .And es pos => match cTAnd c Γ pos es with
    | some x => some ⟨x.f, fun k => (x.ok k).pt⟩
    | none => none
  | .BoolOp .Or es pos => match cTOr c Γ pos es with
    | some x => some ⟨x.f, fun k => (x.ok k).pt⟩
    | none => none
  | .UnaryOp .Not a pos => match c.t Γ a with
    | some x => some ⟨ebNot x.f, fun k => t_not (x.ok k)⟩
    | none => none
  | e => match c.e Γ e with
    | some x => if h : plainTest e = true then some ⟨ebOf x.f, fun k => t_val (x.ok k) (plain_test h _)⟩ else none
    | none => none
def stepI (tg : Expr) : (e : Expr) → Option (CI Γ tg e)
  | .Call (.Name x p) [a] [] pos => if h : x = "range" ∧ notStar a = true ∧ Γ.sc.names.lookup x = some .globalImplicit then (match cA c Γ [a] with
      | some g => some ⟨itR1 g.f, fun k => by
          obtain ⟨h1, h2, h3⟩ := h
          subst h1
          exact i_range1 (k.gl h3) (k.blt _ m_range) (g.ok k) (notStar_each h2 _ _)⟩
      | none => none)
    else if h : x = "enumerate" ∧ notStar a = true ∧ Γ.sc.names.lookup x = some .globalImplicit then (match tg with
      | .Tuple elts kk tpos => (match cA c Γ [a] with
        | some g => some ⟨itEn g.f, fun k => by
            obtain ⟨h1, h2, h3⟩ := h
            subst h1
            exact i_enum (k.gl h3) (k.blt _ m_enumerate) (g.ok k) (notStar_each h2 _ _)⟩
        | none => none)
      | _ => none)
    else match c.e Γ (.Call (.Name x p) [a] [] pos) with
      | some f => some ⟨itVal f.f, fun k => i_val (f.ok k)⟩
      | none => none
  | .Call (.Name x p) [a, b] [] pos => if h : x = "range" ∧ notStar a = true ∧ notStar b = true ∧ Γ.sc.names.lookup x = some .globalImplicit then (match cA c Γ [a, b] with
      | some g => some ⟨itR2 g.f, fun k => by
          obtain ⟨h1, h2, h2', h3⟩ := h
          subst h1
          exact i_range2 (k.gl h3) (k.blt _ m_range) (g.ok k) (by rw [notStar_each h2, notStar_each h2']; rfl) (notStar_each h2' _ _)⟩
      | none => none)
    else if h : x = "zip" ∧ notStar a = true ∧ notStar b = true ∧ Γ.sc.names.lookup x = some .globalImplicit then (match tg with
      | .Tuple elts kk tpos => (match cA c Γ [a, b] with
        | some g => some ⟨itZip g.f, fun k => by
            obtain ⟨h1, h2, h2', h3⟩ := h
            subst h1
            exact i_zip (k.gl h3) (k.blt _ m_zip) (g.ok k) (notStar_each h2 _ _) (stars_plain (by rw [List.all_cons, h2']; rfl))⟩
        | none => none)
      | _ => none)
    else match c.e Γ (.Call (.Name x p) [a, b] [] pos) with
      | some f => some ⟨itVal f.f, fun k => i_val (f.ok k)⟩
      | none => none
  | e => match c.e Γ e with
    | some f => some ⟨itVal f.f, fun k => i_val (f.ok k)⟩
    | none => none
def cGs : (es : List Expr) → Option (CGs Γ es)
  | [] => some ⟨[], gsNil, fun _ => gs_nil⟩
  | e :: es => match c.g Γ e, cGs es with
    | some x, some r => if h : notStar e = true then some ⟨x.ts ++ r.ts, gsCons x.f r.f, fun k => gs_cons (x.ok k) (r.ok k) (by rw [notStar_assign h]; rfl)⟩ else none
    | _, _ => none
def stepG : (e : Expr) → Option (CG Γ e)
  | .Name x pos => match Γ.N.idxOf? x with
    | some i => if h : Γ.N[i]? = some x ∧ L2.Loc Γ.sc x ∧ (Γ.fnl x = true ∨ Γ.sc.names.lookup x = some .local) then some ⟨[i], gN i, fun k => g_name k.ndX (k.ix h.1) (by rw [k.sc]; exact h.2.1) (by rw [k.sc, k.fnl]; exact h.2.2)⟩ else none
    | none => none
  | .Tuple es k pos => match cGs c Γ es with
    | some g => if h : es.all notStar = true then (match hq : Γ.hot with
        | none => some ⟨g.ts, gT es.length g.f, fun k => g_tup (k.calm hq) (g.ok k) (stars_assign h).1 (stars_assign h).2⟩
        | some q => some ⟨g.ts, gTu es.length g.f, fun k => g_tupH (k.caught q hq).hot (g.ok k) (stars_assign h).1 (stars_assign h).2⟩) else none
    | none => none
  | _ => none
end
noncomputable def step (c : Cs) : Cs := ⟨stepE c, stepT c, stepI c, stepG c⟩
noncomputable def cs : Nat → Cs
  | 0 => ⟨fun _ _ => none, fun _ _ => none, fun _ _ _ => none, fun _ _ => none⟩
  | n + 1 => step (cs n)
end Ip
set_option Elab.async false
set_option linter.all false
set_option maxRecDepth 100000
set_option maxHeartbeats 4000000
namespace Ip
open PySem PySem.Spec PyProof.Rows L2 L2H

/-! ### statements -/
structure CptS (Γ : Ctx) (X : Cx) (W : WX) : Prop extends Cpt Γ X W where
  po : PassesOwn (model X.prog X.w) X.A X.env X.xe
  top : Γ.ner ≠ none → X.stack = X.env :: X.outer ∧ X.env.frame = some X.env.locals
structure CS (Γ : Ctx) (s : Stmt) where
  f : Es
  ok : ∀ {X : Cx} {W : WX}, CptS Γ X W → PS X s (tS X.K W f)
structure CB (Γ : Ctx) (s : List Stmt) where
  f : Es
  ok : ∀ {X : Cx} {W : WX}, CptS Γ X W → PSs X s (tS X.K W f)
theorem sw_false {elt : Expr} {gs : List Comprehension} {scope : Scope} {pos py : Pos} {y : Str} {l : Nat} {env : Env} (hk : env.scope.kind = .function)
    (h : (decide (env.scope.names.lookup y = some .local) && (py.line == pos.line) && !(scope.names.any fun (n, k) => n == y && (k == .local || k == .cell))) = false) : swapsWith (.ListComp elt gs scope pos) (some (.Name y py)) l env = pure false := by
  have hb : env.blockKind = .function := by unfold Env.blockKind; rw [hk]; rfl
  unfold swapsWith
  simp only [hb, Env.kindOf, Expr.pos]
  have e : (env.scope.names.lookup y == some .local) = decide (env.scope.names.lookup y = some .local) := by
    rw [Bool.eq_iff_iff]; simp
  have e2 : (ScopeKind.function == ScopeKind.function && List.lookup y env.scope.names == some NameKind.local && py.line == pos.line && !scope.names.any fun x => x.1 == y && (x.2 == NameKind.local || x.2 == NameKind.cell)) = false := by
    rw [e]; exact h
  exact congrArg pure e2
def sw_no (e : Expr) (Γ : Ctx) (y : Str) (py : Pos) : Bool := match e with
  | .ListComp _ _ scope pos => !(decide (Γ.sc.names.lookup y = some .local) && (py.line == pos.line) && !(scope.names.any fun (n, k) => n == y && (k == .local || k == .cell)))
  | e => notComp e
theorem sw_no_ok {e : Expr} {Γ : Ctx} {y : Str} {py : Pos} {X : Cx} {W : WX} (k : Cpt Γ X W) (hk : Γ.sc.kind = .function) (h : sw_no e Γ y py = true) (l : Nat) : swapsWith e (some (.Name y py)) l X.env = pure false := by
  cases e with
  | ListComp elt gs scope pos =>
    refine sw_false (by rw [k.sc]; exact hk) ?_
    rw [k.sc]
    have h : (!(decide (Γ.sc.names.lookup y = some .local) && (py.line == pos.line) && !(scope.names.any fun (n, k) => n == y && (k == .local || k == .cell)))) = true := h
    rw [Bool.not_eq_true'] at h
    exact h
  | SetComp _ _ _ _ => cases h
  | DictComp _ _ _ _ _ => cases h
  | _ => rfl
/-- a, b = .. with plain local names, not of constants -/
def parOk (Γ : Ctx) (x y : Str) (px py : Pos) (a b : Expr) : Bool :=
  decide (Γ.sc.kind = .function) && notStar a && notStar b && decide (Γ.sc.names.lookup x = some .local) && decide (Γ.sc.names.lookup y = some .local) && (py.line == px.line) && !decide (x = y) && !([a, b].all (foldedForSure 8)) && !([a, b].all (constantsAlone 8))
theorem any_stars {vs : List Expr} (h : vs.all notStar = true) {f : Expr → Bool} (hf : ∀ e, notStar e = true → f e = false) : ¬ (vs.any f) = true := by
  rw [List.any_eq_true]
  rintro ⟨e, he, hx⟩
  rw [hf e (List.all_eq_true.mp h e he)] at hx
  cases hx
theorem par_some {Γ : Ctx} {x y : Str} {px py pt pt2 : Pos} {kt k2 : Nat} {a b : Expr} {env : Env} (hsc : env.scope = Γ.sc) (h : parOk Γ x y px py a b = true) :
    swappedStores [.Tuple [.Name x px, .Name y py] kt pt] (.Tuple [a, b] k2 pt2) env = pure (some [x, y]) := by
  unfold parOk at h
  simp only [Bool.and_eq_true, decide_eq_true_eq, Bool.not_eq_true', decide_eq_false_iff_not] at h
  obtain ⟨⟨⟨⟨⟨⟨⟨⟨h1, h2⟩, h3⟩, h4⟩, h5⟩, h6⟩, h7⟩, h8⟩, h9⟩ := h
  have hb : env.blockKind = .function := by unfold Env.blockKind; rw [hsc, h1]; rfl
  have kx : env.kindOf x = some .local := by unfold Env.kindOf; rw [hsc]; exact h4
  have ky : env.kindOf y = some .local := by unfold Env.kindOf; rw [hsc]; exact h5
  unfold swappedStores
  have e1 : ∀ f : Expr → Option Str, f (.Name x px) = some x → f (.Name y py) = some y → [Expr.Name x px, Expr.Name y py].filterMap f = [x, y] := fun f hx hy => by
    simp [hx, hy]
  have g1 : (if (env.kindOf x == some .local && px.line == px.line) = true then some x else none) = some x := if_pos (by rw [kx]; simp)
  have g2 : (if (env.kindOf y == some .local && py.line == px.line) = true then some y else none) = some y := if_pos (by rw [ky, h6]; rfl)
  have e2 : [x, y].eraseDups.length = 2 := by
    have : (y == x) = false := by
      rw [beq_eq_false_iff_ne]
      exact fun z => h7 z.symm
    simp [List.eraseDups_cons, this]
  dsimp only
  refine (if_neg (by rw [hb]; exact Bool.false_ne_true)).trans ?_
  refine (if_neg (any_stars (by rw [List.all_cons, List.all_cons, h2, h3]; rfl) fun e he => by cases e <;> first | rfl | cases he)).trans ?_
  refine (if_neg (by rw [e1 _ g1 g2, e2]; exact Bool.false_ne_true)).trans ?_
  refine (if_neg (by rw [h8]; decide)).trans ?_
  refine (if_neg (by rw [h9]; decide)).trans ?_
  rw [e1 _ g1 g2]
def notTuple : Expr → Bool
  | .Tuple .. => false
  | .List .. => false
  | _ => true
theorem stores_none {tg e : Expr} (h : notTuple e = true ∨ notTuple tg = true) (env : Env) : swappedStores [tg] e env = pure none := by
  rcases h with h | h
  · cases tg <;> cases e <;> first | rfl | cases h
  · cases tg <;> cases e <;> first | rfl | cases h
/-- a, b = 1, 2: no exchange of stores -/
theorem stores_const {ts vs : List Expr} {pt pt2 : Pos} {kt k2 : Nat} {env : Env} (h : vs.all (foldedForSure 8) = true) : swappedStores [.Tuple ts kt pt] (.Tuple vs k2 pt2) env = pure none := by
  unfold swappedStores
  dsimp only
  split
  · rfl
  split
  · rfl
  split
  · rfl
  first | exact if_pos h | rfl
/-- a, b = .., where one of the two is no plain local: no exchange of stores -/
theorem stores_cell {x y : Str} {px py pt pt2 : Pos} {kt k2 : Nat} {a b : Expr} {env : Env} (h : ¬ env.kindOf x = some .local ∨ ¬ env.kindOf y = some .local) : swappedStores [.Tuple [.Name x px, .Name y py] kt pt] (.Tuple [a, b] k2 pt2) env = pure none := by
  unfold swappedStores
  dsimp only
  split
  · rfl
  split
  · rfl
  split
  · rfl
  · rename_i hn
    exfalso
    apply hn
    rw [Bool.or_eq_true]
    left
    clear hn
    by_cases h1 : env.kindOf x = some .local <;> by_cases h2 : env.kindOf y = some .local <;> by_cases h3 : py.line = px.line <;> simp [List.filterMap_cons, Expr.pos, h1, h2, h3] at h ⊢
section
variable (c : Cs) (Γ : Ctx)
noncomputable def cN : (e : Expr) → Option (CN Γ e)
  | .List es pos => match cA c Γ es with
    | some g => some ⟨elDisp g.f, fun h => n_disp (g.ok h)⟩
    | none => none
  | .Call (.Name x q1) [.Call (.Name y p2) [a] [] p] [] q2 => cListRg c Γ x q1 y p2 a p q2
  | _ => none
noncomputable def cEM (x : Str) (e : Expr) : Option (CE Γ e) := if Γ.mu.contains x = true then (match cN c Γ e with
  | some r => some ⟨evM r.f, fun k => e_ofM (r.ok k)⟩
  | none => c.e Γ e) else c.e Γ e
def whN : Nat := 100000
def swYes (Γ : Ctx) (scope : Scope) (pos py : Pos) (x : Str) : Bool := decide (Γ.sc.kind = .function) && decide (Γ.sc.names.lookup x = some .local) && (py.line == pos.line) && !(scope.names.any fun (n, k) => n == x && (k == .local || k == .cell))
theorem swYes_ok {Γ : Ctx} {X : Cx} {W : WX} (k : Cpt Γ X W) {elt : Expr} {gs : List Comprehension} {scope : Scope} {pos py : Pos} {x : Str} (h : swYes Γ scope pos py x = true) (l : Nat) : swapsWith (.ListComp elt gs scope pos) (some (.Name x py)) l X.env = pure true ∧ X.env.scope.names.lookup x = some .local := by
  unfold swYes at h
  simp only [Bool.and_eq_true, decide_eq_true_eq, Bool.not_eq_true'] at h
  obtain ⟨⟨⟨h1, h2⟩, h3⟩, h4⟩ := h
  have e2 : X.env.scope.names.lookup x = some .local := by rw [k.sc]; exact h2
  exact ⟨sw_true (by rw [k.sc]; exact h1) e2 h3 h4, e2⟩
theorem swYes_loc {Γ : Ctx} {X : Cx} {W : WX} (k : Cpt Γ X W) {scope : Scope} {pos py : Pos} {x : Str} (h : swYes Γ scope pos py x = true) : X.env.scope.names.lookup x = some .local :=
  (swYes_ok (elt := .Name x pos) (gs := []) k h 0).2
noncomputable def cSetLc (x : Str) (py : Pos) (elt : Expr) (gs : List Comprehension) (scope : Scope) (pos spos : Pos) : Option (CS Γ (.Assign [.Name x py] (.ListComp elt gs scope pos) spos)) := match Γ.N.idxOf? x with
  | none => none
  | some i => if hx : Γ.N[i]? = some x ∧ swYes Γ scope pos py x = true ∧ Γ.hot = none then (match gs with
    | [⟨tg, iter, ifs, 0⟩] => if hb : blkC Γ.N Γ.sc scope (ownOf Γ scope) = true ∧ notSet iter = true then
        match c.i Γ tg iter, c.g (Γ.blk scope) tg, cQ c (Γ.blk scope) ifs, c.e (Γ.blk scope) elt with
        | some it, some g, some t, some f => if ho : ∀ i ∈ g.ts, i ∈ (ownOf Γ scope).map (·.2) then
            some ⟨sSet i (evLc ((ownOf Γ scope).map (·.2)) it.f g.f t.f f.f), fun {X W} k =>
              have ok : BlkOk X.N X.env.scope scope (ownOf Γ scope) := by rw [k.N, k.sc]; exact blkOk_by hb.1
              s_setComp (calm_blk k.toCpt hx.2.2) k.ndX (k.ix hx.1) (swYes_loc k.toCpt hx.2.1) (swYes_ok k.toCpt hx.2.1 _).1 (.calm (it.ok k.toCpt)) ok (parts_of k.toCpt g t f ok) (fun x => notSet_fold hb.2 _ x) ho⟩ else none
        | _, _, _, _ => none
      else none
    | [⟨tg, iter, ifs, 0⟩, ⟨tg1, iter1, ifs1, 0⟩] => if hb : blkC Γ.N Γ.sc scope (ownOf Γ scope) = true ∧ notSet iter = true ∧ notSet iter1 = true then
        match c.i Γ tg iter, c.g (Γ.blk0 scope) tg, cQ c (Γ.blk0 scope) ifs, c.i (Γ.blk0 scope) tg1 iter1, c.g (Γ.blk0 scope) tg1, cQ c (Γ.blk0 scope) ifs1, c.e (Γ.blk0 scope) elt with
        | some it, some g, some t, some it1, some g1, some t1, some f => if ho : (∀ i ∈ g.ts, i ∈ (ownOf Γ scope).map (·.2)) ∧ (∀ i ∈ g1.ts, i ∈ (ownOf Γ scope).map (·.2)) then
            some ⟨sSet i (evLc2 ((ownOf Γ scope).map (·.2)) g1.ts it.f g.f t.f it1.f g1.f t1.f f.f), fun {X W} k => s_setLc2 (k.calm hx.2.2) k.ndX (k.ix hx.1) (swYes_loc k.toCpt hx.2.1) (swYes_ok k.toCpt hx.2.1 _).1 (it.ok k.toCpt) (by rw [k.N, k.sc]; exact blkOk_by hb.1) ho.2 (fun s H C cl fp => g.ok (k.toCpt.blk0 hx.2.2)) (fun s H C cl fp => t.ok (k.toCpt.blk0 hx.2.2)) (fun s H C cl fp => it1.ok (k.toCpt.blk0 hx.2.2)) (fun s H C cl fp => g1.ok (k.toCpt.blk0 hx.2.2))
              (fun s H C cl fp => t1.ok (k.toCpt.blk0 hx.2.2)) (fun s H C cl fp => f.ok (k.toCpt.blk0 hx.2.2)) (fun x => notSet_fold hb.2.1 _ x) (fun env x => notSet_fold hb.2.2 _ x) ho.1 fun _ h => h⟩ else none
        | _, _, _, _, _, _, _ => none
      else none
    | _ => none) else none
noncomputable def cSet (x : Str) (py : Pos) (e : Expr) (spos : Pos) : Option (CS Γ (.Assign [.Name x py] e spos)) := match Γ.N.idxOf? x with
  | none => none
  | some i => if h : Γ.N[i]? = some x ∧ L2.Loc Γ.sc x ∧ (Γ.fnl x = true ∨ Γ.sc.names.lookup x = some .local) ∧ Γ.sc.kind = .function ∧ sw_no e Γ x py = true then (match cEM c Γ x e with
    | some f => some ⟨sSet i f.f, fun k => s_set k.ndX (k.ix h.1) (by rw [k.sc]; exact h.2.1) (f.ok k.toCpt) (sw_no_ok k.toCpt h.2.2.2.1 h.2.2.2.2 _) (by rw [k.sc, k.fnl]; exact h.2.2.1)⟩
    | none => none) else none
noncomputable def cAsg (tg e : Expr) (spos : Pos) : Option (CS Γ (.Assign [tg] e spos)) :=
  if h : notStar tg = true ∧ notComp e = true ∧ (notTuple e = true ∨ notTuple tg = true) then (match c.g Γ tg, c.e Γ e with
    | some g, some f => some ⟨sAsg g.f f.f, fun k => s_asg (f.ok k.toCpt) (g.ok k.toCpt) (notComp_swap h.2.1 _ _ _) (stores_none h.2.2 _) (by rw [notStar_assign h.1]; rfl)⟩
    | _, _ => none)
  else match tg, e with
    | .Tuple ts kt pt, .Tuple vs k2 pt2 => if h : vs.all (foldedForSure 8) = true then (match c.g Γ (.Tuple ts kt pt), c.e Γ (.Tuple vs k2 pt2) with
      | some g, some f => some ⟨sAsg g.f f.f, fun k => s_asg (f.ok k.toCpt) (g.ok k.toCpt) rfl (stores_const h) rfl⟩
      | _, _ => none) else none
    | _, _ => none
noncomputable def cPar (x y : Str) (px py : Pos) (kt : Nat) (pt : Pos) (a b : Expr) (k2 : Nat) (pt2 spos : Pos) : Option (CS Γ (.Assign [.Tuple [.Name x px, .Name y py] kt pt] (.Tuple [a, b] k2 pt2) spos)) :=
  match Γ.N.idxOf? x, Γ.N.idxOf? y with
  | some i, some j => if h : Γ.N[i]? = some x ∧ Γ.N[j]? = some y ∧ i ≠ j ∧ parOk Γ x y px py a b = true ∧ Γ.sc.names.lookup x = some .local ∧ Γ.sc.names.lookup y = some .local ∧ notStar a = true ∧ notStar b = true ∧ Γ.hot = none then
      match cEM c Γ x a, cEM c Γ y b with
      | some f, some g => some ⟨sPar i j (eaCons f.f (eaCons g.f eaNil)), fun k => s_par (k.calm h.2.2.2.2.2.2.2.2) k.ndX (k.ix h.1) (k.ix h.2.1) h.2.2.1 (by rw [k.sc]; exact h.2.2.2.2.1) (by rw [k.sc]; exact h.2.2.2.2.2.1) (a_cons (f.ok k.toCpt) (a_cons (g.ok k.toCpt) a_nil (notStar_each h.2.2.2.2.2.2.2.1 _ _)) (notStar_each h.2.2.2.2.2.2.1 _ _)) (par_some k.sc h.2.2.2.1)⟩
      | _, _ => none
    else none
  | _, _ => none
noncomputable def cAs2 (x y : Str) (px py : Pos) (kt : Nat) (pt : Pos) (a b : Expr) (k2 : Nat) (pt2 spos : Pos) : Option (CS Γ (.Assign [.Tuple [.Name x px, .Name y py] kt pt] (.Tuple [a, b] k2 pt2) spos)) :=
  if h : (¬ Γ.sc.names.lookup x = some .local ∨ ¬ Γ.sc.names.lookup y = some .local) ∧ notStar a = true ∧ notStar b = true then
    match c.g Γ (.Tuple [.Name x px, .Name y py] kt pt), cEM c Γ x a, cEM c Γ y b with
    | some g, some f, some f2 => some ⟨sAsg g.f (evTup (eaCons f.f (eaCons f2.f eaNil))), fun k => s_asg (e_tup (a_cons (f.ok k.toCpt) (a_cons (f2.ok k.toCpt) a_nil (notStar_each h.2.2 _ _)) (notStar_each h.2.1 _ _))) (g.ok k.toCpt) rfl (stores_cell (by
        unfold Env.kindOf
        rw [k.sc]
        exact h.1)) rfl⟩
    | _, _, _ => none
  else none
noncomputable def cBl (cst : (s : Stmt) → Option (CS Γ s)) : (ss : List Stmt) → Option (CB Γ ss)
  | [] => some ⟨sNil, fun _ => b_nil⟩
  | s :: ss => match cst s, cBl cst ss with
    | some f, some g => some ⟨sCons f.f g.f, fun k => b_cons (f.ok k) (g.ok k)⟩
    | _, _ => none
theorem m_ve : ("ValueError" : Str) ∈ bltn := by decide +kernel
/-- what a suite returns of an error -/
def sufA (c : Str) : Option D := if c ∈ errs then some (.str (nameOf c)) else none
def sufC (c : Str) : Option D := if c ∈ errs then some (.tup [.non, .str (nameOf c)]) else none
theorem sufA_inv {c : Str} {d : D} (h : sufA c = some d) : d = .str (nameOf c) := by
  unfold sufA at h
  split at h
  · cases h; rfl
  · cases h
theorem sufC_inv {c : Str} {d : D} (h : sufC c = some d) : d = .tup [.non, .str (nameOf c)] := by
  unfold sufC at h
  split at h
  · cases h; rfl
  · cases h
def ersOf (ers : List Str) (g : Str → Option D) (c : Str) : Option D := if c ∈ ers then g c else none
theorem ersOf_inv {ers : List Str} {g : Str → Option D} {c : Str} {d : D} (h : ersOf ers g c = some d) : c ∈ ers ∧ g c = some d := by
  unfold ersOf at h
  split at h
  · exact ⟨‹_›, h⟩
  · cases h
theorem mark_room {A : Around} {k : Nat} (r : Room k A) (v : Option Value) : RoomH k (A.mark v) := ⟨r.dp, r.un⟩
theorem suite_name {Γ : Ctx} {X Y : Cx} {W : WX} {k : Nat} {n : Str} {i : Nat} {a : Addr} {c : Str} {p p2 pos : Pos} (K : Cpt Γ X W) (hk : Γ.ner = some k) (hh : Γ.hot = none) (hN : Γ.N[i]? = some n) (hv : Vis Γ.sc n) (hd : (n == ("__debug__" : Str)) = false) (hcd : (n == ("__classdict__" : Str)) = false) (hg : Γ.sc.names.lookup nerS = some .globalImplicit)
    (hY : ∃ oe pn, Y = X.suite a ((a, oe) :: pn)) (ct : Caught Y a c) : PE Y (.Call (.Name nerS p) [.Name n p2] [] pos) (tE X.K WF (evErr i a (.str (nameOf c)))) := by
  obtain ⟨oe, pn, rfl⟩ := hY
  obtain ⟨F, hl, _⟩ := K.ner k hk
  exact e_ner (X := X.suite a ((a, oe) :: pn)) ct F (mark_room ((K.room hh).mono hl) _) rfl (K.gl hg) (K.ix hN) (K.vis hv) hd hcd
theorem set_at {ρ : Sl} {i : Nat} {o : Option D} (h : i < ρ.length) : (ρ.set i o)[i]? = some o := List.getElem?_set_self h
theorem try_top {Γ : Ctx} {X : Cx} {W : WX} (k : CptS Γ X W) {W' : WX} {pn : List (Addr × Obj)} {xe : Value → Shared → Prop} (hh : Γ.hot = none) (tk : L2N.Takes (X.tr pn xe) W') (po : PassesOwn (model X.prog X.w) X.A X.env xe) : CptS Γ (X.tr pn xe) W' where
  N := k.N
  nd := k.nd
  sc := k.sc
  fnl := k.fnl
  calm := k.calm
  caught := fun q e => by rw [hh] at e; cases e
  room := k.room
  un := k.un
  fns := k.fns
  gis := k.gis
  excs := k.excs
  clss := k.clss
  blt := k.blt
  tk := tk
  cals := k.cals
  hos := k.hos
  maker := fun z => by
    obtain ⟨t, f⟩ := k.maker z
    exact ⟨t, fun ⟨pn', xe', pins, σ, H, s, I⟩ => f ⟨pn', xe', pins, σ, H, s, I⟩⟩
  ner := k.ner
  ers := k.ers
  gts := k.gts
  po := po
  top := k.top
/-- try: .. except LotError as n: return e -/
def cTry {body : List Stmt} (Γ : Ctx) (f : CB Γ body) (t : Str) (tp : Pos) (n : Str) (e : Expr) (hp pos' pos : Pos) : Option (CS Γ (.Try body [.ExceptHandler (some (.Name t tp)) (some n) [.Return (some e) hp] pos'] [] [] pos)) := match hk : Γ.ner, Γ.N.idxOf? n with
  | some kk, some i => if h : t = "LotError" ∧ Γ.hot = none ∧ Γ.N[i]? = some n ∧ Γ.sc.names.lookup n = some .local ∧ (n == ("__debug__" : Str)) = false ∧ (n == ("__classdict__" : Str)) = false ∧ Γ.sc.names.lookup nerS = some .globalImplicit ∧ Γ.sc.names.lookup ("LotError" : Str) = some .globalImplicit then
      (match e with
      | .Call (.Name z p1) [.Name m p2] [] p3 => if hz : z = nerS ∧ m = n then some ⟨sTry f.f (ersOf Γ.ers sufA), fun {X W} k => by
          obtain ⟨h1, h2, h3, h4, h5, h6, h7, h8⟩ := h
          obtain ⟨z1, z2⟩ := hz
          subst h1 z1 z2
          have tp := k.top (by rw [hk]; exact fun z => nomatch z)
          refine s_try tp.1 tp.2 k.ndX (k.ix h3) (by show X.env.scope.names.lookup _ = _; rw [k.sc]; exact h4) (k.gl h8) (k.ner kk hk).2.2 k.tk (fun W' pn xe tk po => f.ok (try_top k h2 tk po)) (fun a c d Y hd hY ct => ⟨_, suite_name k.toCpt hk h2 h3 (.inl h4) h5 h6 h7 hY ct, fun ρ m0 H0 st hl => ?_⟩) (fun c d hd => k.ers c (ersOf_inv hd).1)
          rw [evErr_at (set_at hl), sufA_inv (ersOf_inv hd).2]⟩ else none
      | .IfExp (.Call (.Name y q1) [.Name m2 q2, .Name v q3] [] q4) (.Call (.Name z p1) [.Name m p2] [] p3) (.Constant (.str od) j p4) p5 => if hz : z = nerS ∧ m = n ∧ y = "isinstance" ∧ m2 = n ∧ v = "ValueError" ∧ Γ.sc.names.lookup ("isinstance" : Str) = some .globalImplicit ∧ Γ.sc.names.lookup ("ValueError" : Str) = some .globalImplicit then some ⟨sTry f.f (ersOf Γ.ers sufA), fun {X W} k => by
          obtain ⟨h1, h2, h3, h4, h5, h6, h7, h8⟩ := h
          obtain ⟨z1, z2, z3, z4, z5, z6, z7⟩ := hz
          subst h1 z1 z2 z3 z4 z5
          have tp := k.top (by rw [hk]; exact fun z => nomatch z)
          refine s_try tp.1 tp.2 k.ndX (k.ix h3) (by show X.env.scope.names.lookup _ = _; rw [k.sc]; exact h4) (k.gl h8) (k.ner kk hk).2.2 k.tk (fun W' pn xe tk po => f.ok (try_top k h2 tk po)) (fun a c d Y hd hY ct => ?_) (fun c d hd => k.ers c (ersOf_inv hd).1)
          have pn := suite_name (p := p1) (p2 := p2) (pos := p3) k.toCpt hk h2 h3 (.inl h4) h5 h6 h7 hY ct
          obtain ⟨oe, pn', rfl⟩ := hY
          have pi : PE (X.suite a ((a, oe) :: pn')) (.Call (.Name "isinstance" q1) [.Name m2 q2, .Name "ValueError" q3] [] q4) (tE X.K WF (evErr i a (.bl true))) :=
            e_isErr (X := X.suite a ((a, oe) :: pn')) (tv := .ty "ValueError") ct (k.gl z6) (k.blt _ m_isinst) (k.ix h3) (k.vis (.inl h4)) h5 h6 (pe_bltn (u := .type "ValueError") (k.gl z7) (k.blt _ m_ve) (by decide +kernel) rfl (by decide +kernel) (by decide +kernel)) (.type "ValueError") (fun u r => r) ct.ok.ve
          refine ⟨_, e_if (t_val pi fun _ => rfl) pn e_str, fun ρ m0 H0 st hl => ?_⟩
          unfold evIf ebOf
          rw [evErr_at (set_at hl)]
          show evErr i a (.str (nameOf c)) _ st = _
          rw [evErr_at (set_at hl), sufA_inv (ersOf_inv hd).2]⟩ else none
      | .Tuple [.Constant .none j p4, .Call (.Name z p1) [.Name m p2] [] p3] kt p5 => if hz : z = nerS ∧ m = n then some ⟨sTry f.f (ersOf Γ.ers sufC), fun {X W} k => by
          obtain ⟨h1, h2, h3, h4, h5, h6, h7, h8⟩ := h
          obtain ⟨z1, z2⟩ := hz
          subst h1 z1 z2
          have tp := k.top (by rw [hk]; exact fun z => nomatch z)
          refine s_try tp.1 tp.2 k.ndX (k.ix h3) (by show X.env.scope.names.lookup _ = _; rw [k.sc]; exact h4) (k.gl h8) (k.ner kk hk).2.2 k.tk (fun W' pn xe tk po => f.ok (try_top k h2 tk po)) (fun a c d Y hd hY ct => ?_) (fun c d hd => k.ers c (ersOf_inv hd).1)
          have pn := suite_name (p := p1) (p2 := p2) (pos := p3) k.toCpt hk h2 h3 (.inl h4) h5 h6 h7 hY ct
          obtain ⟨oe, pn', rfl⟩ := hY
          refine ⟨_, e_tup (a_cons (X := X.suite a ((a, oe) :: pn')) e_non (a_cons pn a_nil rfl) rfl), fun ρ m0 H0 st hl => ?_⟩
          unfold evTup eaCons eaNil evC
          simp only [R.bind_ok, evErr_at (set_at hl), sufC_inv (ersOf_inv hd).2]
          rfl⟩ else none
      | _ => none) else none
  | _, _ => none
noncomputable def cSt : Nat → (s : Stmt) → Option (CS Γ s)
  | 0, _ => none
  | n' + 1, s => match s with
    | .Expr (.Constant (.str x) j p) p' => some ⟨sNil, fun _ => s_doc⟩
    | .Expr e pos => match c.e Γ e with
      | some f => if h : notComp e = true then some ⟨sExp f.f, fun k => s_exp (f.ok k.toCpt) (notComp_swap h _ _ _)⟩ else none
      | none => none
    | .Assign [.Name x py] e spos => match cSet c Γ x py e spos with
      | some r => some r
      | none => match e with
        | .ListComp elt gs scope pos => cSetLc c Γ x py elt gs scope pos spos
        | _ => none
    | .Assign [.Tuple [.Name x px, .Name y py] kt pt] (.Tuple [a, b] k2 pt2) spos => match cPar c Γ x y px py kt pt a b k2 pt2 spos with
      | some r => some r
      | none => match cAs2 c Γ x y px py kt pt a b k2 pt2 spos with
        | some r => some r
        | none => cAsg c Γ (.Tuple [.Name x px, .Name y py] kt pt) (.Tuple [a, b] k2 pt2) spos
    | .Assign [tg] e spos => cAsg c Γ tg e spos
    | .If t a b pos => match c.t Γ t, cBl Γ (cSt n') a, cBl Γ (cSt n') b with
      | some t, some f, some g => some ⟨sIf t.f f.f g.f, fun k => s_if (t.ok k.toCpt) (f.ok k) (g.ok k)⟩
      | _, _, _ => none
    | .Return (some e) pos => match c.e Γ e with
      | some f => some ⟨sRet f.f, fun k => s_ret (f.ok k.toCpt)⟩
      | none => none
    | .Return none pos => some ⟨sRetN, fun _ => s_retN⟩
    | .For tg iter b [] pos => match c.i Γ tg iter, c.g Γ tg, cBl Γ (cSt n') b with
      | some it, some g, some f => if h : notSet iter = true ∧ Γ.hot = none then some ⟨sFor it.f g.f f.f, fun k => s_for k.po (k.calm h.2) (it.ok k.toCpt) (g.ok k.toCpt) (f.ok k) (fun x => notSet_fold h.1 _ x)⟩ else none
      | _, _, _ => none
    | .While t b [] pos => match c.t Γ t, cBl Γ (cSt n') b with
      | some t, some f => some ⟨sWhile whN t.f f.f, fun k => s_while k.po (t.ok k.toCpt) (f.ok k)⟩
      | _, _ => none
    | .Raise (some (.Call (.Name x p) [.Constant (.str z) j p2] [] p3)) none pos => if h : x ∈ Γ.excs ∧ Γ.sc.names.lookup x = some .globalImplicit ∧ (x == ("__debug__" : Str)) = false ∧ Γ.hot = none then
        some ⟨sExc x, fun k => s_raise (k.calm h.2.2.2) k.tk (k.excs x h.1) (k.gl h.2.1) h.2.2.1⟩ else some ⟨sBad, fun _ => s_bad⟩
    | .Raise _ _ pos => some ⟨sBad, fun _ => s_bad⟩
    | .Try body [.ExceptHandler (some (.Name t tp)) (some n) [.Return (some e) hp] pos'] [] [] pos => match cBl Γ (cSt n') body with
      | some f => cTry Γ f t tp n e hp pos' pos
      | none => none
    | .Pass pos => some ⟨sNil, fun _ => s_pass⟩
    | .Break pos => some ⟨sBk, fun _ => s_break⟩
    | .Continue pos => some ⟨sCt, fun _ => s_cont⟩
    | _ => none
end
/-! ### a whole def -/
noncomputable def cDef (n : Nat) (Γ : Ctx) (body : List Stmt) : Option (CB Γ body) := cBl Γ (cSt (cs n) Γ n) body
noncomputable def semOf (n : Nat) (Γ : Ctx) (body : List Stmt) : Option Es := (cDef n Γ body).map (·.f)
theorem sem_ok {n : Nat} {Γ : Ctx} {body : List Stmt} {f : Es} (h : semOf n Γ body = some f) : ∀ {X : Cx} {W : WX}, CptS Γ X W → PSs X body (tS X.K W f) := by
  obtain ⟨c, _, rfl⟩ := Option.map_eq_some_iff.mp h
  exact c.ok
end Ip
set_option Elab.async false
set_option linter.all false
set_option maxRecDepth 100000
set_option maxHeartbeats 4000000
namespace Ip
open PySem PySem.Spec PyProof.Rows L2 L2H

structure Facts (P : Program) (w : World) (K : PySem.W.Frag) (mg : Str → Option Value) (base : Heap) (Γ : Ctx) : Prop where
  fns : ∀ q ∈ Γ.fns, HasW P w K mg base q.1 q.2.1 q.2.2.1 q.2.2.2 ∧ mg q.1 = some (.ref (He.ga K q.1)) ∧ q.2.2.1 ≤ Γ.lv
  gis : ∀ q ∈ Γ.gis, ∃ t, mg q.1 = some (.int q.2 t)
  excs : ∀ q ∈ Γ.excs, (He.Fa.exc q).ok K = true ∧ mg q = some (.ref (He.ga K q))
  clss : ∀ q ∈ Γ.clss, mg q = some (.ref (He.ga K q))
  blt : ∀ q ∈ bltn, mg q = none
  hos : ∀ h ∈ Γ.hos, HasH P w K mg base h.x h.n h.cn (h.cl + 1) h.lv h.F ∧ h.lv ≤ Γ.lv
  ner : ∀ k, Γ.ner = some k → NerAt P w K mg base k ∧ k ≤ Γ.lv ∧ mg "LotError" = some (.ref (He.ga K "LotError"))
  ers : ∀ c ∈ Γ.ers, ErrOk K c
  gts : ∀ q ∈ Γ.gts, gtB K q.1 q.2 = true ∧ mg q.1 = some (.ref (He.ga K q.1))
/-- the def x may make lambdas: its code object, its table -/
structure MkOk (K : PySem.W.Frag) (mg : Str → Option Value) (base : Heap) (x : Str) : Prop where
  tb : LamX.TabB base mg (He.cT K (x, none)).1 (He.cT K (x, none)).2
  mem : x ∈ lams
  one : ∀ y ∈ lams, (He.cT K (y, none)).2 = (He.cT K (x, none)).2 → y = x
section
variable {P : Program} {w : World} {K : PySem.W.Frag} {mg : Str → Option Value} {base base' : Heap}
theorem tabB_wider {c T : Addr} (h : LamX.TabB base mg c T) (e : Wider base base') : LamX.TabB base' mg c T := ⟨h.code.keeps e, h.bm.keeps e, h.gP⟩
theorem MkOk.wider {x : Str} (h : MkOk K mg base x) (e : Wider base base') : MkOk K mg base' x := ⟨tabB_wider h.tb e, h.mem, h.one⟩
theorem Facts.wider {Γ : Ctx} (h : Facts P w K mg base Γ) (e : Wider base base') : Facts P w K mg base' Γ :=
  ⟨fun q hq => ⟨(h.fns q hq).1.wider e, (h.fns q hq).2⟩, h.gis, h.excs, h.clss, h.blt, fun q hq => ⟨(h.hos q hq).1.wider e, (h.hos q hq).2⟩, fun k hk => ⟨(h.ner k hk).1.wider e, (h.ner k hk).2⟩, h.ers, h.gts⟩
/-- a def's context -/
theorem cpt_def {qual : Str} {scope : Scope} {f : Addr} {cdv : Value} {A : Around} {outer : List Env} {s : Shared} {H : Hp} {E : XK} {Γ : Ctx} (nd : Γ.N.Nodup) (hsc : Γ.sc = scope) (hf : Γ.fnl = fun _ => true) (hh : Γ.hot = none) (fa : Facts P w K mg base Γ) (hr : Room Γ.lv (A.deeper (envOfC qual scope s.heap.objs.size f cdv)))
    (hc : ∀ c ∈ Γ.cals, CalF K base c.d ∧ CalAt P w K mg base c ∧ c.lv ≤ Γ.lv) (hm : Γ.mkr = true → MkOk K mg base qual ∧ cdv = .ref (He.cT K (qual, none)).1) :
    CptS Γ (cxOf (L2N.CX P w) P w K mg base Γ.N qual scope f cdv A outer s H E) (fun c d _ H' => E c d H') where
  N := rfl
  nd := nd
  sc := hsc.symm
  fnl := hf.symm
  calm := fun _ => rfl
  caught := fun q e => by rw [hh] at e; cases e
  room := fun _ => hr
  un := Nat.lt_of_le_of_lt (Nat.add_le_add_left (by omega : 65 ≤ 16 * Γ.lv + 200) _) (by have := hr.un; rw [← Nat.add_assoc]; exact this)
  fns := fa.fns
  gis := fa.gis
  excs := fa.excs
  clss := fa.clss
  blt := fa.blt
  tk := L2N.takes_of rfl rfl rfl rfl
  cals := hc
  hos := fa.hos
  maker := fun z => by
    obtain ⟨M, rfl⟩ := hm z
    refine ⟨⟨_, _, rfl, M.tb, List.mem_map.mpr ⟨qual, M.mem, rfl⟩, fun p hp e => ?_⟩, fun ⟨pn, xe, pins, σ, H', s', I⟩ y c e hm => ?_⟩
    · obtain ⟨y, hy, rfl⟩ := List.mem_map.mp hp
      rw [M.one y hy e]; rfl
    · have above : s.heap.objs.size ≤ c := I.ok.cab y c rfl e
      have hm : c ∈ s.heap.objs.size :: frs outer := hm
      rcases List.mem_cons.mp hm with z | z
      · exact I.cne y c e z
      · obtain ⟨_, o, ho, _⟩ := I.ok.funs.mem z
        exact absurd (Nat.lt_of_lt_of_le (Heap.lt_size ho) above) (Nat.lt_irrefl _)
  ner := fa.ner
  ers := fa.ers
  gts := fa.gts
  po := passes_of rfl
  top := fun _ => ⟨rfl, rfl⟩
theorem fn_ok {qual : Str} {params : Arguments} {body : List Stmt} {scope : Scope} {kws : List (Str × V)} {f : Addr} {fd : FuncData} {ps : List Str} {Γ : Ctx} {n k nn : Nat} {b : Es} {keep : Bool} (F : FunD K qual qual params body scope [] kws f fd) (hfa : Γ.mkr = true → f = He.fAd K (qual, none)) (S : FnScope Γ.N ps scope)
    (hsc : Γ.sc = scope) (hf : Γ.fnl = fun _ => true) (hh : Γ.hot = none) (sem : semOf n Γ body = some b) (hN : Γ.N.length = nn) (hk : ps.length = k) (fa : Facts P w K mg base Γ) (hc : ∀ c ∈ Γ.cals, CalF K base c.d ∧ CalAt P w K mg base c ∧ c.lv ≤ Γ.lv) (hm : Γ.mkr = true → MkOk K mg base qual) :
    FnOk P w K mg base (L2N.CX P w) (Γ.lv + 1) f fd ps (spF K k (fnRun keep nn b)) := by
  obtain ⟨oc, od, dV, kV, doc, pm, an, cdv, ct, osl, rfl, lk, hcd, _, _⟩ := F.ex
  refine fn_of lk hcd S (fun vs H Q E h => ?_) fun A outer s H vs Q E hr h => ?_
  · obtain ⟨m, ds, st, r, hl, _⟩ := h
    rw [r.len, hl, hk]
  · obtain ⟨m, ds, st, r, hl, hst, hp⟩ := h
    refine ⟨_, sem_ok sem (W := fun c d _ H' => E c d H') (cpt_def S.nd hsc hf hh fa hr hc fun z => ⟨hm z, ?_⟩), fn_post hN r hst hp⟩
    obtain ⟨c, rfl⟩ := He.codeIn_ref hcd
    have e := hfa z
    rw [e] at lk
    have := He.codeOf_eq lk (c := c) rfl
    show _ = Value.ref (He.codeOf K (qual, none))
    rw [this]
/-- the values are bound one by one -/
abbrev Bound (x qual : Str) (params : Arguments) (body : List Stmt) (scope : Scope) (ps : List Str) : Prop := ∀ (kV doc pm : Value) (an : Option Addr) (cdv ct : Value) (us : List Value), us.length = ps.length → bindArgs (PySem.W.fnOf x qual params body scope .none kV doc pm an cdv ct) ⟨us, []⟩ = pure (ps.zip us)
theorem has_mk {x : Str} {params : Arguments} {body : List Stmt} {scope : Scope} {kws : List (Str × V)} {f : Addr} {fd : FuncData} {ps : List Str} {Γ : Ctx} {n k nn lv : Nat} {b : Es} {keep : Bool} (F : FunD K x x params body scope [] kws f fd) (hfa : Γ.mkr = true → f = He.fAd K (x, none)) (gm : mg x = some (.ref f)) (S : C8.scC Γ.N ps scope = true)
    (hsc : Γ.sc = scope) (hf : Γ.fnl = fun _ => true) (hh : Γ.hot = none) (hcl : Γ.cals = []) (sem : semOf n Γ body = some b) (hN : Γ.N.length = nn) (hk : ps.length = k) (hlv : Γ.lv + 1 = lv) (fa : Facts P w K mg base Γ) (hm : Γ.mkr = true → MkOk K mg base x) (hb : Bound x x params body scope ps) : HasW P w K mg base x k lv (fnRun keep nn b) := by
  subst hlv
  exact fun b2 wid => ⟨f, fd, ps, gm, F.kp, F.bindsN hb, fn_ok F hfa (C8.fnScope_by S) hsc hf hh sem hN hk (fa.wider wid) (fun c hc => by rw [hcl] at hc; cases hc) fun z => (hm z).wider wid⟩
/-- a def of which nothing is said (a recursion's ground) -/
theorem has_bad {x : Str} {params : Arguments} {body : List Stmt} {scope : Scope} {kws : List (Str × V)} {f : Addr} {fd : FuncData} {ps : List Str} {k lv : Nat} (F : FunD K x x params body scope [] kws f fd) (gm : mg x = some (.ref f)) (hk : ps.length = k) (hb : Bound x x params body scope ps) :
    HasW P w K mg base x k lv (fun _ _ => .bad) :=
  fun b2 wid => ⟨f, fd, ps, gm, F.kp, F.bindsN hb, ⟨fun vs H Q E h => by obtain ⟨m, ds, st, r, hl, hst, hp⟩ := h; exact False.elim hp, fun A outer s H args us vs Q E hr e0 hb hv h => by obtain ⟨m, ds, st, r, hl, hst, hp⟩ := h; exact False.elim hp⟩⟩
theorem hasH_mk {x : Str} {params : Arguments} {body : List Stmt} {scope : Scope} {kws : List (Str × V)} {f : Addr} {fd : FuncData} {ps : List Str} {Γ : D → Fn → Ctx} {n k nn lv cn cl : Nat} {b : D → Fn → Es} {keep : Bool} {FF : Fn → Fn} (F : FunD K x x params body scope [] kws f fd) (hfa : f = He.fAd K (x, none)) (gm : mg x = some (.ref f))
    (S : ∀ d g, C8.scC (Γ d g).N ps scope = true) (hsc : ∀ d g, (Γ d g).sc = scope) (hf : ∀ d g, (Γ d g).fnl = fun _ => true) (hh : ∀ d g, (Γ d g).hot = none) (hcl : ∀ d g, (Γ d g).cals = [⟨d, cn, cl, g⟩]) (hle : ∀ d g, cl ≤ (Γ d g).lv) (sem : ∀ d g, semOf n (Γ d g) body = some (b d g)) (hN : ∀ d g, (Γ d g).N.length = nn) (hk : ps.length = k + 1) (hlv : ∀ d g, (Γ d g).lv + 1 = lv)
    (fa : ∀ d g, Facts P w K mg base (Γ d g)) (hm : ∀ d g, (Γ d g).mkr = true → MkOk K mg base x) (hb : Bound x x params body scope ps) (he : ∀ d g ds st, ds.length = k → fnRun keep nn (b d g) (d :: ds) st = FF g ds st) : HasH P w K mg base x k cn cl lv FF := by
  refine ⟨f, gm, F.kp, fun b2 wid A outer s H m d g u v us vs ds st Q E hr e0 cf ca hst rd ru rv rr hl hp => ?_⟩
  have G := fn_ok (P := P) (w := w) (mg := mg) (base := b2) (k := k + 1) (keep := keep) F (fun _ => hfa) (C8.fnScope_by (S d g)) (hsc d g) (hf d g) (hh d g) (sem d g) (hN d g) hk ((fa d g).wider wid) (fun c hc => by
    rw [hcl d g] at hc
    rw [List.mem_singleton.mp hc]
    exact ⟨cf, ca, hle d g⟩) fun z => (hm d g z).wider wid
  rw [hlv d g] at G
  have hsp : spF K (k + 1) (fnRun keep nn (b d g)) (v :: vs) H Q E := ⟨m, d :: ds, st, .cons rd rv, by rw [List.length_cons, hl], hst, by rw [he d g ds st hl]; exact hp⟩
  have KI : K.In s.heap := e0.mod.kin.keeps fun b o e => (e0.bs b o e).1
  have hlen := G.len _ _ _ _ hsp
  have bd := (F.bindsN hb) s (u :: us) KI (by rw [List.append_nil, List.length_cons, ← rr.length]; exact hlen)
  exact G.run A outer s H ⟨u :: us, []⟩ (u :: us) (v :: vs) Q E hr e0 (by simpa using bd) (.cons ru rr) hsp
/-- the def that names an error -/
theorem ner_mk {params : Arguments} {body : List Stmt} {scope : Scope} {kws : List (Str × V)} {f : Addr} {fd : FuncData} {ps : List Str} {Γ : Addr → Str → Ctx} {n nn lv : Nat} {b : Addr → Str → Es} (F : FunD K nerS nerS params body scope [] kws f fd) (gm : mg nerS = some (.ref f))
    (S : ∀ a c, C8.scC (Γ a c).N ps scope = true) (hsc : ∀ a c, (Γ a c).sc = scope) (hf : ∀ a c, (Γ a c).fnl = fun _ => true) (hh : ∀ a c, (Γ a c).hot = some (a, c)) (hx : ∀ a c, (Γ a c).fns = [] ∧ (Γ a c).hos = [] ∧ (Γ a c).cals = [] ∧ (Γ a c).mkr = false ∧ (Γ a c).ner = none ∧ (Γ a c).gis = [] ∧ (Γ a c).ers = [] ∧ (Γ a c).excs = [] ∧ (Γ a c).gts = []) (sem : ∀ a c, semOf n (Γ a c) body = some (b a c)) (hN : ∀ a c, (Γ a c).N.length = nn) (hk : ps.length = 1)
    (ex : ∀ a c, ∀ q ∈ (Γ a c).clss, mg q = some (.ref (He.ga K q))) (blt : ∀ q ∈ bltn, mg q = none) (hb : Bound nerS nerS params body scope ps) (he : ∀ a c m0 H0 st, c ∈ errs → fnRun false nn (b a c) [.clo a m0 H0] st = .ok (.str (nameOf c)) st) : NerAt P w K mg base (lv + 1) := by
  refine ⟨f, gm, F.kp, fun b2 wid A outer s H m st p c Q E hr hot hpin eok hz e0 hst q => ?_⟩
  obtain ⟨oc, od, dV, kV, doc, pm, an, cdv, ct, osl, rfl, lk, hcd, hD, _⟩ := F.ex
  have KX : K.In s.heap := e0.mod.kin.keeps fun b o e => (e0.bs b o e).1
  have lim : s.heap.NoLimit := e0.mod.nolimit.keeps fun b o e => (e0.bs b o e).1
  have SS := C8.fnScope_by (S p.1 c)
  have bd := (F.bindsN hb) s [.ref p.1] KX (by rw [List.append_nil, hk]; rfl)
  rw [List.append_nil] at bd
  refine codeAny_call_function hr.depth (KX _ _ lk) rfl SS.co SS.gen rfl (PySem.W.codeRec_of KX hcd) (bd _ _ _ _ (wpAny_newFunctionEnv_cells SS.kind (fun ⟨n, v⟩ hy => ?_) fun env he1 s1 x => ?_))
  · exact (SS.par n (List.of_mem_zip hy).1).imp id fun q => ⟨q, PySem.W.cellsFrom_some _ _ _ (.inl q)⟩
  subst he1
  refine ⟨lim.keeps x.toInCall.keep, codeAny_func ?_⟩
  have I : Inv (cxH (L2N.CX P w) P w K mg b2 (Γ p.1 c).N nerS scope f cdv A outer s H E p) [] (start (Γ p.1 c).N [.ref p.1]) H s1 := inv_startH SS hpin e0 (by rw [hk]; rfl) (.cons rfl .nil) x
  obtain ⟨x1, x2, x3, x4, x5, x6, x7, x8, x9⟩ := hx p.1 c
  have hr' := hr.deeper (envOfC nerS scope s.heap.objs.size f cdv)
  have cpt : CptS (Γ p.1 c) (cxH (L2N.CX P w) P w K mg b2 (Γ p.1 c).N nerS scope f cdv A outer s H E p) (fun c d _ H' => E c d H') :=
    { N := rfl, nd := SS.nd, sc := (hsc _ _).symm, fnl := (hf _ _).symm, calm := fun z => by rw [hh] at z; cases z
      caught := fun z e => by rw [hh] at e; cases e; exact ⟨⟨p.2, List.mem_singleton.mpr rfl, hot, hz⟩, eok⟩
      room := fun z => by rw [hh] at z; cases z
      un := Nat.lt_of_le_of_lt (Nat.add_le_add_left (by omega : 65 ≤ 16 * lv + 200) _) (by have := hr'.un; rw [← Nat.add_assoc]; exact this)
      fns := fun z e => by rw [x1] at e; cases e
      gis := fun z e => by rw [x6] at e; cases e
      excs := fun z e => by rw [x8] at e; cases e
      clss := ex _ _
      blt := blt
      tk := L2N.takes_of rfl rfl rfl rfl
      cals := fun z e => by rw [x3] at e; cases e
      hos := fun z e => by rw [x2] at e; cases e
      maker := fun z => by rw [x4] at z; cases z
      ner := fun z e => by rw [x5] at e; cases e
      gts := fun z e => by rw [x9] at e; cases e
      ers := fun z e => by rw [x7] at e; cases e
      po := passes_of rfl
      top := fun _ => ⟨rfl, rfl⟩ }
  have rs : Reps K m H [.clo p.1 m H] [.ref p.1] := .cons (by simp only [Rep]; exact ⟨trivial, .refl⟩) .nil
  have fin := fn_post (keep := false) (b := b p.1 c) (N := (Γ p.1 c).N) (n := nn) (E := E) (Q := Q) (hN _ _) rs hst (by rw [he p.1 c m H st eok.mem]; exact fun m' H' y z v r => q m' H' v y z r)
  refine wpAny_mono ((sem_ok (sem p.1 c) cpt).run [] s1 _ H _ I fin) (fun fl s' hs => ?_) fun e s' hs => hs
  have out : ∀ {σ' : L2.St} {H' : Hp} {v : V} {u : Value}, Inv (cxH (L2N.CX P w) P w K mg b2 (Γ p.1 c).N nerS scope f cdv A outer s H E p) [] σ' H' s' → RelV v u → Q v H' → L2.CE outer P w H s Q u s' := fun {σ' H' v u} J rv q => ⟨v, H', J.os, J.bare, J.base, J.hok, rv, q⟩
  cases fl with
  | ret u =>
    obtain ⟨v, σ', H', J, rv, q⟩ := hs
    exact out J rv q
  | next =>
    obtain ⟨σ', H', J, q⟩ := hs
    exact out (v := V.non) (u := Value.none) J rfl q
  | brk =>
    obtain ⟨_, _, _, q⟩ := hs
    exact False.elim q
  | cont =>
    obtain ⟨_, _, _, q⟩ := hs
    exact False.elim q
end
/-- a list of facts, one by one -/
theorem all_nil {α : Type} {p : α → Prop} : ∀ q ∈ ([] : List α), p q := fun _ h => nomatch h
theorem all_cons {α : Type} {p : α → Prop} {a : α} {l : List α} (h : p a) (t : ∀ q ∈ l, p q) : ∀ q ∈ a :: l, p q := fun q hq => by
  rcases List.mem_cons.mp hq with rfl | hq
  · exact h
  · exact t q hq
end Ip
set_option Elab.async false
set_option linter.all false
set_option maxRecDepth 100000
set_option maxHeartbeats 0
namespace Lots
open PySem PySem.Spec PyProof.Rows L2 Ip
def gt_FIGURES : List Str := ["0", "1", "2", "3", "4", "5", "6", "7", "8", "9", "10"]
def gt_WAYS : List Str := ["read", "tell"]
def b_is_whole : Es := (sCons (sRet (evAnd (evIs .int (evVar 0)) (evAnd (evNot (evIs .bool (evVar 0))) (evChain oLe oLe (evVar 1) (evVar 0) (evVar 2))))) sNil)
def f_is_whole : Fn := fnRun false 3 b_is_whole
def b_is_rising : Es := (sCons (sIf (ebOr (ebNot (ebOf (evIs .tuple (evVar 0)))) (ebNot (ebOf (evB bAll (eaCons (evLc [2] (itVal (evVar 0)) (gN 2) ebYes (evCall 3 f_is_whole (eaCons (evVar 2) (eaCons (evC (.int 0)) (eaCons (evOp oSub (evVar 1) (evC (.int 1))) eaNil))))) eaNil))))) (sCons (sRet (evC (.bl false))) sNil) sNil) (sCons (sRet (evB bAll (eaCons (evLc [2, 3] (itZip (eaCons (evVar 0) (eaCons (evSl (evVar 0) (eoSome (evC (.int 1))) eoNone) eaNil))) (gT 2 (gsCons (gN 2) (gsCons (gN 3) gsNil))) ebYes (evOp oLt (evVar 2) (evVar 3))) eaNil))) sNil))
def f_is_rising : Fn := fnRun false 4 b_is_rising
def b_fits_plan : Es := (sCons (sIf (ebOr (ebNot (ebOf (evIs .tuple (evVar 0)))) (ebOr (ebOf (evOp oNe (evB bLen (eaCons (evVar 0) eaNil)) (evC (.int 2)))) (ebNot (ebOf (evCall 3 f_is_whole (eaCons (evOp oIx (evVar 0) (evC (.int 0))) (eaCons (evC (.int 1)) (eaCons (evC (.int 10)) eaNil)))))))) (sCons (sRet (evC (.bl false))) sNil) sNil) (sCons (sIf (ebOr (ebNot (ebOf (evIs .tuple (evOp oIx (evVar 0) (evC (.int 1)))))) (ebOf (evOp oGt (evB bLen (eaCons (evOp oIx (evVar 0) (evC (.int 1))) eaNil)) (evC (.int 10))))) (sCons (sRet (evC (.bl false))) sNil) sNil) (sCons (sRet (evB bAll (eaCons (evLc [1] (itVal (evOp oIx (evVar 0) (evC (.int 1)))) (gN 1) ebYes (evCall 2 f_is_rising (eaCons (evVar 1) (eaCons (evOp oIx (evVar 0) (evC (.int 0))) eaNil)))) eaNil))) sNil)))
def f_fits_plan : Fn := fnRun false 2 b_fits_plan
def b_need_plan : Es := (sCons (sIf (ebNot (ebOf (evCall 1 f_fits_plan (eaCons (evVar 0) eaNil)))) (sCons (sExc "InvalidPlan") sNil) sNil) sNil)
def f_need_plan : Fn := fnRun false 1 b_need_plan
def b_need_case : Es := (sCons (sIf (ebNot (ebOf (evCall 2 f_is_rising (eaCons (evVar 1) (eaCons (evOp oIx (evVar 0) (evC (.int 0))) eaNil))))) (sCons (sExc "InvalidCase") sNil) sNil) sNil)
def f_need_case : Fn := fnRun false 2 b_need_case
def b_need_view : Es := (sCons (sIf (ebNot (ebOf (evCall 2 f_is_rising (eaCons (evVar 1) (eaCons (evVar 0) eaNil))))) (sCons (sExc "InvalidView") sNil) sNil) sNil)
def f_need_view : Fn := fnRun false 2 b_need_view
def b_need_thing : Es := (sCons (sIf (ebNot (ebOf (evCall 3 f_is_whole (eaCons (evVar 0) (eaCons (evC (.int 0)) (eaCons (evOp oSub (evVar 1) (evC (.int 1))) eaNil)))))) (sCons (sExc "InvalidThing") sNil) sNil) sNil)
def f_need_thing : Fn := fnRun false 2 b_need_thing
def b_view_of : Es := (sCons (sRet (evB bTuple (eaCons (evLc [2, 3] (itEn (eaCons (evOp oIx (evVar 0) (evC (.int 1))) eaNil)) (gT 2 (gsCons (gN 2) (gsCons (gN 3) gsNil))) (ebOf (evB bAny (eaCons (evLc [4] (itVal (evVar 3)) (gN 4) ebYes (evOp oIn (evVar 4) (evVar 1))) eaNil))) (evVar 2)) eaNil))) sNil)
def f_view_of : Fn := fnRun false 5 b_view_of
def b_lots_of : Es := (sCons (sRet (evB bTuple (eaCons (evLc [2, 3] (itEn (eaCons (evOp oIx (evVar 0) (evC (.int 1))) eaNil)) (gT 2 (gsCons (gN 2) (gsCons (gN 3) gsNil))) (ebOf (evOp oIn (evVar 1) (evVar 3))) (evVar 2)) eaNil))) sNil)
def f_lots_of : Fn := fnRun false 4 b_lots_of
def b_is_plan : Es := (sCons (sRet (evB bBool (eaCons (evCall 1 f_fits_plan (eaCons (evVar 0) eaNil)) eaNil))) sNil)
def f_is_plan : Fn := fnRun false 1 b_is_plan
def b_shown : Es := (sCons (sExp (evCall 1 f_need_plan (eaCons (evVar 0) eaNil))) (sCons (sExp (evCall 2 f_need_case (eaCons (evVar 0) (eaCons (evVar 1) eaNil)))) (sCons (sRet (evCall 2 f_view_of (eaCons (evVar 0) (eaCons (evVar 1) eaNil)))) sNil)))
def f_shown : Fn := fnRun false 2 b_shown
def b_suspects : Es := (sCons (sExp (evCall 1 f_need_plan (eaCons (evVar 0) eaNil))) (sCons (sExp (evCall 2 f_need_view (eaCons (evB bLen (eaCons (evOp oIx (evVar 0) (evC (.int 1))) eaNil)) (eaCons (evVar 1) eaNil)))) (sCons (sRet (evB bTuple (eaCons (evLc [2] (itR1 (eaCons (evOp oIx (evVar 0) (evC (.int 0))) eaNil)) (gN 2) (ebOf (evB bAll (eaCons (evLc [3] (itVal (evCall 2 f_lots_of (eaCons (evVar 0) (eaCons (evVar 2) eaNil)))) (gN 3) ebYes (evOp oIn (evVar 3) (evVar 1))) eaNil))) (evVar 2)) eaNil))) sNil)))
def f_suspects : Fn := fnRun false 4 b_suspects
def b_lots_with : Es := (sCons (sExp (evCall 1 f_need_plan (eaCons (evVar 0) eaNil))) (sCons (sExp (evCall 2 f_need_thing (eaCons (evVar 1) (eaCons (evOp oIx (evVar 0) (evC (.int 0))) eaNil)))) (sCons (sRet (evCall 2 f_lots_of (eaCons (evVar 0) (eaCons (evVar 1) eaNil)))) sNil)))
def f_lots_with : Fn := fnRun false 2 b_lots_with
def b_law_cell : Es := (sCons (sIf (ebOf (evOp oLt (evVar 1) (evB bLen (eaCons (evVar 0) eaNil)))) (sCons (sRet (evOp oIx (evVar 0) (evVar 1))) sNil) sNil) (sCons (sIf (ebOf (evOp oEq (evB bLen (eaCons (evVar 0) eaNil)) (evC (.int 0)))) (sCons (sRet (evOp oAdd (evOp oMul (evC (.int 7919)) (evVar 1)) (evC (.int 101)))) sNil) sNil) (sCons (sRet (evOp oAdd (evOp oMod (evOp oIx (evVar 0) (evOp oMod (evVar 1) (evB bLen (eaCons (evVar 0) eaNil)))) (evC (.int 1000003))) (evOp oMul (evC (.int 7919)) (evVar 1)))) sNil)))
def f_law_cell : Fn := fnRun false 2 b_law_cell
def b_law_draws : Es := (sCons (sSet 4 (evTup (eaCons (evC (.int 2147483647)) (eaCons (evC (.int 2147483629)) (eaCons (evC (.int 2147483587)) (eaCons (evC (.int 2147483579)) (eaCons (evC (.int 2147483563)) (eaCons (evC (.int 2147483549)) (eaCons (evC (.int 2147483543)) (eaCons (evC (.int 2147483497)) eaNil)))))))))) (sCons (sSet 5 (evCall 2 f_law_cell (eaCons (evVar 0) (eaCons (evVar 1) eaNil)))) (sCons (sSet 6 (evC (.int 0))) (sCons (sIf (ebOf (evOp oGe (evVar 5) (evOp oPow (evC (.int 10)) (evC (.int 18))))) (sCons (sSet 6 (evVar 5)) sNil) sNil) (sCons (sSet 7 (evM (elDisp eaNil))) (sCons (sFor (itR1 (eaCons (evVar 2) eaNil)) (gN 8) (sCons (sSet 9 (evOp oMul (evOp oMod (evVar 5) (evOp oIx (evVar 4) (evOp oMod (evVar 8) (evC (.int 8))))) (evOp oAdd (evC (.int 48271)) (evOp oMul (evOp oMul (evC (.int 2)) (evVar 8)) (evVar 8))))) (sCons (sSet 9 (evOp oAdd (evOp oAdd (evVar 9) (evOp oMul (evOp oMul (evC (.int 7919)) (evOp oAdd (evVar 8) (evC (.int 1)))) (evOp oAdd (evVar 8) (evC (.int 1))))) (evOp oMul (evC (.int 104729)) (evVar 1)))) (sCons (sSet 9 (evOp oMod (evVar 9) (evOp oIx (evVar 4) (evOp oMod (evOp oAdd (evOp oMul (evC (.int 3)) (evVar 8)) (evVar 1)) (evC (.int 8)))))) (sCons (sSet 9 (evOp oMod (evOp oMul (evOp oMul (evVar 9) (evVar 9)) (evVar 9)) (evOp oIx (evVar 4) (evOp oMod (evOp oAdd (evVar 8) (evC (.int 5))) (evC (.int 8)))))) (sCons (sIf (ebOf (evOp oGt (evVar 6) (evC (.int 0)))) (sCons (sSet 9 (evVar 6)) sNil) sNil) (sCons (sExp (evMR mApp (evVar 7) (eaCons (evOp oMod (evVar 9) (evVar 3)) eaNil))) (sCons (sSet 6 (evOp oDiv (evVar 6) (evVar 3))) sNil)))))))) (sCons (sRet (evVar 7)) sNil)))))))
def f_law_draws : Fn := fnRun true 10 b_law_draws
def b_law_bag : Es := (sCons (sRet (evCall 4 f_law_draws (eaCons (evVar 0) (eaCons (evVar 1) (eaCons (evC (.int 150)) (eaCons (evC (.int 27720)) eaNil)))))) sNil)
def f_law_bag : Fn := fnRun true 2 b_law_bag
def b_law_take : Es := (sCons (sSet 2 (evIf (ebOf (evOp oNe (evVar 0) (evL (elDisp eaNil)))) (evMR mPop (evVar 0) (eaCons (evC (.int 0)) eaNil)) (evC (.int 0)))) (sCons (sRet (evOp oMod (evB bInt (eaCons (evVar 2) eaNil)) (evVar 1))) sNil))
def f_law_take : Fn := fnRun false 3 b_law_take
def b_law_choice : Es := (sCons (sRet (evOp oIx (evVar 1) (evCall 2 f_law_take (eaCons (evVar 0) (eaCons (evB bLen (eaCons (evVar 1) eaNil)) eaNil))))) sNil)
def f_law_choice : Fn := fnRun false 2 b_law_choice
def b_law_known : Es := (sCons (sSet 0 (evL (elDisp (eaCons (evTup (eaCons (evC (.int 4)) (eaCons (evTup (eaCons (evTup (eaCons (evC (.int 0)) (eaCons (evC (.int 1)) eaNil))) (eaCons (evTup (eaCons (evC (.int 0)) (eaCons (evC (.int 2)) eaNil))) (eaCons (evTup (eaCons (evC (.int 0)) (eaCons (evC (.int 3)) eaNil))) (eaCons (evTup (eaCons (evC (.int 1)) (eaCons (evC (.int 2)) eaNil))) (eaCons (evTup (eaCons (evC (.int 1)) (eaCons (evC (.int 3)) eaNil))) (eaCons (evTup (eaCons (evC (.int 2)) (eaCons (evC (.int 3)) eaNil))) eaNil))))))) eaNil))) (eaCons (evTup (eaCons (evC (.int 3)) (eaCons (evTup (eaCons (evTup (eaCons (evC (.int 0)) (eaCons (evC (.int 1)) eaNil))) (eaCons (evTup (eaCons (evC (.int 1)) (eaCons (evC (.int 2)) eaNil))) eaNil))) eaNil))) eaNil))))) (sCons (sRet (evOp oAdd (evVar 0) (evL (elDisp (eaCons (evTup (eaCons (evC (.int 2)) (eaCons (evTup eaNil) eaNil))) (eaCons (evTup (eaCons (evC (.int 3)) (eaCons (evTup (eaCons (evTup (eaCons (evC (.int 0)) eaNil)) (eaCons (evTup (eaCons (evC (.int 1)) eaNil)) (eaCons (evTup (eaCons (evC (.int 2)) eaNil)) eaNil)))) eaNil))) eaNil)))))) sNil))
def f_law_known : Fn := fnRun false 1 b_law_known
def b_law_plan : Es := (sCons (sPar 3 4 (eaCons (evOp oAdd (evC (.int 1)) (evCall 2 f_law_take (eaCons (evVar 0) (eaCons (evVar 1) eaNil)))) (eaCons (evTup eaNil) eaNil))) (sCons (sSet 5 (evCall 2 f_law_choice (eaCons (evVar 0) (eaCons (evL (elDisp (eaCons (evC (.int 2)) (eaCons (evC (.int 2)) (eaCons (evC (.int 3)) eaNil))))) eaNil)))) (sCons (sFor (itR1 (eaCons (evCall 2 f_law_take (eaCons (evVar 0) (eaCons (evOp oAdd (evVar 2) (evC (.int 1))) eaNil))) eaNil)) (gN 6) (sCons (sSet 4 (evOp oAdd (evVar 4) (evTup (eaCons (evB bTuple (eaCons (evLc [7] (itR1 (eaCons (evVar 3) eaNil)) (gN 7) (ebOf (evOp oEq (evCall 2 f_law_take (eaCons (evVar 0) (eaCons (evVar 5) eaNil))) (evC (.int 0)))) (evVar 7)) eaNil)) eaNil)))) sNil)) (sCons (sRet (evTup (eaCons (evVar 3) (eaCons (evVar 4) eaNil)))) sNil))))
def f_law_plan : Fn := fnRun false 8 b_law_plan
def b_law_view : Es := (sCons (sSet 2 (evTup eaNil)) (sCons (sFor (itEn (eaCons (evOp oIx (evVar 0) (evC (.int 1))) eaNil)) (gT 2 (gsCons (gN 3) (gsCons (gN 4) gsNil))) (sCons (sIf (ebOf (evOp oNe (evLc [5] (itVal (evVar 4)) (gN 5) (ebOf (evOp oIn (evVar 5) (evVar 1))) (evVar 5)) (evL (elDisp eaNil)))) (sCons (sSet 2 (evOp oAdd (evVar 2) (evTup (eaCons (evVar 3) eaNil)))) sNil) sNil) sNil)) (sCons (sRet (evVar 2)) sNil)))
def f_law_view : Fn := fnRun false 6 b_law_view
def b_law_suspects : Es := (sCons (sSet 2 (evL (elDisp eaNil))) (sCons (sFor (itEn (eaCons (evOp oIx (evVar 0) (evC (.int 1))) eaNil)) (gT 2 (gsCons (gN 3) (gsCons (gN 4) gsNil))) (sCons (sSet 2 (evOp oAdd (evVar 2) (evIf (ebOf (evOp oIn (evVar 3) (evVar 1))) (evL (elDisp eaNil)) (evB bList (eaCons (evVar 4) eaNil))))) sNil)) (sCons (sRet (evB bTuple (eaCons (evLc [5] (itR1 (eaCons (evOp oIx (evVar 0) (evC (.int 0))) eaNil)) (gN 5) (ebOf (evOp oNotIn (evVar 5) (evVar 2))) (evVar 5)) eaNil))) sNil)))
def f_law_suspects : Fn := fnRun false 6 b_law_suspects
def b_law_whole : Es := (sCons (sRet (evAnd (evIs .int (evVar 0)) (evAnd (evNot (evIs .bool (evVar 0))) (evChain oLe oLe (evVar 1) (evVar 0) (evVar 2))))) sNil)
def f_law_whole : Fn := fnRun false 3 b_law_whole
def b_law_rising : Es := (sCons (sIf (ebNot (ebOf (evIs .tuple (evVar 0)))) (sCons (sRet (evC (.bl false))) sNil) sNil) (sCons (sIf (ebOf (evOp oNe (evLc [2] (itVal (evVar 0)) (gN 2) (ebNot (ebOf (evCall 3 f_law_whole (eaCons (evVar 2) (eaCons (evC (.int 0)) (eaCons (evOp oSub (evVar 1) (evC (.int 1))) eaNil)))))) (evVar 2)) (evL (elDisp eaNil)))) (sCons (sRet (evC (.bl false))) sNil) sNil) (sCons (sRet (evOp oEq (evB bList (eaCons (evVar 0) eaNil)) (evSS (evVar 0)))) sNil)))
def f_law_rising : Fn := fnRun false 3 b_law_rising
def b_law_truly : Es := (sCons (sRet (evAnd (evIs .bool (evVar 0)) (evOp oEq (evVar 0) (evVar 1)))) sNil)
def f_law_truly : Fn := fnRun false 2 b_law_truly
def b_law_bad_plans : Es := (sCons (sSet 0 (evL (elDisp (eaCons (evC .non) (eaCons (evTup eaNil) (eaCons (evTup (eaCons (evC (.int 1)) eaNil)) (eaCons (evL (elDisp (eaCons (evC (.int 1)) (eaCons (evTup eaNil) eaNil)))) (eaCons (evTup (eaCons (evC (.int 0)) (eaCons (evTup eaNil) eaNil))) (eaCons (evTup (eaCons (evC (.int 11)) (eaCons (evTup eaNil) eaNil))) (eaCons (evTup (eaCons (evC (.bl true)) (eaCons (evTup eaNil) eaNil))) (eaCons (evTup (eaCons (evC (.int 2)) (eaCons (evL (elDisp eaNil)) eaNil))) (eaCons (evTup (eaCons (evC (.int 2)) (eaCons (evTup (eaCons (evTup (eaCons (evC (.int 0)) (eaCons (evC (.int 2)) eaNil))) eaNil)) eaNil))) (eaCons (evTup (eaCons (evC (.int 2)) (eaCons (evTup (eaCons (evTup (eaCons (evC (.int 1)) (eaCons (evC (.int 0)) eaNil))) eaNil)) eaNil))) eaNil))))))))))))) (sCons (sSet 0 (evOp oAdd (evVar 0) (evL (elDisp (eaCons (evTup (eaCons (evC (.int 2)) (eaCons (evTup (eaCons (evTup (eaCons (evC (.int 0)) (eaCons (evC (.int 0)) eaNil))) eaNil)) eaNil))) (eaCons (evTup (eaCons (evC (.int 2)) (eaCons (evTup (eaCons (evTup (eaCons (evNeg (evC (.int 1))) eaNil)) eaNil)) eaNil))) (eaCons (evTup (eaCons (evC (.int 2)) (eaCons (evTup (eaCons (evTup (eaCons (evC (.bl true)) eaNil)) eaNil)) eaNil))) (eaCons (evTup (eaCons (evC (.int 2)) (eaCons (evTup (eaCons (evL (elDisp (eaCons (evC (.int 0)) eaNil))) eaNil)) eaNil))) (eaCons (evTup (eaCons (evC (.int 2)) (eaCons (evOp oMul (evTup (eaCons (evTup eaNil) eaNil)) (evC (.int 11))) eaNil))) (eaCons (evTup (eaCons (evC (.int 2)) (eaCons (evTup (eaCons (evC (.int 0)) (eaCons (evC (.int 1)) eaNil))) eaNil))) eaNil)))))))))) (sCons (sRet (evOp oAdd (evVar 0) (evL (elDisp (eaCons (evTup (eaCons (evC (.int 2)) (eaCons (evTup eaNil) (eaCons (evTup eaNil) eaNil)))) (eaCons (evTup (eaCons (evC (.str "2")) (eaCons (evTup eaNil) eaNil))) (eaCons (evTup (eaCons (evC (.int 2)) (eaCons (evC (.str "ab")) eaNil))) (eaCons (evTup (eaCons (evC (.int 2)) (eaCons (evTup (eaCons (evTup (eaCons (evC (.int 0)) (eaCons (evC (.str "1")) eaNil))) eaNil)) eaNil))) (eaCons (evTup (eaCons (evC (.int 2)) (eaCons (evC .non) eaNil))) eaNil))))))))) sNil)))
def f_law_bad_plans : Fn := fnRun false 1 b_law_bad_plans
def b_law_bad_views : Es := (sCons (sRet (evL (elDisp (eaCons (evC .non) (eaCons (evTup (eaCons (evVar 0) eaNil)) (eaCons (evTup (eaCons (evNeg (evC (.int 1))) eaNil)) (eaCons (evL (elDisp (eaCons (evC (.int 0)) eaNil))) (eaCons (evC (.str "0")) (eaCons (evTup (eaCons (evC (.int 0)) (eaCons (evC (.int 0)) eaNil))) (eaCons (evTup (eaCons (evC (.bl true)) eaNil)) (eaCons (evTup (eaCons (evC (.str "0")) eaNil)) (eaCons (evC (.int 0)) (eaCons (evTup (eaCons (evC (.int 1)) (eaCons (evC (.int 0)) eaNil))) eaNil))))))))))))) sNil)
def f_law_bad_views : Fn := fnRun false 1 b_law_bad_views
def b_law_good_plan : Es := (sCons (sIf (ebOr (ebNot (ebOf (evIs .tuple (evVar 0)))) (ebOr (ebOf (evOp oNe (evB bLen (eaCons (evVar 0) eaNil)) (evC (.int 2)))) (ebNot (ebOf (evCall 3 f_law_whole (eaCons (evOp oIx (evVar 0) (evC (.int 0))) (eaCons (evC (.int 1)) (eaCons (evC (.int 10)) eaNil)))))))) (sCons (sRet (evC (.bl false))) sNil) sNil) (sCons (sIf (ebOr (ebNot (ebOf (evIs .tuple (evOp oIx (evVar 0) (evC (.int 1)))))) (ebOf (evOp oGt (evB bLen (eaCons (evOp oIx (evVar 0) (evC (.int 1))) eaNil)) (evC (.int 10))))) (sCons (sRet (evC (.bl false))) sNil) sNil) (sCons (sRet (evOp oEq (evLc [1] (itVal (evOp oIx (evVar 0) (evC (.int 1)))) (gN 1) (ebNot (ebOf (evCall 2 f_law_rising (eaCons (evVar 1) (eaCons (evOp oIx (evVar 0) (evC (.int 0))) eaNil))))) (evVar 1)) (evL (elDisp eaNil)))) sNil)))
def f_law_good_plan : Fn := fnRun false 2 b_law_good_plan
def b_need_number : Es := (sCons (sIf (ebNot (ebOf (evCall 3 f_is_whole (eaCons (evVar 0) (eaCons (evVar 1) (eaCons (evVar 2) eaNil)))))) (sCons (sExc "InvalidNumber") sNil) sNil) sNil)
def f_need_number : Fn := fnRun false 3 b_need_number
def b_cases_of : Es := (sCons (sSet 2 (evL (elDisp (eaCons (evTup eaNil) eaNil)))) (sCons (sFor (itR1 (eaCons (evVar 0) eaNil)) (gN 3) (sCons (sSet 2 (evOp oAdd (evVar 2) (evLc [4] (itVal (evVar 2)) (gN 4) (ebOf (evOp oLt (evB bLen (eaCons (evVar 4) eaNil)) (evVar 1))) (evOp oAdd (evVar 4) (evTup (eaCons (evVar 3) eaNil)))))) sNil)) (sCons (sRet (evB bSorted (eaCons (evVar 2) eaNil))) sNil)))
def f_cases_of : Fn := fnRun false 5 b_cases_of
def b_others_of : Es := (sCons (sSet 3 (evLc [4] (itVal (evCall 2 f_cases_of (eaCons (evOp oIx (evVar 0) (evC (.int 0))) (eaCons (evVar 2) eaNil)))) (gN 4) (ebOf (evOp oNotIn (evVar 1) (evVar 4))) (evVar 4))) (sCons (sRet (evLc2 [4, 5] [4] (itR1 (eaCons (evOp oAdd (evVar 2) (evC (.int 1))) eaNil)) (gN 5) ebYes (itVal (evVar 3)) (gN 4) (ebOf (evOp oEq (evB bLen (eaCons (evVar 4) eaNil)) (evVar 5))) (evVar 4))) sNil))
def f_others_of : Fn := fnRun false 6 b_others_of
def b_left_of : Es := (sCons (sSet 3 (evCall 2 f_view_of (eaCons (evVar 0) (eaCons (evVar 2) eaNil)))) (sCons (sRet (evB bLen (eaCons (evLc [4] (itVal (evCall 2 f_lots_of (eaCons (evVar 0) (eaCons (evVar 1) eaNil)))) (gN 4) (ebOf (evOp oNotIn (evVar 4) (evVar 3))) (evVar 4)) eaNil))) sNil))
def f_left_of : Fn := fnRun false 5 b_left_of
def b_hidden_in : Es := (sCons (sSet 2 (evC .non)) (sCons (sFor (itR1 (eaCons (evOp oIx (evVar 0) (evC (.int 0))) eaNil)) (gN 3) (sCons (sFor (itVal (evCall 3 f_others_of (eaCons (evVar 0) (eaCons (evVar 3) (eaCons (evVar 1) eaNil))))) (gN 4) (sCons (sIf (ebAnd (ebOf (evOp oEq (evCall 3 f_left_of (eaCons (evVar 0) (eaCons (evVar 3) (eaCons (evVar 4) eaNil)))) (evC (.int 0)))) (ebOr (ebOf (evOp oIs (evVar 2) (evC .non))) (ebOf (evOp oLt (evB bLen (eaCons (evVar 4) eaNil)) (evB bLen (eaCons (evOp oIx (evVar 2) (evC (.int 1))) eaNil)))))) (sCons (sSet 2 (evTup (eaCons (evVar 3) (eaCons (evVar 4) eaNil)))) sNil) sNil) sNil)) sNil)) (sCons (sRet (evVar 2)) sNil)))
def f_hidden_in : Fn := fnRun false 5 b_hidden_in
def b_is_read : Es := (sCons (sRet (evOp oIs (evCall 2 f_hidden_in (eaCons (evVar 0) (eaCons (evVar 1) eaNil))) (evC .non))) sNil)
def f_is_read : Fn := fnRun false 2 b_is_read
def b_need_both : Es := (sCons (sExp (evCall 1 f_need_plan (eaCons (evVar 0) eaNil))) (sCons (sExp (evCall 3 f_need_number (eaCons (evVar 1) (eaCons (evC (.int 0)) (eaCons (evC (.int 10)) eaNil))))) sNil))
def f_need_both : Fn := fnRun false 2 b_need_both
def b_reads : Es := (sCons (sExp (evCall 2 f_need_both (eaCons (evVar 0) (eaCons (evVar 1) eaNil)))) (sCons (sRet (evCall 2 f_is_read (eaCons (evVar 0) (eaCons (evVar 1) eaNil)))) sNil))
def f_reads : Fn := fnRun false 2 b_reads
def b_hidden : Es := (sCons (sExp (evCall 2 f_need_both (eaCons (evVar 0) (eaCons (evVar 1) eaNil)))) (sCons (sRet (evCall 2 f_hidden_in (eaCons (evVar 0) (eaCons (evVar 1) eaNil)))) sNil))
def f_hidden : Fn := fnRun false 2 b_hidden
def b_most_read : Es := (sCons (sExp (evCall 1 f_need_plan (eaCons (evVar 0) eaNil))) (sCons (sSet 1 (evLc [2] (itR1 (eaCons (evOp oAdd (evOp oIx (evVar 0) (evC (.int 0))) (evC (.int 1))) eaNil)) (gN 2) (ebOf (evCall 2 f_is_read (eaCons (evVar 0) (eaCons (evVar 2) eaNil)))) (evVar 2))) (sCons (sRet (evIf (ebOf (evOp oNe (evVar 1) (evL (elDisp eaNil)))) (evOp oIx (evVar 1) (evNeg (evC (.int 1)))) (evC .non))) sNil)))
def f_most_read : Fn := fnRun false 3 b_most_read
def b_margin : Es := (sCons (sExp (evCall 2 f_need_both (eaCons (evVar 0) (eaCons (evVar 1) eaNil)))) (sCons (sSet 2 (evL (elDisp eaNil))) (sCons (sFor (itR1 (eaCons (evOp oIx (evVar 0) (evC (.int 0))) eaNil)) (gN 3) (sCons (sSet 2 (evOp oAdd (evVar 2) (evLc [4] (itVal (evCall 3 f_others_of (eaCons (evVar 0) (eaCons (evVar 3) (eaCons (evVar 1) eaNil))))) (gN 4) ebYes (evCall 3 f_left_of (eaCons (evVar 0) (eaCons (evVar 3) (eaCons (evVar 4) eaNil))))))) sNil)) (sCons (sRet (evB bMin (eaCons (evVar 2) eaNil))) sNil))))
def f_margin : Fn := fnRun false 5 b_margin
def b_law_cases : Es := (sCons (sSet 2 (evL (elDisp (eaCons (evTup eaNil) eaNil)))) (sCons (sFor (itR1 (eaCons (evVar 0) eaNil)) (gN 3) (sCons (sSet 2 (evOp oAdd (evVar 2) (evLc [4] (itVal (evVar 2)) (gN 4) (ebOf (evOp oLt (evB bLen (eaCons (evVar 4) eaNil)) (evVar 1))) (evOp oAdd (evVar 4) (evTup (eaCons (evVar 3) eaNil)))))) sNil)) (sCons (sRet (evB bSorted (eaCons (evVar 2) eaNil))) sNil)))
def f_law_cases : Fn := fnRun false 5 b_law_cases
def b_law_bad_mosts : Es := (sCons (sRet (evL (elDisp (eaCons (evC .non) (eaCons (evNeg (evC (.int 1))) (eaCons (evC (.int 11)) (eaCons (evC (.bl true)) (eaCons (evC (.str "1")) (eaCons (evTup (eaCons (evC (.int 1)) eaNil)) eaNil))))))))) sNil)
def f_law_bad_mosts : Fn := fnRun false 0 b_law_bad_mosts
def b_law_reads : Es := (sCons (sFor (itVal (evCall 2 f_law_cases (eaCons (evOp oIx (evVar 0) (evC (.int 0))) (eaCons (evVar 1) eaNil)))) (gN 2) (sCons (sIf (ebOf (evOp oNe (evCall 2 f_law_suspects (eaCons (evVar 0) (eaCons (evCall 2 f_law_view (eaCons (evVar 0) (eaCons (evVar 2) eaNil))) eaNil))) (evVar 2))) (sCons (sRet (evC (.bl false))) sNil) sNil) sNil)) (sCons (sRet (evC (.bl true))) sNil))
def f_law_reads : Fn := fnRun false 3 b_law_reads
def b_law_left : Es := (sCons (sSet 3 (evC (.int 0))) (sCons (sFor (itVal (evOp oIx (evVar 0) (evC (.int 1)))) (gN 4) (sCons (sIf (ebAnd (ebOf (evOp oIn (evVar 1) (evVar 4))) (ebOf (evOp oEq (evLc [5] (itVal (evVar 2)) (gN 5) (ebOf (evOp oIn (evVar 5) (evVar 4))) (evVar 5)) (evL (elDisp eaNil))))) (sCons (sSet 3 (evOp oAdd (evVar 3) (evC (.int 1)))) sNil) sNil) sNil)) (sCons (sRet (evVar 3)) sNil)))
def f_law_left : Fn := fnRun false 6 b_law_left
def b_law_rows : Es := (sCons (sSet 2 (evM (elDisp eaNil))) (sCons (sFor (itR1 (eaCons (evOp oIx (evVar 0) (evC (.int 0))) eaNil)) (gN 3) (sCons (sFor (itVal (evCall 2 f_law_cases (eaCons (evOp oIx (evVar 0) (evC (.int 0))) (eaCons (evVar 1) eaNil)))) (gN 4) (sCons (sIf (ebOf (evOp oNotIn (evVar 3) (evVar 4))) (sCons (sExp (evMR mApp (evVar 2) (eaCons (evTup (eaCons (evB bLen (eaCons (evVar 4) eaNil)) (eaCons (evVar 3) (eaCons (evVar 4) eaNil)))) eaNil))) sNil) sNil) sNil)) sNil)) (sCons (sRet (evB bSorted (eaCons (evVar 2) eaNil))) sNil)))
def f_law_rows : Fn := fnRun false 5 b_law_rows
def b_law_plan_right : Es := (sCons (sSet 1 (evL (elDisp eaNil))) (sCons (sFor (itR1 (eaCons (evOp oAdd (evOp oIx (evVar 0) (evC (.int 0))) (evC (.int 2))) eaNil)) (gN 2) (sCons (sSet 3 (evCall 2 f_law_rows (eaCons (evVar 0) (eaCons (evVar 2) eaNil)))) (sCons (sSet 4 (evLc [7, 8, 9] (itVal (evVar 3)) (gT 3 (gsCons (gN 7) (gsCons (gN 8) (gsCons (gN 9) gsNil)))) ebYes (evCall 3 f_law_left (eaCons (evVar 0) (eaCons (evVar 8) (eaCons (evVar 9) eaNil)))))) (sCons (sSet 5 (evLc [7, 8, 9, 10] (itZip (eaCons (evVar 3) (eaCons (evVar 4) eaNil))) (gT 2 (gsCons (gT 3 (gsCons (gN 7) (gsCons (gN 8) (gsCons (gN 9) gsNil)))) (gsCons (gN 10) gsNil))) (ebOf (evOp oEq (evVar 10) (evC (.int 0)))) (evTup (eaCons (evVar 8) (eaCons (evVar 9) eaNil))))) (sCons (sSet 6 (evCall 2 f_law_reads (eaCons (evVar 0) (eaCons (evVar 2) eaNil)))) (sCons (sIf (ebOr (ebNot (ebOf (evCall 2 f_law_truly (eaCons (evCall 2 f_reads (eaCons (evVar 0) (eaCons (evVar 2) eaNil))) (eaCons (evVar 6) eaNil))))) (ebOf (evOp oNe (evVar 6) (evOp oEq (evVar 5) (evL (elDisp eaNil)))))) (sCons (sRet (evC (.bl false))) sNil) sNil) (sCons (sIf (ebOr (ebOf (evOp oNe (evCall 2 f_hidden (eaCons (evVar 0) (eaCons (evVar 2) eaNil))) (evIf (ebOf (evOp oNe (evVar 5) (evL (elDisp eaNil)))) (evOp oIx (evVar 5) (evC (.int 0))) (evC .non)))) (ebOf (evOp oNe (evCall 2 f_margin (eaCons (evVar 0) (eaCons (evVar 2) eaNil))) (evB bMin (eaCons (evVar 4) eaNil))))) (sCons (sRet (evC (.bl false))) sNil) sNil) (sCons (sSet 1 (evOp oAdd (evVar 1) (evIf (ebAnd (ebOf (evVar 6)) (ebOf (evOp oLe (evVar 2) (evOp oIx (evVar 0) (evC (.int 0)))))) (evL (elDisp (eaCons (evVar 2) eaNil))) (evL (elDisp eaNil))))) sNil)))))))) (sCons (sRet (evOp oEq (evCall 1 f_most_read (eaCons (evVar 0) eaNil)) (evIf (ebOf (evOp oNe (evVar 1) (evL (elDisp eaNil)))) (evOp oIx (evVar 1) (evNeg (evC (.int 1)))) (evC .non)))) sNil)))
def f_law_plan_right : Fn := fnRun false 11 b_law_plan_right
def b_views_of : Es := (sCons (sRet (evLc [2] (itVal (evCall 2 f_cases_of (eaCons (evOp oIx (evVar 0) (evC (.int 0))) (eaCons (evVar 1) eaNil)))) (gN 2) ebYes (evTup (eaCons (evVar 2) (eaCons (evCall 2 f_view_of (eaCons (evVar 0) (eaCons (evVar 2) eaNil))) eaNil))))) sNil)
def f_views_of : Fn := fnRun false 3 b_views_of
def b_first_alike : Es := (sCons (sSet 2 (evCall 2 f_views_of (eaCons (evVar 0) (eaCons (evVar 1) eaNil)))) (sCons (sFor (itEn (eaCons (evVar 2) eaNil)) (gT 2 (gsCons (gN 3) (gsCons (gT 2 (gsCons (gN 4) (gsCons (gN 5) gsNil))) gsNil))) (sCons (sFor (itVal (evSl (evVar 2) (eoSome (evOp oAdd (evVar 3) (evC (.int 1)))) eoNone)) (gT 2 (gsCons (gN 6) (gsCons (gN 7) gsNil))) (sCons (sIf (ebOf (evOp oEq (evVar 5) (evVar 7))) (sCons (sRet (evTup (eaCons (evVar 4) (eaCons (evVar 6) eaNil)))) sNil) sNil) sNil)) sNil)) (sCons (sRet (evC .non)) sNil)))
def f_first_alike : Fn := fnRun false 8 b_first_alike
def b_apart : Es := (sCons (sRet (evOp oAdd (evB bLen (eaCons (evLc [2] (itVal (evVar 0)) (gN 2) (ebOf (evOp oNotIn (evVar 2) (evVar 1))) (evVar 2)) eaNil)) (evB bLen (eaCons (evLc [2] (itVal (evVar 1)) (gN 2) (ebOf (evOp oNotIn (evVar 2) (evVar 0))) (evVar 2)) eaNil)))) sNil)
def f_apart : Fn := fnRun false 3 b_apart
def b_gap_of : Es := (sCons (sSet 2 (evCall 2 f_views_of (eaCons (evVar 0) (eaCons (evVar 1) eaNil)))) (sCons (sSet 3 (evB bLen (eaCons (evOp oIx (evVar 0) (evC (.int 1))) eaNil))) (sCons (sFor (itEn (eaCons (evVar 2) eaNil)) (gT 2 (gsCons (gN 4) (gsCons (gT 2 (gsCons (gN 5) (gsCons (gN 6) gsNil))) gsNil))) (sCons (sFor (itVal (evSl (evVar 2) (eoSome (evOp oAdd (evVar 4) (evC (.int 1)))) eoNone)) (gT 2 (gsCons (gN 7) (gsCons (gN 8) gsNil))) (sCons (sSet 3 (evB bMin (eaCons (evVar 3) (eaCons (evCall 2 f_apart (eaCons (evVar 6) (eaCons (evVar 8) eaNil))) eaNil)))) sNil)) sNil)) (sCons (sRet (evVar 3)) sNil))))
def f_gap_of : Fn := fnRun false 9 b_gap_of
def b_tells : Es := (sCons (sExp (evCall 2 f_need_both (eaCons (evVar 0) (eaCons (evVar 1) eaNil)))) (sCons (sRet (evOp oIs (evCall 2 f_first_alike (eaCons (evVar 0) (eaCons (evVar 1) eaNil))) (evC .non))) sNil))
def f_tells : Fn := fnRun false 2 b_tells
def b_alike_pair : Es := (sCons (sExp (evCall 2 f_need_both (eaCons (evVar 0) (eaCons (evVar 1) eaNil)))) (sCons (sRet (evCall 2 f_first_alike (eaCons (evVar 0) (eaCons (evVar 1) eaNil)))) sNil))
def f_alike_pair : Fn := fnRun false 2 b_alike_pair
def b_most_told : Es := (sCons (sExp (evCall 1 f_need_plan (eaCons (evVar 0) eaNil))) (sCons (sRet (evB bMax (eaCons (evLc [1] (itR1 (eaCons (evOp oAdd (evOp oIx (evVar 0) (evC (.int 0))) (evC (.int 1))) eaNil)) (gN 1) (ebOf (evOp oIs (evCall 2 f_first_alike (eaCons (evVar 0) (eaCons (evVar 1) eaNil))) (evC .non))) (evVar 1)) eaNil))) sNil))
def f_most_told : Fn := fnRun false 2 b_most_told
def b_cases_for : Es := (sCons (sExp (evCall 1 f_need_plan (eaCons (evVar 0) eaNil))) (sCons (sExp (evCall 2 f_need_view (eaCons (evB bLen (eaCons (evOp oIx (evVar 0) (evC (.int 1))) eaNil)) (eaCons (evVar 1) eaNil)))) (sCons (sExp (evCall 3 f_need_number (eaCons (evVar 2) (eaCons (evC (.int 0)) (eaCons (evC (.int 10)) eaNil))))) (sCons (sRet (evLc [3, 4] (itVal (evCall 2 f_views_of (eaCons (evVar 0) (eaCons (evVar 2) eaNil)))) (gT 2 (gsCons (gN 3) (gsCons (gN 4) gsNil))) (ebOf (evOp oEq (evVar 4) (evVar 1))) (evVar 3))) sNil))))
def f_cases_for : Fn := fnRun false 5 b_cases_for
def b_gap : Es := (sCons (sExp (evCall 1 f_need_plan (eaCons (evVar 0) eaNil))) (sCons (sExp (evCall 3 f_need_number (eaCons (evVar 1) (eaCons (evC (.int 1)) (eaCons (evC (.int 10)) eaNil))))) (sCons (sRet (evCall 2 f_gap_of (eaCons (evVar 0) (eaCons (evVar 1) eaNil)))) sNil)))
def f_gap : Fn := fnRun false 2 b_gap
def b_mends : Es := (sCons (sExp (evCall 1 f_need_plan (eaCons (evVar 0) eaNil))) (sCons (sExp (evCall 3 f_need_number (eaCons (evVar 1) (eaCons (evC (.int 1)) (eaCons (evC (.int 10)) eaNil))))) (sCons (sSet 2 (evCall 2 f_gap_of (eaCons (evVar 0) (eaCons (evVar 1) eaNil)))) (sCons (sRet (evIf (ebOf (evOp oEq (evVar 2) (evC (.int 0)))) (evC .non) (evOp oDiv (evOp oSub (evVar 2) (evC (.int 1))) (evC (.int 2))))) sNil))))
def f_mends : Fn := fnRun false 3 b_mends
def b_nearest : Es := (sCons (sExp (evCall 1 f_need_plan (eaCons (evVar 0) eaNil))) (sCons (sExp (evCall 2 f_need_view (eaCons (evB bLen (eaCons (evOp oIx (evVar 0) (evC (.int 1))) eaNil)) (eaCons (evVar 1) eaNil)))) (sCons (sExp (evCall 3 f_need_number (eaCons (evVar 2) (eaCons (evC (.int 0)) (eaCons (evC (.int 10)) eaNil))))) (sCons (sSet 3 (evLc [5, 6] (itVal (evCall 2 f_views_of (eaCons (evVar 0) (eaCons (evVar 2) eaNil)))) (gT 2 (gsCons (gN 5) (gsCons (gN 6) gsNil))) ebYes (evTup (eaCons (evCall 2 f_apart (eaCons (evVar 1) (eaCons (evVar 6) eaNil))) (eaCons (evVar 5) eaNil))))) (sCons (sSet 4 (evB bMin (eaCons (evLc [5, 7] (itVal (evVar 3)) (gT 2 (gsCons (gN 7) (gsCons (gN 5) gsNil))) ebYes (evVar 7)) eaNil))) (sCons (sRet (evTup (eaCons (evVar 4) (eaCons (evLc [5, 7] (itVal (evVar 3)) (gT 2 (gsCons (gN 7) (gsCons (gN 5) gsNil))) (ebOf (evOp oEq (evVar 7) (evVar 4))) (evVar 5)) eaNil)))) sNil))))))
def f_nearest : Fn := fnRun false 8 b_nearest
def b_law_apart : Es := (sCons (sRet (evB bLen (eaCons (evLc [2] (itVal (evOp oAdd (evVar 0) (evVar 1))) (gN 2) (ebOr (ebOf (evOp oNotIn (evVar 2) (evVar 0))) (ebOf (evOp oNotIn (evVar 2) (evVar 1)))) (evVar 2)) eaNil))) sNil)
def f_law_apart : Fn := fnRun false 3 b_law_apart
def b_law_view_right : Es := (sCons (sSet 3 (evCall 2 f_law_cases (eaCons (evOp oIx (evVar 0) (evC (.int 0))) (eaCons (evVar 2) eaNil)))) (sCons (sSet 4 (evLc [7] (itVal (evVar 3)) (gN 7) ebYes (evCall 2 f_law_apart (eaCons (evVar 1) (eaCons (evCall 2 f_law_view (eaCons (evVar 0) (eaCons (evVar 7) eaNil))) eaNil))))) (sCons (sSet 5 (evLc [7, 8] (itZip (eaCons (evVar 3) (eaCons (evVar 4) eaNil))) (gT 2 (gsCons (gN 7) (gsCons (gN 8) gsNil))) (ebOf (evOp oEq (evVar 8) (evC (.int 0)))) (evVar 7))) (sCons (sSet 6 (evLc [7, 8] (itZip (eaCons (evVar 3) (eaCons (evVar 4) eaNil))) (gT 2 (gsCons (gN 7) (gsCons (gN 8) gsNil))) (ebOf (evOp oEq (evVar 8) (evB bMin (eaCons (evVar 4) eaNil)))) (evVar 7))) (sCons (sRet (evAnd (evOp oEq (evCall 3 f_cases_for (eaCons (evVar 0) (eaCons (evVar 1) (eaCons (evVar 2) eaNil)))) (evVar 5)) (evOp oEq (evCall 3 f_nearest (eaCons (evVar 0) (eaCons (evVar 1) (eaCons (evVar 2) eaNil)))) (evTup (eaCons (evB bMin (eaCons (evVar 4) eaNil)) (eaCons (evVar 6) eaNil)))))) sNil)))))
def f_law_view_right : Fn := fnRun false 9 b_law_view_right
def b_chosen : Es := (sCons (sIf (ebOr (ebOf (evOp oLt (evVar 1) (evC (.int 0)))) (ebOf (evOp oGt (evVar 1) (evVar 0)))) (sCons (sRet (evC (.int 0))) sNil) sNil) (sCons (sSet 2 (evC (.int 1))) (sCons (sFor (itR1 (eaCons (evVar 1) eaNil)) (gN 3) (sCons (sSet 2 (evOp oDiv (evOp oMul (evVar 2) (evOp oSub (evVar 0) (evVar 3))) (evOp oAdd (evVar 3) (evC (.int 1))))) sNil)) (sCons (sRet (evVar 2)) sNil))))
def f_chosen : Fn := fnRun false 4 b_chosen
def b_doubled : Es := (sCons (sSet 1 (evC (.int 1))) (sCons (sFor (itR1 (eaCons (evVar 0) eaNil)) (gN 2) (sCons (sSet 1 (evOp oMul (evC (.int 2)) (evVar 1))) sNil)) (sCons (sRet (evVar 1)) sNil)))
def f_doubled : Fn := fnRun false 3 b_doubled
def b_half : Es := (sCons (sRet (evOp oDiv (evOp oAdd (evVar 0) (evC (.int 1))) (evC (.int 2)))) sNil)
def f_half : Fn := fnRun false 1 b_half
def b_fewest : Es := (sCons (sSet 2 (evC (.int 1))) (sCons (sWhile whN (ebOf (evOp oLt (evIf (ebOf (evOp oEq (evVar 1) (evC (.str "read")))) (evCall 2 f_chosen (eaCons (evVar 2) (eaCons (evCall 1 f_half (eaCons (evVar 2) eaNil)) eaNil))) (evOp oSub (evCall 1 f_doubled (eaCons (evVar 2) eaNil)) (evC (.int 1)))) (evVar 0))) (sCons (sSet 2 (evOp oAdd (evVar 2) (evC (.int 1)))) sNil)) (sCons (sRet (evVar 2)) sNil)))
def f_fewest : Fn := fnRun false 3 b_fewest
def b_tuple_at : Es := (sCons (sPar 3 4 (eaCons (evTup eaNil) (eaCons (evC (.int 0)) eaNil))) (sCons (sWhile whN (ebOf (evOp oLt (evB bLen (eaCons (evVar 3) eaNil)) (evVar 1))) (sCons (sSet 5 (evCall 2 f_chosen (eaCons (evOp oSub (evOp oSub (evVar 0) (evVar 4)) (evC (.int 1))) (eaCons (evOp oSub (evOp oSub (evVar 1) (evB bLen (eaCons (evVar 3) eaNil))) (evC (.int 1))) eaNil)))) (sCons (sIf (ebOf (evOp oLt (evVar 2) (evVar 5))) (sCons (sSet 3 (evOp oAdd (evVar 3) (evTup (eaCons (evVar 4) eaNil)))) sNil) (sCons (sSet 2 (evOp oSub (evVar 2) (evVar 5))) sNil)) (sCons (sSet 4 (evOp oAdd (evVar 4) (evC (.int 1)))) sNil)))) (sCons (sRet (evVar 3)) sNil)))
def f_tuple_at : Fn := fnRun false 6 b_tuple_at
def b_index_of : Es := (sCons (sAsg (gT 2 (gsCons (gN 2) (gsCons (gN 3) gsNil))) (evTup (eaCons (evC (.int 0)) (eaCons (evC (.int 0)) eaNil)))) (sCons (sFor (itEn (eaCons (evVar 1) eaNil)) (gT 2 (gsCons (gN 4) (gsCons (gN 5) gsNil))) (sCons (sFor (itR2 (eaCons (evVar 3) (eaCons (evVar 5) eaNil))) (gN 6) (sCons (sSet 2 (evOp oAdd (evVar 2) (evCall 2 f_chosen (eaCons (evOp oSub (evOp oSub (evVar 0) (evVar 6)) (evC (.int 1))) (eaCons (evOp oSub (evOp oSub (evB bLen (eaCons (evVar 1) eaNil)) (evVar 4)) (evC (.int 1))) eaNil))))) sNil)) (sCons (sSet 3 (evOp oAdd (evVar 5) (evC (.int 1)))) sNil))) (sCons (sRet (evVar 2)) sNil)))
def f_index_of : Fn := fnRun false 7 b_index_of
def b_places_of : Es := (sCons (sPar 1 2 (eaCons (evTup eaNil) (eaCons (evC (.int 0)) eaNil))) (sCons (sWhile whN (ebOf (evOp oGt (evVar 0) (evC (.int 0)))) (sCons (sIf (ebOf (evOp oEq (evOp oMod (evVar 0) (evC (.int 2))) (evC (.int 1)))) (sCons (sSet 1 (evOp oAdd (evVar 1) (evTup (eaCons (evVar 2) eaNil)))) sNil) sNil) (sCons (sPar 0 2 (eaCons (evOp oDiv (evVar 0) (evC (.int 2))) (eaCons (evOp oAdd (evVar 2) (evC (.int 1))) eaNil))) sNil))) (sCons (sRet (evVar 1)) sNil)))
def f_places_of : Fn := fnRun false 3 b_places_of
def b_need_way : Es := (sCons (sIf (ebOr (ebNot (ebOf (evIs .str (evVar 0)))) (ebOf (evOp oNotIn (evVar 0) (evC (.tup (gt_WAYS.map .str)))))) (sCons (sExc "InvalidWay") sNil) sNil) sNil)
def f_need_way : Fn := fnRun false 1 b_need_way
def b_fewest_for_one : Es := (sCons (sExp (evCall 2 f_need_both (eaCons (evVar 0) (eaCons (evVar 1) eaNil)))) (sCons (sRet (evCall 2 f_fewest (eaCons (evVar 0) (eaCons (evVar 1) eaNil)))) sNil))
def f_fewest_for_one : Fn := fnRun false 2 b_fewest_for_one
def b_lots_for : Es := (sCons (sExp (evCall 2 f_need_both (eaCons (evVar 0) (eaCons (evVar 1) eaNil)))) (sCons (sExp (evCall 2 f_need_thing (eaCons (evVar 2) (eaCons (evVar 0) eaNil)))) (sCons (sSet 3 (evCall 2 f_fewest (eaCons (evVar 0) (eaCons (evVar 1) eaNil)))) (sCons (sRet (evIf (ebOf (evOp oEq (evVar 1) (evC (.str "read")))) (evCall 3 f_tuple_at (eaCons (evVar 3) (eaCons (evCall 1 f_half (eaCons (evVar 3) eaNil)) (eaCons (evVar 2) eaNil)))) (evCall 1 f_places_of (eaCons (evOp oAdd (evVar 2) (evC (.int 1))) eaNil)))) sNil))))
def f_lots_for : Fn := fnRun false 4 b_lots_for
def b_thing_for : Es := (sCons (sExp (evCall 2 f_need_both (eaCons (evVar 0) (eaCons (evVar 1) eaNil)))) (sCons (sSet 3 (evCall 2 f_fewest (eaCons (evVar 0) (eaCons (evVar 1) eaNil)))) (sCons (sExp (evCall 2 f_need_view (eaCons (evVar 3) (eaCons (evVar 2) eaNil)))) (sCons (sIf (ebOf (evOp oEq (evVar 1) (evC (.str "read")))) (sCons (sSet 4 (evIf (ebOf (evOp oEq (evB bLen (eaCons (evVar 2) eaNil)) (evCall 1 f_half (eaCons (evVar 3) eaNil)))) (evCall 2 f_index_of (eaCons (evVar 3) (eaCons (evVar 2) eaNil))) (evVar 0))) sNil) (sCons (sSet 4 (evOp oSub (evB bSum (eaCons (evLc [5] (itVal (evVar 2)) (gN 5) ebYes (evCall 1 f_doubled (eaCons (evVar 5) eaNil))) eaNil)) (evC (.int 1)))) sNil)) (sCons (sRet (evIf (ebOf (evChain oLe oLt (evC (.int 0)) (evVar 4) (evVar 0))) (evVar 4) (evC .non))) sNil)))))
def f_thing_for : Fn := fnRun false 6 b_thing_for
def b_law_row : Es := (sCons (sSet 1 (evL (elDisp (eaCons (evC (.int 1)) eaNil)))) (sCons (sFor (itR1 (eaCons (evVar 0) eaNil)) (gN 2) (sCons (sSet 1 (evOp oAdd (evOp oAdd (evL (elDisp (eaCons (evC (.int 1)) eaNil))) (evLc [3] (itR1 (eaCons (evOp oSub (evB bLen (eaCons (evVar 1) eaNil)) (evC (.int 1))) eaNil)) (gN 3) ebYes (evOp oAdd (evOp oIx (evVar 1) (evVar 3)) (evOp oIx (evVar 1) (evOp oAdd (evVar 3) (evC (.int 1))))))) (evL (elDisp (eaCons (evC (.int 1)) eaNil))))) sNil)) (sCons (sRet (evVar 1)) sNil)))
def f_law_row : Fn := fnRun false 4 b_law_row
def b_law_most : Es := (sCons (sIf (ebOf (evOp oEq (evVar 1) (evC (.str "read")))) (sCons (sRet (evIf (ebOf (evOp oGt (evVar 0) (evC (.int 0)))) (evB bMax (eaCons (evCall 1 f_law_row (eaCons (evVar 0) eaNil)) eaNil)) (evC (.int 0)))) sNil) sNil) (sCons (sSet 2 (evC (.int 1))) (sCons (sFor (itR1 (eaCons (evVar 0) eaNil)) (gN 3) (sCons (sSet 2 (evOp oMul (evC (.int 2)) (evVar 2))) sNil)) (sCons (sRet (evOp oSub (evVar 2) (evC (.int 1)))) sNil))))
def f_law_most : Fn := fnRun false 4 b_law_most
def b_law_all_tuples : Es := (sCons (sRet (evLc [2] (itVal (evCall 2 f_law_cases (eaCons (evVar 0) (eaCons (evVar 1) eaNil)))) (gN 2) (ebOf (evOp oEq (evB bLen (eaCons (evVar 2) eaNil)) (evVar 1))) (evVar 2))) sNil)
def f_law_all_tuples : Fn := fnRun false 3 b_law_all_tuples
def b_law_right : Es := (sCons (sSet 3 (evCall 2 f_fewest_for_one (eaCons (evVar 1) (eaCons (evVar 2) eaNil)))) (sCons (sIf (ebOr (ebOf (evOp oLt (evCall 2 f_law_most (eaCons (evVar 3) (eaCons (evVar 2) eaNil))) (evVar 1))) (ebOf (evOp oGe (evCall 2 f_law_most (eaCons (evOp oSub (evVar 3) (evC (.int 1))) (eaCons (evVar 2) eaNil))) (evVar 1)))) (sCons (sRet (evC (.bl false))) sNil) sNil) (sCons (sPar 4 5 (eaCons (evSS (evOp oAdd (evL (elDisp (eaCons (evC (.int 0)) (eaCons (evOp oSub (evVar 1) (evC (.int 1))) eaNil)))) (evLc [8] (itR1 (eaCons (evC (.int 5)) eaNil)) (gN 8) ebYes (evCall 2 f_law_take (eaCons (evVar 0) (eaCons (evVar 1) eaNil)))))) (eaCons (evC .non) eaNil))) (sCons (sFor (itVal (evVar 4)) (gN 6) (sCons (sSet 7 (evCall 3 f_lots_for (eaCons (evVar 1) (eaCons (evVar 2) (eaCons (evVar 6) eaNil))))) (sCons (sIf (ebOr (ebNot (ebOf (evCall 2 f_law_rising (eaCons (evVar 7) (eaCons (evVar 3) eaNil))))) (ebOr (ebOf (evOp oEq (evVar 7) (evTup eaNil))) (ebOf (evOp oNe (evCall 3 f_thing_for (eaCons (evVar 1) (eaCons (evVar 2) (eaCons (evVar 7) eaNil)))) (evVar 6))))) (sCons (sRet (evC (.bl false))) sNil) sNil) (sCons (sIf (ebAnd (ebOf (evOp oEq (evVar 2) (evC (.str "read")))) (ebOf (evOp oNe (evB bLen (eaCons (evVar 7) eaNil)) (evOp oDiv (evOp oAdd (evVar 3) (evC (.int 1))) (evC (.int 2)))))) (sCons (sRet (evC (.bl false))) sNil) sNil) (sCons (sIf (ebAnd (ebOf (evOp oEq (evVar 2) (evC (.str "read")))) (ebAnd (ebOf (evOp oIsNot (evVar 5) (evC .non))) (ebOf (evOp oLe (evVar 7) (evVar 5))))) (sCons (sRet (evC (.bl false))) sNil) sNil) (sCons (sIf (ebAnd (ebOf (evOp oEq (evVar 2) (evC (.str "tell")))) (ebOf (evOp oNe (evB bSum (eaCons (evLc [9] (itVal (evVar 7)) (gN 9) ebYes (evOp oAdd (evCall 2 f_law_most (eaCons (evVar 9) (eaCons (evVar 2) eaNil))) (evC (.int 1)))) eaNil)) (evOp oAdd (evVar 6) (evC (.int 1)))))) (sCons (sRet (evC (.bl false))) sNil) sNil) (sCons (sSet 5 (evVar 7)) sNil))))))) (sCons (sRet (evAnd (evOp oIs (evCall 3 f_thing_for (eaCons (evVar 1) (eaCons (evVar 2) (eaCons (evTup eaNil) eaNil)))) (evC .non)) (evOr (evOp oEq (evVar 2) (evC (.str "tell"))) (evOr (evOp oIs (evCall 3 f_thing_for (eaCons (evVar 1) (eaCons (evVar 2) (eaCons (evTup (eaCons (evC (.int 0)) eaNil)) eaNil)))) (evC .non)) (evOp oLt (evVar 3) (evC (.int 3))))))) sNil)))))
def f_law_right : Fn := fnRun false 10 b_law_right
def b_is_prime : Es := (sCons (sSet 1 (evC (.int 2))) (sCons (sWhile whN (ebOf (evOp oLe (evOp oMul (evVar 1) (evVar 1)) (evVar 0))) (sCons (sIf (ebOf (evOp oEq (evOp oMod (evVar 0) (evVar 1)) (evC (.int 0)))) (sCons (sRet (evC (.bl false))) sNil) sNil) (sCons (sSet 1 (evOp oAdd (evVar 1) (evC (.int 1)))) sNil))) (sCons (sRet (evOp oGt (evVar 0) (evC (.int 1)))) sNil)))
def f_is_prime : Fn := fnRun false 2 b_is_prime
def b_fits_words : Es := (sCons (sIf (ebOr (ebNot (ebOf (evIs .tuple (evVar 0)))) (ebOr (ebOf (evOp oNe (evB bLen (eaCons (evVar 0) eaNil)) (evC (.int 3)))) (ebNot (ebOf (evCall 3 f_is_whole (eaCons (evOp oIx (evVar 0) (evC (.int 0))) (eaCons (evC (.int 2)) (eaCons (evC (.int 99991)) eaNil)))))))) (sCons (sRet (evC (.bl false))) sNil) sNil) (sCons (sIf (ebOr (ebNot (ebOf (evCall 3 f_is_whole (eaCons (evOp oIx (evVar 0) (evC (.int 1))) (eaCons (evC (.int 1)) (eaCons (evC (.int 6)) eaNil)))))) (ebNot (ebOf (evCall 3 f_is_whole (eaCons (evOp oIx (evVar 0) (evC (.int 2))) (eaCons (evOp oIx (evVar 0) (evC (.int 1))) (eaCons (evC (.int 20)) eaNil))))))) (sCons (sRet (evC (.bl false))) sNil) sNil) (sCons (sRet (evAnd (evOp oLe (evOp oIx (evVar 0) (evC (.int 2))) (evOp oIx (evVar 0) (evC (.int 0)))) (evCall 1 f_is_prime (eaCons (evOp oIx (evVar 0) (evC (.int 0))) eaNil)))) sNil)))
def f_fits_words : Fn := fnRun false 1 b_fits_words
def b_need_words : Es := (sCons (sIf (ebNot (ebOf (evCall 1 f_fits_words (eaCons (evVar 0) eaNil)))) (sCons (sExc "InvalidWords") sNil) sNil) sNil)
def f_need_words : Fn := fnRun false 1 b_need_words
def b_figures_of : Es := (sCons (sSet 2 (evM (elDisp eaNil))) (sCons (sFor (itR1 (eaCons (evOp oIx (evVar 0) (evC (.int 1))) eaNil)) (gN 3) (sCons (sExp (evMR mApp (evVar 2) (eaCons (evOp oMod (evVar 1) (evOp oIx (evVar 0) (evC (.int 0)))) eaNil))) (sCons (sSet 1 (evOp oDiv (evVar 1) (evOp oIx (evVar 0) (evC (.int 0))))) sNil))) (sCons (sRet (evVar 2)) sNil)))
def f_figures_of : Fn := fnRun false 4 b_figures_of
def b_number_of : Es := (sCons (sSet 2 (evC (.int 0))) (sCons (sFor (itVal (evRevL (evVar 1))) (gN 3) (sCons (sSet 2 (evOp oAdd (evOp oMul (evVar 2) (evOp oIx (evVar 0) (evC (.int 0)))) (evVar 3))) sNil)) (sCons (sRet (evVar 2)) sNil)))
def f_number_of : Fn := fnRun false 4 b_number_of
def b_sign_at : Es := (sCons (sSet 3 (evC (.int 0))) (sCons (sFor (itVal (evRevL (evVar 1))) (gN 4) (sCons (sSet 3 (evOp oMod (evOp oAdd (evOp oMul (evVar 3) (evVar 2)) (evVar 4)) (evOp oIx (evVar 0) (evC (.int 0))))) sNil)) (sCons (sRet (evVar 3)) sNil)))
def f_sign_at : Fn := fnRun false 5 b_sign_at
def b_all_signs : Es := (sCons (sRet (evB bTuple (eaCons (evLc [2] (itR1 (eaCons (evOp oIx (evVar 0) (evC (.int 2))) eaNil)) (gN 2) ebYes (evCall 3 f_sign_at (eaCons (evVar 0) (eaCons (evVar 1) (eaCons (evVar 2) eaNil))))) eaNil))) sNil)
def f_all_signs : Fn := fnRun false 3 b_all_signs
def b_times_line : Es := (sCons (sSet 3 (evOp oIx (evVar 0) (evC (.int 0)))) (sCons (sSet 4 (evOp oAdd (evL (elDisp (eaCons (evC (.int 0)) eaNil))) (evVar 1))) (sCons (sFor (itEn (eaCons (evVar 1) eaNil)) (gT 2 (gsCons (gN 5) (gsCons (gN 6) gsNil))) (sCons (sSet 4 (evOp oAdd (evOp oAdd (evSl (evVar 4) eoNone (eoSome (evVar 5))) (evL (elDisp (eaCons (evOp oMod (evOp oSub (evOp oIx (evVar 4) (evVar 5)) (evOp oMul (evVar 2) (evVar 6))) (evVar 3)) eaNil)))) (evSl (evVar 4) (eoSome (evOp oAdd (evVar 5) (evC (.int 1)))) eoNone))) sNil)) (sCons (sRet (evVar 4)) sNil))))
def f_times_line : Fn := fnRun false 7 b_times_line
def b_inverse : Es := (sCons (sAsg (gT 3 (gsCons (gN 2) (gsCons (gN 3) (gsCons (gN 4) gsNil)))) (evTup (eaCons (evC (.int 1)) (eaCons (evOp oMod (evVar 1) (evVar 0)) (eaCons (evOp oSub (evVar 0) (evC (.int 2))) eaNil))))) (sCons (sWhile whN (ebOf (evOp oGt (evVar 4) (evC (.int 0)))) (sCons (sIf (ebOf (evOp oEq (evOp oMod (evVar 4) (evC (.int 2))) (evC (.int 1)))) (sCons (sSet 2 (evOp oMod (evOp oMul (evVar 2) (evVar 3)) (evVar 0))) sNil) sNil) (sCons (sPar 3 4 (eaCons (evOp oMod (evOp oMul (evVar 3) (evVar 3)) (evVar 0)) (eaCons (evOp oDiv (evVar 4) (evC (.int 2))) eaNil))) sNil))) (sCons (sRet (evVar 2)) sNil)))
def f_inverse : Fn := fnRun false 5 b_inverse
def b_through : Es := (sCons (sAsg (gT 2 (gsCons (gN 2) (gsCons (gN 3) gsNil))) (evTup (eaCons (evOp oIx (evVar 0) (evC (.int 0))) (eaCons (evOp oMul (evL (elDisp (eaCons (evC (.int 0)) eaNil))) (evOp oIx (evVar 0) (evC (.int 1)))) eaNil)))) (sCons (sFor (itR1 (eaCons (evOp oIx (evVar 0) (evC (.int 1))) eaNil)) (gN 4) (sCons (sAsg (gT 2 (gsCons (gN 5) (gsCons (gN 6) gsNil))) (evTup (eaCons (evL (elDisp (eaCons (evC (.int 1)) eaNil))) (eaCons (evC (.int 1)) eaNil)))) (sCons (sFor (itR1 (eaCons (evOp oIx (evVar 0) (evC (.int 1))) eaNil)) (gN 7) (sCons (sIf (ebOf (evOp oNe (evVar 7) (evVar 4))) (sCons (sAsg (gT 2 (gsCons (gN 5) (gsCons (gN 6) gsNil))) (evTup (eaCons (evCall 3 f_times_line (eaCons (evVar 0) (eaCons (evVar 5) (eaCons (evVar 7) eaNil)))) (eaCons (evOp oMod (evOp oMul (evVar 6) (evOp oSub (evVar 4) (evVar 7))) (evVar 2)) eaNil)))) sNil) sNil) sNil)) (sCons (sSet 6 (evOp oMod (evOp oMul (evOp oIx (evVar 1) (evVar 4)) (evCall 2 f_inverse (eaCons (evVar 2) (eaCons (evVar 6) eaNil)))) (evVar 2))) (sCons (sSet 3 (evLc [8, 9] (itZip (eaCons (evVar 3) (eaCons (evVar 5) eaNil))) (gT 2 (gsCons (gN 8) (gsCons (gN 9) gsNil))) ebYes (evOp oMod (evOp oAdd (evVar 8) (evOp oMul (evVar 6) (evVar 9))) (evVar 2)))) sNil))))) (sCons (sRet (evVar 3)) sNil)))
def f_through : Fn := fnRun false 10 b_through
def b_thing_with : Es := (sCons (sSet 2 (evCall 2 f_through (eaCons (evVar 0) (eaCons (evVar 1) eaNil)))) (sCons (sRet (evIf (ebOf (evOp oEq (evCall 2 f_all_signs (eaCons (evVar 0) (eaCons (evVar 2) eaNil))) (evVar 1))) (evCall 2 f_number_of (eaCons (evVar 0) (eaCons (evVar 2) eaNil))) (evC .non))) sNil))
def f_thing_with : Fn := fnRun false 3 b_thing_with
def b_many_of : Es := (sCons (sSet 1 (evC (.int 1))) (sCons (sFor (itR1 (eaCons (evOp oIx (evVar 0) (evC (.int 1))) eaNil)) (gN 2) (sCons (sSet 1 (evOp oMul (evVar 1) (evOp oIx (evVar 0) (evC (.int 0))))) sNil)) (sCons (sRet (evVar 1)) sNil)))
def f_many_of : Fn := fnRun false 3 b_many_of
def b_are_words : Es := (sCons (sRet (evB bBool (eaCons (evCall 1 f_fits_words (eaCons (evVar 0) eaNil)) eaNil))) sNil)
def f_are_words : Fn := fnRun false 1 b_are_words
def b_many_things : Es := (sCons (sExp (evCall 1 f_need_words (eaCons (evVar 0) eaNil))) (sCons (sRet (evCall 1 f_many_of (eaCons (evVar 0) eaNil))) sNil))
def f_many_things : Fn := fnRun false 1 b_many_things
def b_signs_of : Es := (sCons (sExp (evCall 1 f_need_words (eaCons (evVar 0) eaNil))) (sCons (sExp (evCall 2 f_need_thing (eaCons (evVar 1) (eaCons (evCall 1 f_many_of (eaCons (evVar 0) eaNil)) eaNil)))) (sCons (sRet (evCall 2 f_all_signs (eaCons (evVar 0) (eaCons (evCall 2 f_figures_of (eaCons (evVar 0) (eaCons (evVar 1) eaNil))) eaNil)))) sNil)))
def f_signs_of : Fn := fnRun false 2 b_signs_of
def b_thing_of : Es := (sCons (sExp (evCall 1 f_need_words (eaCons (evVar 0) eaNil))) (sCons (sIf (ebOr (ebNot (ebOf (evIs .tuple (evVar 1)))) (ebOf (evOp oNe (evB bLen (eaCons (evVar 1) eaNil)) (evOp oIx (evVar 0) (evC (.int 2)))))) (sCons (sExc "InvalidSigns") sNil) sNil) (sCons (sIf (ebNot (ebOf (evB bAll (eaCons (evLc [2] (itVal (evVar 1)) (gN 2) ebYes (evCall 3 f_is_whole (eaCons (evVar 2) (eaCons (evC (.int 0)) (eaCons (evOp oSub (evOp oIx (evVar 0) (evC (.int 0))) (evC (.int 1))) eaNil))))) eaNil)))) (sCons (sExc "InvalidSigns") sNil) sNil) (sCons (sRet (evCall 2 f_thing_with (eaCons (evVar 0) (eaCons (evVar 1) eaNil)))) sNil))))
def f_thing_of : Fn := fnRun false 3 b_thing_of
def b_law_words : Es := (sCons (sSet 2 (evCall 2 f_law_choice (eaCons (evVar 0) (eaCons (evVar 1) eaNil)))) (sCons (sSet 3 (evOp oAdd (evC (.int 1)) (evCall 2 f_law_take (eaCons (evVar 0) (eaCons (evB bMin (eaCons (evVar 2) (eaCons (evC (.int 20)) eaNil))) eaNil))))) (sCons (sRet (evTup (eaCons (evVar 2) (eaCons (evOp oAdd (evC (.int 1)) (evCall 2 f_law_take (eaCons (evVar 0) (eaCons (evB bMin (eaCons (evVar 3) (eaCons (evC (.int 6)) eaNil))) eaNil)))) (eaCons (evVar 3) eaNil))))) sNil)))
def f_law_words : Fn := fnRun false 4 b_law_words
def b_law_many : Es := (sCons (sSet 1 (evC (.int 1))) (sCons (sFor (itR1 (eaCons (evOp oIx (evVar 0) (evC (.int 1))) eaNil)) (gN 2) (sCons (sSet 1 (evOp oMul (evVar 1) (evOp oIx (evVar 0) (evC (.int 0))))) sNil)) (sCons (sRet (evVar 1)) sNil)))
def f_law_many : Fn := fnRun false 3 b_law_many
def b_law_signs : Es := (sCons (sAsg (gT 3 (gsCons (gN 2) (gsCons (gN 3) (gsCons (gN 4) gsNil)))) (evVar 0)) (sCons (sPar 5 6 (eaCons (evM (elDisp eaNil)) (eaCons (evTup eaNil) eaNil))) (sCons (sFor (itR1 (eaCons (evVar 3) eaNil)) (gN 7) (sCons (sExp (evMR mApp (evVar 5) (eaCons (evOp oMod (evVar 1) (evVar 2)) eaNil))) (sCons (sSet 1 (evOp oDiv (evVar 1) (evVar 2))) sNil))) (sCons (sFor (itR1 (eaCons (evVar 4) eaNil)) (gN 8) (sCons (sAsg (gT 2 (gsCons (gN 9) (gsCons (gN 10) gsNil))) (evTup (eaCons (evC (.int 0)) (eaCons (evC (.int 1)) eaNil)))) (sCons (sFor (itVal (evVar 5)) (gN 11) (sCons (sPar 9 10 (eaCons (evOp oAdd (evVar 9) (evOp oMul (evVar 11) (evVar 10))) (eaCons (evOp oMul (evVar 10) (evVar 8)) eaNil))) sNil)) (sCons (sSet 6 (evOp oAdd (evVar 6) (evTup (eaCons (evOp oMod (evVar 9) (evVar 2)) eaNil)))) sNil)))) (sCons (sRet (evVar 6)) sNil)))))
def f_law_signs : Fn := fnRun false 12 b_law_signs
def b_law_hides : Es := (sCons (sSet 3 (evLc [6] (itVal (evVar 2)) (gN 6) ebYes (evCall 2 f_law_signs (eaCons (evVar 0) (eaCons (evVar 6) eaNil))))) (sCons (sFor (itEn (eaCons (evCall 2 f_law_signs (eaCons (evVar 0) (eaCons (evVar 1) eaNil))) eaNil)) (gT 2 (gsCons (gN 4) (gsCons (gN 5) gsNil))) (sCons (sIf (ebOf (evOp oEq (evLc [7] (itVal (evVar 3)) (gN 7) (ebOf (evOp oEq (evOp oIx (evVar 7) (evVar 4)) (evVar 5))) (evVar 7)) (evL (elDisp eaNil)))) (sCons (sRet (evC (.bl false))) sNil) sNil) sNil)) (sCons (sRet (evC (.bl true))) sNil)))
def f_law_hides : Fn := fnRun false 8 b_law_hides
def b_read_words : Es := (sCons (sExp (evCall 1 f_need_words (eaCons (evVar 0) eaNil))) (sCons (sIf (ebOr (ebNot (ebOf (evIs .tuple (evVar 1)))) (ebOf (evOp oNe (evB bLen (eaCons (evVar 1) eaNil)) (evOp oIx (evVar 0) (evC (.int 2)))))) (sCons (sExc "InvalidSights") sNil) sNil) (sCons (sIf (ebNot (ebOf (evB bAll (eaCons (evLc [3] (itVal (evVar 1)) (gN 3) ebYes (evAnd (evCall 2 f_is_rising (eaCons (evVar 3) (eaCons (evOp oIx (evVar 0) (evC (.int 0))) eaNil))) (evOp oLe (evB bLen (eaCons (evVar 3) eaNil)) (evC (.int 3))))) eaNil)))) (sCons (sExc "InvalidSights") sNil) sNil) (sCons (sSet 2 (evL (elDisp (eaCons (evTup eaNil) eaNil)))) (sCons (sFor (itVal (evSl (evVar 1) eoNone (eoSome (evOp oIx (evVar 0) (evC (.int 1)))))) (gN 3) (sCons (sSet 2 (evLc2 [5, 7] [7] (itVal (evVar 2)) (gN 5) ebYes (itVal (evVar 3)) (gN 7) ebYes (evOp oAdd (evVar 5) (evTup (eaCons (evVar 7) eaNil))))) sNil)) (sCons (sSet 4 (evM (elDisp eaNil))) (sCons (sFor (itVal (evVar 2)) (gN 5) (sCons (sSet 6 (evCall 2 f_through (eaCons (evVar 0) (eaCons (evVar 5) eaNil)))) (sCons (sIf (ebOf (evB bAll (eaCons (evLc [3, 7] (itZip (eaCons (evCall 2 f_all_signs (eaCons (evVar 0) (eaCons (evVar 6) eaNil))) (eaCons (evVar 1) eaNil))) (gT 2 (gsCons (gN 7) (gsCons (gN 3) gsNil))) ebYes (evOp oIn (evVar 7) (evVar 3))) eaNil))) (sCons (sExp (evMR mApp (evVar 4) (eaCons (evCall 2 f_number_of (eaCons (evVar 0) (eaCons (evVar 6) eaNil))) eaNil))) sNil) sNil) sNil))) (sCons (sRet (evB bSorted (eaCons (evVar 4) eaNil))) sNil))))))))
def f_read_words : Fn := fnRun false 8 b_read_words
def b_sights_of : Es := (sCons (sExp (evCall 1 f_need_words (eaCons (evVar 0) eaNil))) (sCons (sIf (ebOr (ebNot (ebOf (evCall 2 f_is_rising (eaCons (evVar 1) (eaCons (evCall 1 f_many_of (eaCons (evVar 0) eaNil)) eaNil))))) (ebOf (evOp oGt (evB bLen (eaCons (evVar 1) eaNil)) (evC (.int 3))))) (sCons (sExc "InvalidThings") sNil) sNil) (sCons (sSet 2 (evLc [3] (itVal (evVar 1)) (gN 3) ebYes (evCall 2 f_all_signs (eaCons (evVar 0) (eaCons (evCall 2 f_figures_of (eaCons (evVar 0) (eaCons (evVar 3) eaNil))) eaNil))))) (sCons (sRet (evB bTuple (eaCons (evLc [4] (itR1 (eaCons (evOp oIx (evVar 0) (evC (.int 2))) eaNil)) (gN 4) ebYes (evB bTuple (eaCons (evSS (evLc [5] (itVal (evVar 2)) (gN 5) ebYes (evOp oIx (evVar 5) (evVar 4)))) eaNil))) eaNil))) sNil))))
def f_sights_of : Fn := fnRun false 6 b_sights_of
def b_law_sights : Es := (sCons (sPar 2 3 (eaCons (evLc [5] (itVal (evVar 1)) (gN 5) ebYes (evCall 2 f_law_signs (eaCons (evVar 0) (eaCons (evVar 5) eaNil)))) (eaCons (evTup eaNil) eaNil))) (sCons (sFor (itR1 (eaCons (evOp oIx (evVar 0) (evC (.int 2))) eaNil)) (gN 4) (sCons (sSet 3 (evOp oAdd (evVar 3) (evTup (eaCons (evB bTuple (eaCons (evSS (evLc [6] (itVal (evVar 2)) (gN 6) ebYes (evOp oIx (evVar 6) (evVar 4)))) eaNil)) eaNil)))) sNil)) (sCons (sRet (evVar 3)) sNil)))
def f_law_sights : Fn := fnRun false 7 b_law_sights
def b_law_drawn : Es := (sCons (sSet 2 (evTup eaNil)) (sCons (sFor (itR1 (eaCons (evOp oIx (evVar 1) (evC (.int 2))) eaNil)) (gN 3) (sCons (sSet 4 (evLc [5] (itR1 (eaCons (evCall 2 f_law_choice (eaCons (evVar 0) (eaCons (evL (elDisp (eaCons (evC (.int 1)) (eaCons (evC (.int 2)) (eaCons (evC (.int 3)) (eaCons (evC (.int 3)) eaNil)))))) eaNil))) eaNil)) (gN 5) ebYes (evCall 2 f_law_take (eaCons (evVar 0) (eaCons (evOp oIx (evVar 1) (evC (.int 0))) eaNil))))) (sCons (sSet 2 (evOp oAdd (evVar 2) (evTup (eaCons (evB bTuple (eaCons (evSS (evVar 4)) eaNil)) eaNil)))) sNil))) (sCons (sRet (evVar 2)) sNil)))
def f_law_drawn : Fn := fnRun false 6 b_law_drawn
def b_law_great_right : Es := (sCons (sSet 2 (evB bTuple (eaCons (evSS (evLc [8] (itR1 (eaCons (evCall 2 f_law_take (eaCons (evVar 0) (eaCons (evC (.int 4)) eaNil))) eaNil)) (gN 8) ebYes (evCall 2 f_law_take (eaCons (evVar 0) (eaCons (evCall 1 f_law_many (eaCons (evVar 1) eaNil)) eaNil))))) eaNil))) (sCons (sSet 3 (evCall 2 f_sights_of (eaCons (evVar 1) (eaCons (evVar 2) eaNil)))) (sCons (sIf (ebOf (evOp oNe (evVar 3) (evCall 2 f_law_sights (eaCons (evVar 1) (eaCons (evVar 2) eaNil))))) (sCons (sRet (evC (.bl false))) sNil) sNil) (sCons (sSet 4 (evCall 2 f_read_words (eaCons (evVar 1) (eaCons (evVar 3) eaNil)))) (sCons (sIf (ebOr (ebNot (ebOf (evIs .list (evVar 4)))) (ebOf (evOp oNe (evVar 4) (evSS (evVar 4))))) (sCons (sRet (evC (.bl false))) sNil) sNil) (sCons (sIf (ebOf (evOp oNe (evLc [5] (itVal (evVar 2)) (gN 5) (ebOf (evOp oNotIn (evVar 5) (evVar 4))) (evVar 5)) (evL (elDisp eaNil)))) (sCons (sRet (evC (.bl false))) sNil) sNil) (sCons (sFor (itVal (evVar 4)) (gN 5) (sCons (sFor (itEn (eaCons (evCall 2 f_law_signs (eaCons (evVar 1) (eaCons (evVar 5) eaNil))) eaNil)) (gT 2 (gsCons (gN 6) (gsCons (gN 7) gsNil))) (sCons (sIf (ebOf (evOp oNotIn (evVar 7) (evOp oIx (evVar 3) (evVar 6)))) (sCons (sRet (evC (.bl false))) sNil) sNil) sNil)) sNil)) (sCons (sRet (evOr (evOp oGe (evOp oMul (evB bLen (eaCons (evVar 2) eaNil)) (evOp oSub (evOp oIx (evVar 1) (evC (.int 1))) (evC (.int 1)))) (evOp oIx (evVar 1) (evC (.int 2)))) (evOp oEq (evVar 4) (evB bList (eaCons (evVar 2) eaNil))))) sNil))))))))
def f_law_great_right : Fn := fnRun false 9 b_law_great_right
def b_as_text : Es := (sCons (sSet 1 (evLc [2] (itVal (evOp oIx (evVar 0) (evC (.int 1)))) (gN 2) ebYes (evM1 kJoin (evC (.str " ")) (evOp oAdd (evL (elDisp (eaCons (evC (.str "lot")) eaNil))) (evLc [3] (itVal (evVar 2)) (gN 3) ebYes (evB bStr (eaCons (evVar 3) eaNil))))))) (sCons (sRet (evM1 kJoin (evC (.str "\n")) (evOp oAdd (evL (elDisp (eaCons (evFs "things " (evOp oIx (evVar 0) (evC (.int 0)))) eaNil))) (evVar 1)))) sNil))
def f_as_text : Fn := fnRun false 4 b_as_text
def b_plan_text : Es := (sCons (sExp (evCall 1 f_need_plan (eaCons (evVar 0) eaNil))) (sCons (sRet (evCall 1 f_as_text (eaCons (evVar 0) eaNil))) sNil))
def f_plan_text : Fn := fnRun false 1 b_plan_text
def b_numbers_in : Es := (sCons (sRet (evIf (ebOf (evB bAll (eaCons (evLc [1] (itVal (evVar 0)) (gN 1) ebYes (evOp oIn (evVar 1) (evC (.tup (gt_FIGURES.map .str))))) eaNil))) (evB bTuple (eaCons (evLc [1] (itVal (evVar 0)) (gN 1) ebYes (evIxG gt_FIGURES (eaCons (evVar 1) eaNil))) eaNil)) (evC .non))) sNil)
def f_numbers_in : Fn := fnRun false 2 b_numbers_in
def b_plan_in : Es := (sCons (sIf (ebNot (ebOf (evIs .str (evVar 0)))) (sCons (sExc "InvalidText") sNil) sNil) (sCons (sSet 1 (evLc [5] (itVal (evM1 kSplit (evVar 0) (evC (.str "\n")))) (gN 5) ebYes (evM1 kSplit (evVar 5) (evC (.str " "))))) (sCons (sSet 2 (evB bTuple (eaCons (evLc [6] (itVal (evSl (evVar 1) (eoSome (evC (.int 1))) eoNone)) (gN 6) ebYes (evCall 1 f_numbers_in (eaCons (evSl (evVar 6) (eoSome (evC (.int 1))) eoNone) eaNil))) eaNil))) (sCons (sSet 3 (evCall 1 f_numbers_in (eaCons (evSl (evOp oIx (evVar 1) (evC (.int 0))) (eoSome (evC (.int 1))) eoNone) eaNil))) (sCons (sIf (ebOr (ebOf (evOp oIs (evVar 3) (evC .non))) (ebOr (ebOf (evOp oNe (evB bLen (eaCons (evVar 3) eaNil)) (evC (.int 1)))) (ebOf (evOp oIn (evC .non) (evVar 2))))) (sCons (sExc "InvalidText") sNil) sNil) (sCons (sSet 4 (evTup (eaCons (evOp oIx (evVar 3) (evC (.int 0))) (eaCons (evVar 2) eaNil)))) (sCons (sIf (ebOr (ebNot (ebOf (evCall 1 f_fits_plan (eaCons (evVar 4) eaNil)))) (ebOf (evOp oNe (evCall 1 f_as_text (eaCons (evVar 4) eaNil)) (evVar 0)))) (sCons (sExc "InvalidText") sNil) sNil) (sCons (sRet (evVar 4)) sNil))))))))
def f_plan_in : Fn := fnRun false 7 b_plan_in
def b_read_plan : Es := (sCons (sRet (evCall 1 f_plan_in (eaCons (evVar 0) eaNil))) sNil)
def f_read_plan : Fn := fnRun false 1 b_read_plan
def b_law_text : Es := (sCons (sSet 1 (evM (elDisp (eaCons (evOp oAdd (evC (.str "things ")) (evB bStr (eaCons (evOp oIx (evVar 0) (evC (.int 0))) eaNil))) eaNil)))) (sCons (sFor (itVal (evOp oIx (evVar 0) (evC (.int 1)))) (gN 2) (sCons (sExp (evMR mApp (evVar 1) (eaCons (evM1 kJoin (evC (.str " ")) (evOp oAdd (evL (elDisp (eaCons (evC (.str "lot")) eaNil))) (evLc [3] (itVal (evVar 2)) (gN 3) ebYes (evB bStr (eaCons (evVar 3) eaNil))))) eaNil))) sNil)) (sCons (sRet (evM1 kJoin (evC (.str "\n")) (evVar 1))) sNil)))
def f_law_text : Fn := fnRun false 4 b_law_text
def b_without : Es := (sCons (sSet 2 (evM (elDisp eaNil))) (sCons (sFor (itVal (evOp oIx (evVar 0) (evC (.int 1)))) (gN 3) (sCons (sExp (evMR mApp (evVar 2) (eaCons (evB bTuple (eaCons (evLc [4] (itVal (evVar 3)) (gN 4) (ebOf (evOp oNe (evVar 4) (evVar 1))) (evOp oSub (evVar 4) (evB bInt (eaCons (evOp oGt (evVar 4) (evVar 1)) eaNil)))) eaNil)) eaNil))) sNil)) (sCons (sRet (evTup (eaCons (evOp oSub (evOp oIx (evVar 0) (evC (.int 0))) (evC (.int 1))) (eaCons (evB bTuple (eaCons (evVar 2) eaNil)) eaNil)))) sNil)))
def f_without : Fn := fnRun false 5 b_without
def b_wall : Es := (sCons (sWhile whN (ebOf (evC (.bl true))) (sCons sNil sNil)) sNil)
def f_wall : Fn := fnRun false 1 b_wall
def b_fitting : Es := (sCons (sSet 3 (evM (elDisp eaNil))) (sCons (sFor (itVal (evCall 2 f_views_of (eaCons (evVar 0) (eaCons (evVar 1) eaNil)))) (gT 2 (gsCons (gN 4) (gsCons (gN 5) gsNil))) (sCons (sIf (ebOf (evB bAll (eaCons (evLc [6, 7] (itEn (eaCons (evVar 2) eaNil)) (gT 2 (gsCons (gN 6) (gsCons (gN 7) gsNil))) ebYes (evOr (evOp oIs (evVar 7) (evC .non)) (evOp oEq (evVar 7) (evOp oIn (evVar 6) (evVar 5))))) eaNil))) (sCons (sExp (evMR mApp (evVar 3) (eaCons (evVar 4) eaNil))) sNil) sNil) sNil)) (sCons (sRet (evVar 3)) sNil)))
def f_fitting : Fn := fnRun false 8 b_fitting
def b_law_goes : Es := (sCons (sSet 3 (evM (elDisp eaNil))) (sCons (sFor (itVal (evCall 2 f_law_cases (eaCons (evOp oIx (evVar 0) (evC (.int 0))) (eaCons (evVar 1) eaNil)))) (gN 4) (sCons (sSet 5 (evCall 2 f_law_view (eaCons (evVar 0) (eaCons (evVar 4) eaNil)))) (sCons (sIf (ebOf (evOp oEq (evLc [6, 7] (itEn (eaCons (evVar 2) eaNil)) (gT 2 (gsCons (gN 6) (gsCons (gN 7) gsNil))) (ebAnd (ebOf (evOp oIsNot (evVar 7) (evC .non))) (ebOf (evOp oNe (evVar 7) (evOp oIn (evVar 6) (evVar 5))))) (evC (.int 1))) (evL (elDisp eaNil)))) (sCons (sExp (evMR mApp (evVar 3) (eaCons (evVar 4) eaNil))) sNil) sNil) sNil))) (sCons (sRet (evVar 3)) sNil)))
def f_law_goes : Fn := fnRun false 8 b_law_goes
def b_law_best : Es := (sCons (sSet 3 (evC .non)) (sCons (sFor (itEn (eaCons (evVar 2) eaNil)) (gT 2 (gsCons (gN 4) (gsCons (gN 5) gsNil))) (sCons (sIf (ebOf (evOp oIs (evVar 5) (evC .non))) (sCons (sSet 6 (evLc [7] (itVal (evTup (eaCons (evC (.bl true)) (eaCons (evC (.bl false)) eaNil)))) (gN 7) ebYes (evB bLen (eaCons (evCall 3 f_law_goes (eaCons (evVar 0) (eaCons (evVar 1) (eaCons (evOp oAdd (evOp oAdd (evSl (evVar 2) eoNone (eoSome (evVar 4))) (evTup (eaCons (evVar 7) eaNil))) (evSl (evVar 2) (eoSome (evOp oAdd (evVar 4) (evC (.int 1)))) eoNone)) eaNil)))) eaNil)))) (sCons (sIf (ebOr (ebOf (evOp oIs (evVar 3) (evC .non))) (ebOf (evOp oLt (evB bMax (eaCons (evVar 6) eaNil)) (evOp oIx (evVar 3) (evC (.int 0)))))) (sCons (sSet 3 (evTup (eaCons (evB bMax (eaCons (evVar 6) eaNil)) (eaCons (evVar 4) eaNil)))) sNil) sNil) sNil)) sNil) sNil)) (sCons (sRet (evIf (ebOf (evOp oIs (evVar 3) (evC .non))) (evC .non) (evOp oIx (evVar 3) (evC (.int 1))))) sNil)))
def f_law_best : Fn := fnRun false 8 b_law_best
def b_law_mended : Es := (sCons (sSet 3 (evCall 2 f_mends (eaCons (evVar 0) (eaCons (evVar 2) eaNil)))) (sCons (sSet 4 (evCall 2 f_shown (eaCons (evVar 0) (eaCons (evVar 1) eaNil)))) (sCons (sFor (itR1 (eaCons (evB bLen (eaCons (evOp oIx (evVar 0) (evC (.int 1))) eaNil)) eaNil)) (gN 5) (sCons (sSet 6 (evVar 4)) (sCons (sIf (ebAnd (ebOf (evOp oIsNot (evVar 3) (evC .non))) (ebOf (evOp oGt (evVar 3) (evC (.int 0))))) (sCons (sSet 6 (evB bTuple (eaCons (evLc [7] (itR1 (eaCons (evB bLen (eaCons (evOp oIx (evVar 0) (evC (.int 1))) eaNil)) eaNil)) (gN 7) (ebOf (evOp oNe (evOp oIn (evVar 7) (evVar 4)) (evOp oEq (evVar 7) (evVar 5)))) (evVar 7)) eaNil))) sNil) sNil) (sCons (sIf (ebAnd (ebOf (evOp oIsNot (evVar 3) (evC .non))) (ebOf (evOp oNe (evOp oIx (evCall 3 f_nearest (eaCons (evVar 0) (eaCons (evVar 6) (eaCons (evVar 2) eaNil)))) (evC (.int 1))) (evL (elDisp (eaCons (evVar 1) eaNil)))))) (sCons (sRet (evC (.bl false))) sNil) sNil) sNil)))) (sCons (sRet (evC (.bl true))) sNil))))
def f_law_mended : Fn := fnRun false 8 b_law_mended
def b_law_order : Es := (sCons (sPar 2 3 (eaCons (evM (rg1' (evVar 1))) (eaCons (evM (elDisp eaNil)) eaNil))) (sCons (sWhile whN (ebOf (evOp oNe (evVar 2) (evL (elDisp eaNil)))) (sCons (sExp (evMR mApp (evVar 3) (eaCons (evMR mPop (evVar 2) (eaCons (evCall 2 f_law_take (eaCons (evVar 0) (eaCons (evB bLen (eaCons (evVar 2) eaNil)) eaNil))) eaNil)) eaNil))) sNil)) (sCons (sRet (evVar 3)) sNil)))
def f_law_order : Fn := fnRun false 4 b_law_order
def b_law_named : Es := (sCons (sRet (evB bTuple (eaCons (evB bSorted (eaCons (evLc [2] (itVal (evVar 1)) (gN 2) ebYes (evOp oIx (evVar 0) (evVar 2))) eaNil)) eaNil))) sNil)
def f_law_named : Fn := fnRun false 3 b_law_named
def b_law_moved : Es := (sCons (sRet (evTup (eaCons (evOp oIx (evVar 0) (evC (.int 0))) (eaCons (evB bTuple (eaCons (evLc [3] (itVal (evVar 2)) (gN 3) ebYes (evCall 2 f_law_named (eaCons (evVar 1) (eaCons (evOp oIx (evOp oIx (evVar 0) (evC (.int 1))) (evVar 3)) eaNil)))) eaNil)) eaNil)))) sNil)
def f_law_moved : Fn := fnRun false 4 b_law_moved
def b_law_seen_there : Es := (sCons (sRet (evB bTuple (eaCons (evB bSorted (eaCons (evLc [2] (itVal (evVar 1)) (gN 2) ebYes (evML mIdx (evVar 0) (eaCons (evVar 2) eaNil))) eaNil)) eaNil))) sNil)
def f_law_seen_there : Fn := fnRun false 3 b_law_seen_there
def b_law_same_right : Es := (sCons (sSet 4 (evCall 3 f_law_moved (eaCons (evVar 1) (eaCons (evVar 2) (eaCons (evVar 3) eaNil))))) (sCons (sIf (ebOr (ebOf (evOp oNe (evCall 1 f_most_read (eaCons (evVar 4) eaNil)) (evCall 1 f_most_read (eaCons (evVar 1) eaNil)))) (ebOf (evOp oNe (evCall 1 f_most_told (eaCons (evVar 4) eaNil)) (evCall 1 f_most_told (eaCons (evVar 1) eaNil))))) (sCons (sRet (evC (.bl false))) sNil) sNil) (sCons (sFor (itVal (evTup (eaCons (evC (.int 0)) (eaCons (evC (.int 1)) (eaCons (evC (.int 2)) eaNil))))) (gN 5) (sCons (sIf (ebOr (ebOf (evOp oNe (evCall 2 f_reads (eaCons (evVar 4) (eaCons (evVar 5) eaNil))) (evCall 2 f_reads (eaCons (evVar 1) (eaCons (evVar 5) eaNil))))) (ebOf (evOp oNe (evCall 2 f_tells (eaCons (evVar 4) (eaCons (evVar 5) eaNil))) (evCall 2 f_tells (eaCons (evVar 1) (eaCons (evVar 5) eaNil)))))) (sCons (sRet (evC (.bl false))) sNil) sNil) (sCons (sPar 11 12 (eaCons (evCall 2 f_hidden (eaCons (evVar 1) (eaCons (evVar 5) eaNil))) (eaCons (evCall 2 f_hidden (eaCons (evVar 4) (eaCons (evVar 5) eaNil))) eaNil))) (sCons (sIf (ebOr (ebOf (evOp oNe (evOp oIs (evVar 11) (evC .non)) (evOp oIs (evVar 12) (evC .non)))) (ebAnd (ebOf (evOp oIsNot (evVar 11) (evC .non))) (ebOf (evOp oNe (evB bLen (eaCons (evOp oIx (evVar 11) (evC (.int 1))) eaNil)) (evB bLen (eaCons (evOp oIx (evVar 12) (evC (.int 1))) eaNil)))))) (sCons (sRet (evC (.bl false))) sNil) sNil) (sCons (sIf (ebOr (ebOf (evOp oNe (evCall 2 f_margin (eaCons (evVar 4) (eaCons (evVar 5) eaNil))) (evCall 2 f_margin (eaCons (evVar 1) (eaCons (evVar 5) eaNil))))) (ebOf (evOp oNe (evOp oIs (evCall 2 f_alike_pair (eaCons (evVar 4) (eaCons (evVar 5) eaNil))) (evC .non)) (evCall 2 f_tells (eaCons (evVar 1) (eaCons (evVar 5) eaNil)))))) (sCons (sRet (evC (.bl false))) sNil) sNil) (sCons (sIf (ebAnd (ebOf (evOp oGt (evVar 5) (evC (.int 0)))) (ebOf (evOp oNe (evCall 2 f_gap (eaCons (evVar 4) (eaCons (evVar 5) eaNil))) (evCall 2 f_gap (eaCons (evVar 1) (eaCons (evVar 5) eaNil)))))) (sCons (sRet (evC (.bl false))) sNil) sNil) (sCons (sIf (ebAnd (ebOf (evOp oGt (evVar 5) (evC (.int 0)))) (ebOf (evOp oNe (evCall 2 f_mends (eaCons (evVar 4) (eaCons (evVar 5) eaNil))) (evCall 2 f_mends (eaCons (evVar 1) (eaCons (evVar 5) eaNil)))))) (sCons (sRet (evC (.bl false))) sNil) sNil) sNil))))))) (sCons (sSet 6 (evB bTuple (eaCons (evLc [13] (itR1 (eaCons (evOp oIx (evVar 1) (evC (.int 0))) eaNil)) (gN 13) (ebOf (evOp oEq (evCall 2 f_law_take (eaCons (evVar 0) (eaCons (evC (.int 3)) eaNil))) (evC (.int 0)))) (evVar 13)) eaNil))) (sCons (sSet 7 (evB bTuple (eaCons (evLc [14] (itR1 (eaCons (evB bLen (eaCons (evOp oIx (evVar 1) (evC (.int 1))) eaNil)) eaNil)) (gN 14) (ebOf (evOp oEq (evCall 2 f_law_take (eaCons (evVar 0) (eaCons (evC (.int 2)) eaNil))) (evC (.int 0)))) (evVar 14)) eaNil))) (sCons (sSet 8 (evCall 2 f_law_seen_there (eaCons (evVar 3) (eaCons (evVar 7) eaNil)))) (sCons (sIf (ebOf (evOp oNe (evCall 2 f_shown (eaCons (evVar 4) (eaCons (evCall 2 f_law_named (eaCons (evVar 2) (eaCons (evVar 6) eaNil))) eaNil))) (evCall 2 f_law_seen_there (eaCons (evVar 3) (eaCons (evCall 2 f_shown (eaCons (evVar 1) (eaCons (evVar 6) eaNil))) eaNil))))) (sCons (sRet (evC (.bl false))) sNil) sNil) (sCons (sIf (ebOf (evOp oNe (evCall 2 f_suspects (eaCons (evVar 4) (eaCons (evVar 8) eaNil))) (evCall 2 f_law_named (eaCons (evVar 2) (eaCons (evCall 2 f_suspects (eaCons (evVar 1) (eaCons (evVar 7) eaNil))) eaNil))))) (sCons (sRet (evC (.bl false))) sNil) sNil) (sCons (sIf (ebOf (evOp oNe (evCall 3 f_cases_for (eaCons (evVar 4) (eaCons (evVar 8) (eaCons (evC (.int 2)) eaNil)))) (evB bSorted (eaCons (evLc [15] (itVal (evCall 3 f_cases_for (eaCons (evVar 1) (eaCons (evVar 7) (eaCons (evC (.int 2)) eaNil))))) (gN 15) ebYes (evCall 2 f_law_named (eaCons (evVar 2) (eaCons (evVar 15) eaNil)))) eaNil)))) (sCons (sRet (evC (.bl false))) sNil) sNil) (sCons (sAsg (gT 2 (gsCons (gN 9) (gsCons (gN 10) gsNil))) (evCall 3 f_nearest (eaCons (evVar 1) (eaCons (evVar 7) (eaCons (evC (.int 2)) eaNil))))) (sCons (sRet (evOp oEq (evCall 3 f_nearest (eaCons (evVar 4) (eaCons (evVar 8) (eaCons (evC (.int 2)) eaNil)))) (evTup (eaCons (evVar 9) (eaCons (evB bSorted (eaCons (evLc [15] (itVal (evVar 10)) (gN 15) ebYes (evCall 2 f_law_named (eaCons (evVar 2) (eaCons (evVar 15) eaNil)))) eaNil)) eaNil))))) sNil)))))))))))
def f_law_same_right : Fn := fnRun false 16 b_law_same_right
def b_law_later : Es := (sCons (sRet (evB bTuple (eaCons (evLc [2] (itVal (evVar 1)) (gN 2) ebYes (evOp oAdd (evVar 0) (evVar 2))) eaNil))) sNil)
def f_law_later : Fn := fnRun false 3 b_law_later
def b_law_wide : Es := (sCons (sRet (evB bTuple (eaCons (evLc [2] (itVal (evVar 1)) (gN 2) ebYes (evOp oAdd (evVar 2) (evB bInt (eaCons (evOp oGe (evVar 2) (evVar 0)) eaNil)))) eaNil))) sNil)
def f_law_wide : Fn := fnRun false 3 b_law_wide
def b_ner (a : Addr) (c : Str) : Es := (sCons (sSet 1 (evL (elDisp (eaCons (evErr 0 a (.bl (decide (c = "InvalidPlan")))) (eaCons (evErr 0 a (.bl (decide (c = "InvalidCase")))) (eaCons (evErr 0 a (.bl (decide (c = "InvalidView")))) eaNil)))))) (sCons (sSet 1 (evOp oAdd (evVar 1) (evL (elDisp (eaCons (evErr 0 a (.bl (decide (c = "InvalidThing")))) (eaCons (evErr 0 a (.bl (decide (c = "InvalidThings")))) (eaCons (evErr 0 a (.bl (decide (c = "InvalidNumber")))) eaNil))))))) (sCons (sSet 1 (evOp oAdd (evVar 1) (evL (elDisp (eaCons (evErr 0 a (.bl (decide (c = "InvalidWay")))) (eaCons (evErr 0 a (.bl (decide (c = "InvalidWords")))) (eaCons (evErr 0 a (.bl (decide (c = "InvalidSigns")))) eaNil))))))) (sCons (sSet 1 (evOp oAdd (evVar 1) (evL (elDisp (eaCons (evErr 0 a (.bl (decide (c = "InvalidSights")))) (eaCons (evErr 0 a (.bl (decide (c = "InvalidIndex")))) (eaCons (evErr 0 a (.bl (decide (c = "InvalidLot")))) eaNil))))))) (sCons (sSet 1 (evOp oAdd (evVar 1) (evL (elDisp (eaCons (evErr 0 a (.bl (decide (c = "InvalidTruth")))) (eaCons (evErr 0 a (.bl (decide (c = "InvalidText")))) (eaCons (evErr 0 a (.bl (decide (c = "Unlike")))) eaNil))))))) (sCons (sSet 1 (evOp oAdd (evVar 1) (evL (elDisp (eaCons (evErr 0 a (.bl (decide (c = "NothingToUndo")))) (eaCons (evErr 0 a (.bl (decide (c = "TooMany")))) eaNil)))))) (sCons (sSet 2 (evC (.str "plan case view thing things number way words signs sights index lot truth text unlike undo many"))) (sCons (sRet (evM1 kJoin (evC (.str " ")) (evLc [3, 4] (itZipH (eaCons (evM1 kSplit (evVar 2) (evC (.str " "))) (eaCons (evVar 1) eaNil))) (gTu 2 (gsCons (gN 3) (gsCons (gN 4) gsNil))) (ebOf (evVar 4)) (evVar 3)))) sNil))))))))
def nN : List Str := ["e", "some", "labels", "label", "good"]
def nX : List Str := ["TooMany", "NothingToUndo", "Unlike", "InvalidText", "InvalidTruth", "InvalidLot", "InvalidIndex", "InvalidSights", "InvalidSigns", "InvalidWords", "InvalidWay", "InvalidNumber", "InvalidThings", "InvalidThing", "InvalidView", "InvalidCase", "InvalidPlan"]
end Lots
set_option Elab.async false
set_option linter.all false
set_option maxRecDepth 100000
set_option maxHeartbeats 4000000
namespace Lots
open PySem PySem.Spec PyProof.Rows L2 Ip
/-! ### the laws' defs that call what they get -/
/-- what an error is told by -/
def tellErr (suf : Str → Option Ip.D) (good : Ip.D → Ip.D) (st : Sto) (r : Ip.R Ip.D) : Ip.R Ip.D := fnEnd false st.length (match r with
  | .ok d st1 => .rt (good d) st1
  | .exc c st1 => match ersOf ers0 suf c with
    | some d => .rt d st1
    | none => .bad
  | .bad => .bad)
def F_law_error (g : Fn) : Fn := fun _ st => tellErr sufA (fun _ => .str "") st (g [] st)
def F_law_told (g : Fn) : Fn := fun _ st => tellErr sufC (fun d => .tup [d, .str ""]) st (g [] st)
theorem calOf_one {d : Ip.D} {n lv : Nat} {g : Fn} {fns : List (Str × Nat × Nat × Fn)} : calOf [⟨d, n, lv, g⟩] fns d = some (n, g) := by
  unfold calOf
  exact if_pos rfl
theorem callV_one {i n lv : Nat} {d : Ip.D} {g : Fn} {fns : List (Str × Nat × Nat × Fn)} {ga : Ea} {ρ : Sl} {st : Sto} (h : ρ[i]? = some (some d)) : evCallV i [⟨d, n, lv, g⟩] fns ga ρ st = (ga ρ st).bind fun ds st2 => if ds.length = n then g ds st2 else .bad := by
  unfold evCallV evVar
  rw [h]
  show (match calOf [⟨d, n, lv, g⟩] fns d with
    | some q => (ga ρ st).bind fun ds st2 => if ds.length = q.1 then q.2 ds st2 else .bad
    | none => .bad) = _
  rw [calOf_one]
def tryEnd (g : Str → Option Ip.D) (r : RS) : RS := match r with
  | .exc c _ st1 => match g c with
    | some d => .rt d st1
    | none => .bad
  | r => r
theorem sTry_of {f : Es} {g : Str → Option Ip.D} {ρ : Sl} {st : Sto} {r : RS} (h : f ρ st = r) : sTry f g ρ st = tryEnd g r := by
  subst h
  rfl
theorem error_eq {lv : Nat} {fns : List (Str × Nat × Nat × Fn)} (d : Ip.D) (g : Fn) (ds : List Ip.D) (st : Sto) (hl : ds.length = 0) :
    fnRun false 2 (sCons (sTry (sCons (sExp (evCallV 0 [⟨d, 0, lv, g⟩] fns eaNil)) sNil) (ersOf ers0 sufA)) (sCons (sRet (evC (.str ""))) sNil)) (d :: ds) st = F_law_error g ds st := by
  obtain rfl := List.length_eq_zero_iff.mp hl
  unfold fnRun F_law_error tellErr
  congr 1
  have e : evCallV 0 [⟨d, 0, lv, g⟩] fns eaNil (slots0 2 [d]) st = g [] st := by rw [callV_one (d := d) rfl]; rfl
  have e2 : (sCons (sExp (evCallV 0 [⟨d, 0, lv, g⟩] fns eaNil)) sNil) (slots0 2 [d]) st = (g [] st).stm (slots0 2 [d]) fun _ st1 => .nx (slots0 2 [d]) st1 := by
    show ((evCallV 0 [⟨d, 0, lv, g⟩] fns eaNil (slots0 2 [d]) st).stm _ _).seq _ = _
    rw [e]
    cases g [] st <;> rfl
  show (sTry _ _ (slots0 2 [d]) st).seq _ = _
  rw [sTry_of e2]
  cases g [] st with
  | ok x st1 => rfl
  | exc c st1 =>
    show (tryEnd (ersOf ers0 sufA) (.exc c (slots0 2 [d]) st1)).seq _ = _
    unfold tryEnd
    simp only
    cases ersOf ers0 sufA c <;> rfl
  | bad => rfl
theorem told_eq {lv : Nat} {fns : List (Str × Nat × Nat × Fn)} (d : Ip.D) (g : Fn) (ds : List Ip.D) (st : Sto) (hl : ds.length = 0) :
    fnRun false 2 (sCons (sTry (sCons (sRet (evTup (eaCons (evCallV 0 [⟨d, 0, lv, g⟩] fns eaNil) (eaCons (evC (.str "")) eaNil)))) sNil) (ersOf ers0 sufC)) sNil) (d :: ds) st = F_law_told g ds st := by
  obtain rfl := List.length_eq_zero_iff.mp hl
  unfold fnRun F_law_told tellErr
  congr 1
  have e : evCallV 0 [⟨d, 0, lv, g⟩] fns eaNil (slots0 2 [d]) st = g [] st := by rw [callV_one (d := d) rfl]; rfl
  have e2 : (sCons (sRet (evTup (eaCons (evCallV 0 [⟨d, 0, lv, g⟩] fns eaNil) (eaCons (evC (.str "")) eaNil)))) sNil) (slots0 2 [d]) st = (g [] st).stm (slots0 2 [d]) fun x st1 => .rt (.tup [x, .str ""]) st1 := by
    show ((((evCallV 0 [⟨d, 0, lv, g⟩] fns eaNil (slots0 2 [d]) st).bind fun x st1 => _).bind _).stm _ _).seq _ = _
    rw [e]
    cases g [] st <;> rfl
  show (sTry _ _ (slots0 2 [d]) st).seq _ = _
  rw [sTry_of e2]
  cases g [] st with
  | ok x st1 => rfl
  | exc c st1 =>
    show (tryEnd (ersOf ers0 sufC) (.exc c (slots0 2 [d]) st1)).seq _ = _
    unfold tryEnd
    simp only
    cases ersOf ers0 sufC c <;> rfl
  | bad => rfl
/-- those values that are not refused so -/
def refGo (g : Fn) (nm : Ip.D) : List Ip.D → Sto → Ip.R (List Ip.D)
  | [], st => .ok [] st
  | d :: ds, st => ((F_law_error (fun _ st => g [d] st) [] st).bind fun x st1 => (Ip.R.lift (oNe st1 x nm) st1).bind fun z st2 => Ip.R.lift (asB z) st2).noX.bind fun b st1 => if b = true then (refGo g nm ds st1).bind fun r st2 => .ok (d :: r) st2 else refGo g nm ds st1
def F_law_all_refused (g : Fn) : Fn := fun ds st => match ds with
  | [odds, nm] => fnEnd false st.length (((Ip.R.lift (fixed odds) st).bind fun xs st1 => ((refGo g nm xs st1).bind lcEnd).bind fun l st2 => Ip.R.lift (oEq st2 l (.lst [])) st2).stm [] fun d st3 => .rt d st3)
  | _ => .bad
theorem all_refused_eq {lv cl : Nat} {fns : List (Str × Nat × Nat × Fn)} (hlv : lv ≤ cl) (d : Ip.D) (g : Fn) (ds : List Ip.D) (st : Sto) (hl : ds.length = 2) :
    fnRun false 4 (sCons (sRet (evOp oEq (evLc [3] (itVal (evVar 1)) (gN 3) (ebOf (evOp oNe (evLam F_law_error (evCallV 0 (([⟨d, 1, lv, g⟩] : List Cal).filter fun c => decide (c.lv ≤ cl)) fns (eaCons (evVar 1) eaNil)) ["call", "odd"] [0, 3] 0 eaNil) (evVar 2))) (evVar 3)) (evL (elDisp eaNil)))) sNil) (d :: ds) st = F_law_all_refused g ds st := by
  match ds, hl with
  | [odds, nm], _ =>
  have hf : (([⟨d, 1, lv, g⟩] : List Cal).filter fun c => decide (c.lv ≤ cl)) = [⟨d, 1, lv, g⟩] := by simp [hlv]
  rw [hf]
  unfold fnRun F_law_all_refused
  simp only
  congr 1
  have go : ∀ (xs : List Ip.D) (st : Sto), lcGo (gN 3) (ebOf (evOp oNe (evLam F_law_error (evCallV 0 [⟨d, 1, lv, g⟩] fns (eaCons (evVar 1) eaNil)) ["call", "odd"] [0, 3] 0 eaNil) (evVar 2))) (evVar 3) [some d, some odds, some nm, none] xs st = refGo g nm xs st := by
    intro xs
    induction xs with
    | nil => intro st; rfl
    | cons o xs ih =>
      intro st
      unfold lcGo refGo
      simp only [gN, List.set]
      have e1 : evLam F_law_error (evCallV 0 [⟨d, 1, lv, g⟩] fns (eaCons (evVar 1) eaNil)) ["call", "odd"] [0, 3] 0 eaNil [some d, some odds, some nm, some o] st = F_law_error (fun _ st => g [o] st) [] st := by
        unfold evLam eaNil
        show F_law_error (fun es st => evCallV 0 [⟨d, 1, lv, g⟩] fns (eaCons (evVar 1) eaNil) (slotsL ["call", "odd"] [0, 3] es [some d, some odds, some nm, some o]) st) [] st = _
        show tellErr sufA _ st (evCallV 0 [⟨d, 1, lv, g⟩] fns (eaCons (evVar 1) eaNil) (slotsL ["call", "odd"] [0, 3] [] [some d, some odds, some nm, some o]) st) = _
        rw [callV_one (i := 0) (d := d) rfl]
        rfl
      have e2 : ebOf (evOp oNe (evLam F_law_error (evCallV 0 [⟨d, 1, lv, g⟩] fns (eaCons (evVar 1) eaNil)) ["call", "odd"] [0, 3] 0 eaNil) (evVar 2)) [some d, some odds, some nm, some o] st = ((F_law_error (fun _ st => g [o] st) [] st).bind fun x st1 => (Ip.R.lift (oNe st1 x nm) st1).bind fun z st2 => Ip.R.lift (asB z) st2) := by
        unfold ebOf evOp
        rw [e1, bind_assoc]
        rfl
      rw [e2]
      congr 1
      funext b st1
      split
      · show ((Ip.R.ok o st1 : Ip.R Ip.D).noX.bind _) = _
        show ((lcGo _ _ _ _ xs st1).bind _) = _
        rw [ih]
      · rw [ih]
  have eL : evLc [3] (itVal (evVar 1)) (gN 3) (ebOf (evOp oNe (evLam F_law_error (evCallV 0 [⟨d, 1, lv, g⟩] fns (eaCons (evVar 1) eaNil)) ["call", "odd"] [0, 3] 0 eaNil) (evVar 2))) (evVar 3) (slots0 4 [d, odds, nm]) st = (Ip.R.lift (fixed odds) st).bind fun xs st1 => (refGo g nm xs st1).bind lcEnd := by
    show (Ip.R.lift (fixed odds) st).bind (fun ds st1 => (lcGo (gN 3) _ (evVar 3) [some d, some odds, some nm, none] ds st1).bind lcEnd) = _
    simp only [go]
  show (((evLc [3] (itVal (evVar 1)) (gN 3) _ (evVar 3) (slots0 4 [d, odds, nm]) st).bind fun x st1 => _).stm _ _).seq _ = _
  rw [eL, bind_assoc]
  cases h1 : (Ip.R.lift (fixed odds) st : Ip.R (List Ip.D)) with
  | ok xs st1 =>
    simp only [Ip.R.bind_ok]
    cases h2 : (refGo g nm xs st1).bind lcEnd with
    | ok l st2 =>
      simp only [Ip.R.bind_ok]
      show (((Ip.R.lift (oEq st2 l (.lst [])) st2).stm _ _).seq _) = _
      cases oEq st2 l (.lst []) <;> rfl
    | exc c s2 =>
      have nx : NoX ((refGo g nm xs st1).bind lcEnd) := by
        rw [← go xs st1]
        exact lcGo_noX.bind fun r s c s' z => by
          unfold lcEnd at z
          split at z <;> cases z
      exact absurd h2 (nx c s2)
    | bad => rfl
  | exc c s2 => cases e : fixed odds <;> rw [e] at h1 <;> cases h1
  | bad => rfl
end Lots
set_option Elab.async false
set_option linter.all false
set_option maxRecDepth 100000
set_option maxHeartbeats 4000000
namespace Lots
open PySem PySem.Spec PyProof.Rows L2 Ip
def nerRest : Es := (sCons (sSet 2 (evC (.str "plan case view thing things number way words signs sights index lot truth text unlike undo many"))) (sCons (sRet (evM1 kJoin (evC (.str " ")) (evLc [3, 4] (itZipH (eaCons (evM1 kSplit (evVar 2) (evC (.str " "))) (eaCons (evVar 1) eaNil))) (gTu 2 (gsCons (gN 3) (gsCons (gN 4) gsNil))) (ebOf (evVar 4)) (evVar 3)))) sNil))
theorem ner_first (a : Addr) (c : Str) (m0 : MX) (H0 : Hp) (st : Sto) (rest : Es) : (sCons (sSet 1 (evL (elDisp (eaCons (evErr 0 a (.bl (decide (c = "InvalidPlan")))) (eaCons (evErr 0 a (.bl (decide (c = "InvalidCase")))) (eaCons (evErr 0 a (.bl (decide (c = "InvalidView")))) eaNil)))))) (sCons (sSet 1 (evOp oAdd (evVar 1) (evL (elDisp (eaCons (evErr 0 a (.bl (decide (c = "InvalidThing")))) (eaCons (evErr 0 a (.bl (decide (c = "InvalidThings")))) (eaCons (evErr 0 a (.bl (decide (c = "InvalidNumber")))) eaNil))))))) (sCons (sSet 1 (evOp oAdd (evVar 1) (evL (elDisp (eaCons (evErr 0 a (.bl (decide (c = "InvalidWay")))) (eaCons (evErr 0 a (.bl (decide (c = "InvalidWords")))) (eaCons (evErr 0 a (.bl (decide (c = "InvalidSigns")))) eaNil))))))) (sCons (sSet 1 (evOp oAdd (evVar 1) (evL (elDisp (eaCons (evErr 0 a (.bl (decide (c = "InvalidSights")))) (eaCons (evErr 0 a (.bl (decide (c = "InvalidIndex")))) (eaCons (evErr 0 a (.bl (decide (c = "InvalidLot")))) eaNil))))))) (sCons (sSet 1 (evOp oAdd (evVar 1) (evL (elDisp (eaCons (evErr 0 a (.bl (decide (c = "InvalidTruth")))) (eaCons (evErr 0 a (.bl (decide (c = "InvalidText")))) (eaCons (evErr 0 a (.bl (decide (c = "Unlike")))) eaNil))))))) (sCons (sSet 1 (evOp oAdd (evVar 1) (evL (elDisp (eaCons (evErr 0 a (.bl (decide (c = "NothingToUndo")))) (eaCons (evErr 0 a (.bl (decide (c = "TooMany")))) eaNil)))))) rest)))))) [some (.clo a m0 H0), none, none, none, none] st = rest [some (.clo a m0 H0), some (.lst [.bl (decide (c = "InvalidPlan")), .bl (decide (c = "InvalidCase")), .bl (decide (c = "InvalidView")), .bl (decide (c = "InvalidThing")), .bl (decide (c = "InvalidThings")), .bl (decide (c = "InvalidNumber")), .bl (decide (c = "InvalidWay")), .bl (decide (c = "InvalidWords")), .bl (decide (c = "InvalidSigns")), .bl (decide (c = "InvalidSights")), .bl (decide (c = "InvalidIndex")), .bl (decide (c = "InvalidLot")), .bl (decide (c = "InvalidTruth")), .bl (decide (c = "InvalidText")), .bl (decide (c = "Unlike")), .bl (decide (c = "NothingToUndo")), .bl (decide (c = "TooMany"))]), none, none, none] st := by
  simp [sCons, sSet, evL, elDisp, eaCons, eaNil, evOp, oAdd, evVar, evErr, itemsR, itemsL]
theorem ner_eq (a : Addr) (c : Str) (m0 : MX) (H0 : Hp) (st : Sto) (h : c ∈ errs) : fnRun false 5 (b_ner a c) [.clo a m0 H0] st = .ok (.str (nameOf c)) st := by
  have e : b_ner a c (slots0 5 [.clo a m0 H0]) st = nerRest [some (.clo a m0 H0), some (.lst [.bl (decide (c = "InvalidPlan")), .bl (decide (c = "InvalidCase")), .bl (decide (c = "InvalidView")), .bl (decide (c = "InvalidThing")), .bl (decide (c = "InvalidThings")), .bl (decide (c = "InvalidNumber")), .bl (decide (c = "InvalidWay")), .bl (decide (c = "InvalidWords")), .bl (decide (c = "InvalidSigns")), .bl (decide (c = "InvalidSights")), .bl (decide (c = "InvalidIndex")), .bl (decide (c = "InvalidLot")), .bl (decide (c = "InvalidTruth")), .bl (decide (c = "InvalidText")), .bl (decide (c = "Unlike")), .bl (decide (c = "NothingToUndo")), .bl (decide (c = "TooMany"))]), none, none, none] st := ner_first a c m0 H0 st nerRest
  have e2 : nerRest [some (.clo a m0 H0), some (.lst [.bl (decide (c = "InvalidPlan")), .bl (decide (c = "InvalidCase")), .bl (decide (c = "InvalidView")), .bl (decide (c = "InvalidThing")), .bl (decide (c = "InvalidThings")), .bl (decide (c = "InvalidNumber")), .bl (decide (c = "InvalidWay")), .bl (decide (c = "InvalidWords")), .bl (decide (c = "InvalidSigns")), .bl (decide (c = "InvalidSights")), .bl (decide (c = "InvalidIndex")), .bl (decide (c = "InvalidLot")), .bl (decide (c = "InvalidTruth")), .bl (decide (c = "InvalidText")), .bl (decide (c = "Unlike")), .bl (decide (c = "NothingToUndo")), .bl (decide (c = "TooMany"))]), none, none, none] st = .rt (.str (nameOf c)) st := by
    unfold errs at h
    simp only [List.mem_cons, List.not_mem_nil, or_false] at h
    rcases h with rfl | rfl | rfl | rfl | rfl | rfl | rfl | rfl | rfl | rfl | rfl | rfl | rfl | rfl | rfl | rfl | rfl <;> kernel_rfl
  unfold fnRun
  rw [e, e2]
  simp [fnEnd, cutVal, cutSt]
end Lots
set_option Elab.async false
set_option linter.all false
set_option maxRecDepth 100000
set_option maxHeartbeats 4000000
namespace Ip
open PySem

/-! ### the readings, applied; what comes behind stands under a name of its own, so that it is looked at last -/
@[simp low] theorem evVar_ap {i : Nat} {ρ : Sl} {st : Sto} : evVar i ρ st = (match ρ[i]? with
  | some (some d) => .ok d st
  | _ => .bad) := Eq.trans rfl rfl
@[simp low] theorem evC_ap {d : D} {ρ : Sl} {st : Sto} : evC d ρ st = .ok d st := Eq.trans rfl rfl
def kOp3 (o : Sto → D → D → Option D) (x : D) : D → Sto → R D := fun y st2 => .lift (o st2 x y) st2
def kOp2 (o : Sto → D → D → Option D) (b : Ev) (ρ : Sl) : D → Sto → R D := fun x st1 => (b ρ st1).bind (kOp3 o x)
@[simp low] theorem evOp_ap {o : Sto → D → D → Option D} {a b : Ev} {ρ : Sl} {st : Sto} : evOp o a b ρ st = (a ρ st).bind (kOp2 o b ρ) := Eq.trans rfl rfl
@[simp low] theorem kOp3_0 {o : Sto → D → D → Option D} {x y : D} {st : Sto} : kOp3 o x y st = R.lift (o st x y) st := Eq.trans rfl rfl
@[simp low] theorem kOp2_0 {o : Sto → D → D → Option D} {b : Ev} {x : D} {ρ : Sl} {st : Sto} : kOp2 o b ρ x st = (b ρ st).bind (kOp3 o x) := Eq.trans rfl rfl
def kB  : D → Sto → R Bool := fun d st1 => .lift (asB d) st1
@[simp low] theorem ebOf_ap {f : Ev} {ρ : Sl} {st : Sto} : ebOf f ρ st = (f ρ st).bind kB := Eq.trans rfl rfl
@[simp low] theorem kB_0 {b : Bool} {st : Sto} : kB (.bl b) st = .ok b st := Eq.trans rfl rfl
def kAnd (b : Eb) (ρ : Sl) : Bool → Sto → R Bool := fun x st1 => if x = true then b ρ st1 else .ok false st1
@[simp low] theorem ebAnd_ap {a b : Eb} {ρ : Sl} {st : Sto} : ebAnd a b ρ st = (a ρ st).bind (kAnd b ρ) := Eq.trans rfl rfl
@[simp low] theorem kAnd_0 {b : Eb} {ρ : Sl} {st : Sto} : kAnd b ρ true st = b ρ st := Eq.trans rfl rfl
@[simp low] theorem kAnd_1 {b : Eb} {ρ : Sl} {st : Sto} : kAnd b ρ false st = .ok false st := Eq.trans rfl rfl
def kOr (b : Eb) (ρ : Sl) : Bool → Sto → R Bool := fun x st1 => if x = true then .ok true st1 else b ρ st1
@[simp low] theorem ebOr_ap {a b : Eb} {ρ : Sl} {st : Sto} : ebOr a b ρ st = (a ρ st).bind (kOr b ρ) := Eq.trans rfl rfl
@[simp low] theorem kOr_0 {b : Eb} {ρ : Sl} {st : Sto} : kOr b ρ true st = .ok true st := Eq.trans rfl rfl
@[simp low] theorem kOr_1 {b : Eb} {ρ : Sl} {st : Sto} : kOr b ρ false st = b ρ st := Eq.trans rfl rfl
def kNot  : Bool → Sto → R Bool := fun x st1 => .ok (!x) st1
@[simp low] theorem ebNot_ap {a : Eb} {ρ : Sl} {st : Sto} : ebNot a ρ st = (a ρ st).bind kNot := Eq.trans rfl rfl
@[simp low] theorem kNot_0 {x : Bool} {st : Sto} : kNot x st = .ok (!x) st := Eq.trans rfl rfl
@[simp low] theorem ebYes_ap {ρ : Sl} {st : Sto} : ebYes ρ st = .ok true st := Eq.trans rfl rfl
def kvAnd (b : Ev) (ρ : Sl) : D → Sto → R D := fun x st1 => match x with
  | .bl true => b ρ st1
  | .bl false => .ok (.bl false) st1
  | _ => .bad
@[simp low] theorem evAnd_ap {a b : Ev} {ρ : Sl} {st : Sto} : evAnd a b ρ st = (a ρ st).bind (kvAnd b ρ) := Eq.trans rfl rfl
@[simp low] theorem kvAnd_0 {b : Ev} {ρ : Sl} {st : Sto} : kvAnd b ρ (.bl true) st = b ρ st := Eq.trans rfl rfl
@[simp low] theorem kvAnd_1 {b : Ev} {ρ : Sl} {st : Sto} : kvAnd b ρ (.bl false) st = .ok (.bl false) st := Eq.trans rfl rfl
def kvOr (b : Ev) (ρ : Sl) : D → Sto → R D := fun x st1 => match x with
  | .bl false => b ρ st1
  | .bl true => .ok (.bl true) st1
  | _ => .bad
@[simp low] theorem evOr_ap {a b : Ev} {ρ : Sl} {st : Sto} : evOr a b ρ st = (a ρ st).bind (kvOr b ρ) := Eq.trans rfl rfl
@[simp low] theorem kvOr_0 {b : Ev} {ρ : Sl} {st : Sto} : kvOr b ρ (.bl true) st = .ok (.bl true) st := Eq.trans rfl rfl
@[simp low] theorem kvOr_1 {b : Ev} {ρ : Sl} {st : Sto} : kvOr b ρ (.bl false) st = b ρ st := Eq.trans rfl rfl
def kvNot  : D → Sto → R D := fun x st1 => match x with
  | .bl b => .ok (.bl (!b)) st1
  | _ => .bad
@[simp low] theorem evNot_ap {a : Ev} {ρ : Sl} {st : Sto} : evNot a ρ st = (a ρ st).bind kvNot := Eq.trans rfl rfl
@[simp low] theorem kvNot_0 {b : Bool} {st : Sto} : kvNot (.bl b) st = .ok (.bl (!b)) st := Eq.trans rfl rfl
def kNeg  : D → Sto → R D := fun x st1 => match x with
  | .int i => .ok (.int (-i)) st1
  | _ => .bad
@[simp low] theorem evNeg_ap {a : Ev} {ρ : Sl} {st : Sto} : evNeg a ρ st = (a ρ st).bind kNeg := Eq.trans rfl rfl
@[simp low] theorem kNeg_0 {i : Int} {st : Sto} : kNeg (.int i) st = .ok (.int (-i)) st := Eq.trans rfl rfl
def kIf (a b : Ev) (ρ : Sl) : Bool → Sto → R D := fun x st1 => if x = true then a ρ st1 else b ρ st1
@[simp low] theorem evIf_ap {t : Eb} {a b : Ev} {ρ : Sl} {st : Sto} : evIf t a b ρ st = (t ρ st).bind (kIf a b ρ) := Eq.trans rfl rfl
@[simp low] theorem kIf_0 {a b : Ev} {ρ : Sl} {st : Sto} : kIf a b ρ true st = a ρ st := Eq.trans rfl rfl
@[simp low] theorem kIf_1 {a b : Ev} {ρ : Sl} {st : Sto} : kIf a b ρ false st = b ρ st := Eq.trans rfl rfl
@[simp low] theorem eaNil_ap {ρ : Sl} {st : Sto} : eaNil ρ st = .ok [] st := Eq.trans rfl rfl
def kC3 (x : D) : List D → Sto → R (List D) := fun xs st2 => .ok (x :: xs) st2
def kC2 (r : Ea) (ρ : Sl) : D → Sto → R (List D) := fun x st1 => (r ρ st1).bind (kC3 x)
@[simp low] theorem eaCons_ap {a : Ev} {r : Ea} {ρ : Sl} {st : Sto} : eaCons a r ρ st = (a ρ st).bind (kC2 r ρ) := Eq.trans rfl rfl
@[simp low] theorem kC3_0 {x : D} {xs : List D} {st : Sto} : kC3 x xs st = .ok (x :: xs) st := Eq.trans rfl rfl
@[simp low] theorem kC2_0 {r : Ea} {x : D} {ρ : Sl} {st : Sto} : kC2 r ρ x st = (r ρ st).bind (kC3 x) := Eq.trans rfl rfl
def kTup  : List D → Sto → R D := fun ds st1 => if ds.length ≤ 1000 then .ok (.tup ds) st1 else .bad
@[simp low] theorem evTup_ap {g : Ea} {ρ : Sl} {st : Sto} : evTup g ρ st = (g ρ st).bind kTup := Eq.trans rfl rfl
@[simp low] theorem kTup_0 {ds : List D} {st : Sto} : kTup ds st = if ds.length ≤ 1000 then .ok (.tup ds) st else .bad := Eq.trans rfl rfl
def kDisp  : List D → Sto → R (List D) := fun ds st1 => if ds.length ≤ 1000 then .ok ds st1 else .bad
@[simp low] theorem elDisp_ap {g : Ea} {ρ : Sl} {st : Sto} : elDisp g ρ st = (g ρ st).bind kDisp := Eq.trans rfl rfl
@[simp low] theorem kDisp_0 {ds : List D} {st : Sto} : kDisp ds st = if ds.length ≤ 1000 then .ok ds st else .bad := Eq.trans rfl rfl
def kL  : List D → Sto → R D := fun ds st1 => .ok (.lst ds) st1
@[simp low] theorem evL_ap {g : Ea} {ρ : Sl} {st : Sto} : evL g ρ st = (g ρ st).bind kL := Eq.trans rfl rfl
@[simp low] theorem kL_0 {ds : List D} {st : Sto} : kL ds st = .ok (.lst ds) st := Eq.trans rfl rfl
def kM  : List D → Sto → R D := fun ds st1 => .ok (.ref st1.length) (st1 ++ [ds])
@[simp low] theorem evM_ap {g : Ea} {ρ : Sl} {st : Sto} : evM g ρ st = (g ρ st).bind kM := Eq.trans rfl rfl
@[simp low] theorem kM_0 {ds : List D} {st : Sto} : kM ds st = .ok (.ref st.length) (st ++ [ds]) := Eq.trans rfl rfl
def kT  : List D → Sto → R D := fun ds st1 => .ok (.tup ds) st1
@[simp low] theorem evT_ap {g : Ea} {ρ : Sl} {st : Sto} : evT g ρ st = (g ρ st).bind kT := Eq.trans rfl rfl
@[simp low] theorem kT_0 {ds : List D} {st : Sto} : kT ds st = .ok (.tup ds) st := Eq.trans rfl rfl
@[simp low] theorem eoNone_ap {ρ : Sl} {st : Sto} : eoNone ρ st = .ok none st := Eq.trans rfl rfl
def kSo  : D → Sto → R (Option Int) := fun d st1 => match d with
  | .int i => .ok (some i) st1
  | _ => .bad
@[simp low] theorem eoSome_ap {f : Ev} {ρ : Sl} {st : Sto} : eoSome f ρ st = (f ρ st).bind kSo := Eq.trans rfl rfl
@[simp low] theorem kSo_0 {i : Int} {st : Sto} : kSo (.int i) st = .ok (some i) st := Eq.trans rfl rfl
def kS4 (x : D) (lo : Option Int) : Option Int → Sto → R D := fun hi st3 => .lift (oSl st3 x lo hi) st3
def kS3 (h : Eo) (ρ : Sl) (x : D) : Option Int → Sto → R D := fun lo st2 => (h ρ st2).bind (kS4 x lo)
def kS2 (l h : Eo) (ρ : Sl) : D → Sto → R D := fun x st1 => (l ρ st1).bind (kS3 h ρ x)
@[simp low] theorem evSl_ap {f : Ev} {l h : Eo} {ρ : Sl} {st : Sto} : evSl f l h ρ st = (f ρ st).bind (kS2 l h ρ) := Eq.trans rfl rfl
@[simp low] theorem kS4_0 {x : D} {lo hi : Option Int} {st : Sto} : kS4 x lo hi st = .lift (oSl st x lo hi) st := Eq.trans rfl rfl
@[simp low] theorem kS3_0 {h : Eo} {x : D} {lo : Option Int} {ρ : Sl} {st : Sto} : kS3 h ρ x lo st = (h ρ st).bind (kS4 x lo) := Eq.trans rfl rfl
@[simp low] theorem kS2_0 {l h : Eo} {x : D} {ρ : Sl} {st : Sto} : kS2 l h ρ x st = (l ρ st).bind (kS3 h ρ x) := Eq.trans rfl rfl
def kRv  : D → Sto → R D := fun x st1 => .lift (revD st1 x) st1
@[simp low] theorem evRevL_ap {f : Ev} {ρ : Sl} {st : Sto} : evRevL f ρ st = (f ρ st).bind kRv := Eq.trans rfl rfl
@[simp low] theorem kRv_0 {x : D} {st : Sto} : kRv x st = .lift (revD st x) st := Eq.trans rfl rfl
def kH5 (o' : Sto → D → D → Option D) (y : D) : D → Sto → R D := fun w st4 => .lift (o' st4 y w) st4
def kH4 (o' : Sto → D → D → Option D) (c : Ev) (ρ : Sl) (y : D) : D → Sto → R D := fun z st3 => match z with
  | .bl true => (c ρ st3).bind (kH5 o' y)
  | .bl false => .ok (.bl false) st3
  | _ => .bad
def kH3 (o o' : Sto → D → D → Option D) (c : Ev) (ρ : Sl) (x : D) : D → Sto → R D := fun y st2 => (R.lift (o st2 x y) st2).bind (kH4 o' c ρ y)
def kH2 (o o' : Sto → D → D → Option D) (b c : Ev) (ρ : Sl) : D → Sto → R D := fun x st1 => (b ρ st1).bind (kH3 o o' c ρ x)
@[simp low] theorem evChain_ap {o o' : Sto → D → D → Option D} {a b c : Ev} {ρ : Sl} {st : Sto} : evChain o o' a b c ρ st = (a ρ st).bind (kH2 o o' b c ρ) := Eq.trans rfl rfl
@[simp low] theorem kH5_0 {o' : Sto → D → D → Option D} {y w : D} {st : Sto} : kH5 o' y w st = R.lift (o' st y w) st := Eq.trans rfl rfl
@[simp low] theorem kH4_0 {o' : Sto → D → D → Option D} {c : Ev} {y : D} {ρ : Sl} {st : Sto} : kH4 o' c ρ y (.bl true) st = (c ρ st).bind (kH5 o' y) := Eq.trans rfl rfl
@[simp low] theorem kH4_1 {o' : Sto → D → D → Option D} {c : Ev} {y : D} {ρ : Sl} {st : Sto} : kH4 o' c ρ y (.bl false) st = .ok (.bl false) st := Eq.trans rfl rfl
@[simp low] theorem kH3_0 {o o' : Sto → D → D → Option D} {c : Ev} {x y : D} {ρ : Sl} {st : Sto} : kH3 o o' c ρ x y st = (R.lift (o st x y) st).bind (kH4 o' c ρ y) := Eq.trans rfl rfl
@[simp low] theorem kH2_0 {o o' : Sto → D → D → Option D} {b c : Ev} {x : D} {ρ : Sl} {st : Sto} : kH2 o o' b c ρ x st = (b ρ st).bind (kH3 o o' c ρ x) := Eq.trans rfl rfl
def kCall (n : Nat) (f : Fn) : List D → Sto → R D := fun ds st1 => if ds.length = n then f ds st1 else .bad
@[simp low] theorem evCall_ap {n : Nat} {f : Fn} {g : Ea} {ρ : Sl} {st : Sto} : evCall n f g ρ st = (g ρ st).bind (kCall n f) := Eq.trans rfl rfl
@[simp low] theorem kCall_0 {n : Nat} {f : Fn} {ds : List D} {st : Sto} (h : ds.length = n) : kCall n f ds st = f ds st := if_pos h
def kBf (o : Sto → List D → Option D) : List D → Sto → R D := fun ds st1 => .lift (o st1 ds) st1
@[simp low] theorem evB_ap {o : Sto → List D → Option D} {g : Ea} {ρ : Sl} {st : Sto} : evB o g ρ st = (g ρ st).bind (kBf o) := Eq.trans rfl rfl
@[simp low] theorem kBf_0 {o : Sto → List D → Option D} {ds : List D} {st : Sto} : kBf o ds st = R.lift (o st ds) st := Eq.trans rfl rfl
def kIs (T : Ty) : D → Sto → R D := fun d st1 => .lift ((isD T d).map .bl) st1
@[simp low] theorem evIs_ap {T : Ty} {f : Ev} {ρ : Sl} {st : Sto} : evIs T f ρ st = (f ρ st).bind (kIs T) := Eq.trans rfl rfl
@[simp low] theorem kIs_0 {T : Ty} {d : D} {st : Sto} : kIs T d st = R.lift ((isD T d).map .bl) st := Eq.trans rfl rfl
def kMR2 (o : Sto → Nat → List D → R D) (n : Nat) : List D → Sto → R D := fun ds st2 => o st2 n ds
def kMR (o : Sto → Nat → List D → R D) (g : Ea) (ρ : Sl) : D → Sto → R D := fun d st1 => match d with
  | .ref n => (g ρ st1).bind (kMR2 o n)
  | _ => .bad
@[simp low] theorem evMR_ap {o : Sto → Nat → List D → R D} {f : Ev} {g : Ea} {ρ : Sl} {st : Sto} : evMR o f g ρ st = (f ρ st).bind (kMR o g ρ) := Eq.trans rfl rfl
@[simp low] theorem kMR2_0 {o : Sto → Nat → List D → R D} {n : Nat} {ds : List D} {st : Sto} : kMR2 o n ds st = o st n ds := Eq.trans rfl rfl
@[simp low] theorem kMR_0 {o : Sto → Nat → List D → R D} {g : Ea} {n : Nat} {ρ : Sl} {st : Sto} : kMR o g ρ (.ref n) st = (g ρ st).bind (kMR2 o n) := Eq.trans rfl rfl
def kML2 (o : Sto → List D → List D → R D) (xs : List D) : List D → Sto → R D := fun ds st2 => o st2 xs ds
def kML (o : Sto → List D → List D → R D) (g : Ea) (ρ : Sl) : D → Sto → R D := fun d st1 => match d with
  | .lst xs => (g ρ st1).bind (kML2 o xs)
  | _ => .bad
@[simp low] theorem evML_ap {o : Sto → List D → List D → R D} {f : Ev} {g : Ea} {ρ : Sl} {st : Sto} : evML o f g ρ st = (f ρ st).bind (kML o g ρ) := Eq.trans rfl rfl
@[simp low] theorem kML2_0 {o : Sto → List D → List D → R D} {xs ds : List D} {st : Sto} : kML2 o xs ds st = o st xs ds := Eq.trans rfl rfl
@[simp low] theorem kML_0 {o : Sto → List D → List D → R D} {g : Ea} {xs : List D} {ρ : Sl} {st : Sto} : kML o g ρ (.lst xs) st = (g ρ st).bind (kML2 o xs) := Eq.trans rfl rfl
def kIV  : D → Sto → R (List D) := fun d st1 => .lift (fixed d) st1
@[simp low] theorem itVal_ap {f : Ev} {ρ : Sl} {st : Sto} : itVal f ρ st = (f ρ st).bind kIV := Eq.trans rfl rfl
@[simp low] theorem kIV_0 {d : D} {st : Sto} : kIV d st = R.lift (fixed d) st := Eq.trans rfl rfl
def kIR1  : List D → Sto → R (List D) := fun ds st1 => match ds with
  | [.int j] => if -(2 ^ 62) ≤ j ∧ j < 2 ^ 62 then .ok (rng 0 j.toNat) st1 else .bad
  | _ => .bad
@[simp low] theorem itR1_ap {g : Ea} {ρ : Sl} {st : Sto} : itR1 g ρ st = (g ρ st).bind kIR1 := Eq.trans rfl rfl
@[simp low] theorem kIR1_0 {j : Int} {st : Sto} : kIR1 [.int j] st = if -(2 ^ 62) ≤ j ∧ j < 2 ^ 62 then .ok (rng 0 j.toNat) st else .bad := Eq.trans rfl rfl
def kIR2  : List D → Sto → R (List D) := fun ds st1 => match ds with
  | [.int i, .int j] => if (-(2 ^ 62) ≤ i ∧ i < 2 ^ 62) ∧ -(2 ^ 62) ≤ j ∧ j < 2 ^ 62 then .ok (rng i (j - i).toNat) st1 else .bad
  | _ => .bad
@[simp low] theorem itR2_ap {g : Ea} {ρ : Sl} {st : Sto} : itR2 g ρ st = (g ρ st).bind kIR2 := Eq.trans rfl rfl
@[simp low] theorem kIR2_0 {i j : Int} {st : Sto} : kIR2 [.int i, .int j] st = if (-(2 ^ 62) ≤ i ∧ i < 2 ^ 62) ∧ -(2 ^ 62) ≤ j ∧ j < 2 ^ 62 then .ok (rng i (j - i).toNat) st else .bad := Eq.trans rfl rfl
def kIE  : List D → Sto → R (List D) := fun ds st1 => .lift (one1 (fun d => (fixed d).map pairN) ds) st1
@[simp low] theorem itEn_ap {g : Ea} {ρ : Sl} {st : Sto} : itEn g ρ st = (g ρ st).bind kIE := Eq.trans rfl rfl
@[simp low] theorem kIE_0 {d : D} {st : Sto} : kIE [d] st = R.lift ((fixed d).map pairN) st := Eq.trans rfl rfl
def kIZ  : List D → Sto → R (List D) := fun ds st1 => .lift (zipD ds) st1
@[simp low] theorem itZip_ap {g : Ea} {ρ : Sl} {st : Sto} : itZip g ρ st = (g ρ st).bind kIZ := Eq.trans rfl rfl
@[simp low] theorem kIZ_0 {ds : List D} {st : Sto} : kIZ ds st = R.lift (zipD ds) st := Eq.trans rfl rfl
def kRg  : D → Sto → R (List D) := fun d st1 => match d with
  | .int n => if 0 ≤ n ∧ n ≤ 1000000 then .ok (rng 0 n.toNat) st1 else .bad
  | _ => .bad
@[simp low] theorem rg1__ap {f : Ev} {ρ : Sl} {st : Sto} : rg1' f ρ st = (f ρ st).bind kRg := Eq.trans rfl rfl
@[simp low] theorem kRg_0 {n : Int} {st : Sto} : kRg (.int n) st = if 0 ≤ n ∧ n ≤ 1000000 then .ok (rng 0 n.toNat) st else .bad := Eq.trans rfl rfl
theorem evLc_ap {vs : List Nat} {it : Ea} {g : Tg} {t : Eb} {e : Ev} {ρ : Sl} {st : Sto} : evLc vs it g t e ρ st = (it ρ st).bind fun ds st1 => (lcGo g t e (wipeS ρ vs) ds st1).bind lcEnd := rfl
theorem evLc2_ap {vs vs1 : List Nat} {it it1 : Ea} {g g1 : Tg} {t t1 : Eb} {e : Ev} {ρ : Sl} {st : Sto} : evLc2 vs vs1 it g t it1 g1 t1 e ρ st = (it ρ st).bind fun ds st1 => (lc2Go vs1 g t it1 g1 t1 e (wipeS ρ vs) ds st1).bind lcEnd := rfl
@[simp low] theorem gN_ap {i : Nat} {d : D} {ρ : Sl} : gN i d ρ = some (ρ.set i (some d)) := Eq.trans rfl rfl
@[simp low] theorem gsNil_ap {ρ : Sl} : gsNil [] ρ = some ρ := Eq.trans rfl rfl
@[simp low] theorem gsCons_ap {f : Tg} {g : Tgs} {d : D} {ds : List D} {ρ : Sl} : gsCons f g (d :: ds) ρ = (f d ρ).bind (g ds) := Eq.trans rfl rfl
@[simp low] theorem gT_ap {n : Nat} {f : Tgs} {ds : List D} {ρ : Sl} : gT n f (.tup ds) ρ = if ds.length = n then f ds ρ else none := Eq.trans rfl rfl
@[simp low] theorem sNil_ap {ρ : Sl} {st : Sto} : sNil ρ st = .nx ρ st := Eq.trans rfl rfl
@[simp low] theorem sCons_ap {f g : Es} {ρ : Sl} {st : Sto} : sCons f g ρ st = (f ρ st).seq g := Eq.trans rfl rfl
def kSet (i : Nat) (ρ : Sl) : D → Sto → RS := fun d st1 => .nx (ρ.set i (some d)) st1
@[simp low] theorem sSet_ap {i : Nat} {f : Ev} {ρ : Sl} {st : Sto} : sSet i f ρ st = (f ρ st).stm ρ (kSet i ρ) := Eq.trans rfl rfl
@[simp low] theorem kSet_0 {i : Nat} {d : D} {ρ : Sl} {st : Sto} : kSet i ρ d st = .nx (ρ.set i (some d)) st := Eq.trans rfl rfl
def kAsg (g : Tg) (ρ : Sl) : D → Sto → RS := fun d st1 => match g d ρ with
  | some ρ' => .nx ρ' st1
  | none => .bad
@[simp low] theorem sAsg_ap {g : Tg} {f : Ev} {ρ : Sl} {st : Sto} : sAsg g f ρ st = (f ρ st).stm ρ (kAsg g ρ) := Eq.trans rfl rfl
@[simp low] theorem kAsg_0 {g : Tg} {d : D} {ρ : Sl} {st : Sto} : kAsg g ρ d st = (match g d ρ with
  | some ρ' => .nx ρ' st
  | none => .bad) := Eq.trans rfl rfl
def kPar (i j : Nat) (ρ : Sl) : List D → Sto → RS := fun ds st1 => match ds with
  | [x, y] => .nx ((ρ.set i (some x)).set j (some y)) st1
  | _ => .bad
@[simp low] theorem sPar_ap {i j : Nat} {g : Ea} {ρ : Sl} {st : Sto} : sPar i j g ρ st = (g ρ st).stm ρ (kPar i j ρ) := Eq.trans rfl rfl
@[simp low] theorem kPar_0 {i j : Nat} {x y : D} {ρ : Sl} {st : Sto} : kPar i j ρ [x, y] st = .nx ((ρ.set i (some x)).set j (some y)) st := Eq.trans rfl rfl
def kSIf (f g : Es) (ρ : Sl) : Bool → Sto → RS := fun b st1 => if b = true then f ρ st1 else g ρ st1
@[simp low] theorem sIf_ap {t : Eb} {f g : Es} {ρ : Sl} {st : Sto} : sIf t f g ρ st = (t ρ st).stm ρ (kSIf f g ρ) := Eq.trans rfl rfl
@[simp low] theorem kSIf_0 {f g : Es} {ρ : Sl} {st : Sto} : kSIf f g ρ true st = f ρ st := Eq.trans rfl rfl
@[simp low] theorem kSIf_1 {f g : Es} {ρ : Sl} {st : Sto} : kSIf f g ρ false st = g ρ st := Eq.trans rfl rfl
def kRet  : D → Sto → RS := fun d st1 => .rt d st1
@[simp low] theorem sRet_ap {f : Ev} {ρ : Sl} {st : Sto} : sRet f ρ st = (f ρ st).stm ρ kRet := Eq.trans rfl rfl
@[simp low] theorem kRet_0 {d : D} {st : Sto} : kRet d st = .rt d st := Eq.trans rfl rfl
@[simp low] theorem sRetN_ap {ρ : Sl} {st : Sto} : sRetN ρ st = .rt .non st := Eq.trans rfl rfl
def kExp (ρ : Sl) : D → Sto → RS := fun _ st1 => .nx ρ st1
@[simp low] theorem sExp_ap {f : Ev} {ρ : Sl} {st : Sto} : sExp f ρ st = (f ρ st).stm ρ (kExp ρ) := Eq.trans rfl rfl
@[simp low] theorem kExp_0 {d : D} {ρ : Sl} {st : Sto} : kExp ρ d st = .nx ρ st := Eq.trans rfl rfl
@[simp low] theorem sExc_ap {c : Str} {ρ : Sl} {st : Sto} : sExc c ρ st = .exc c ρ st := Eq.trans rfl rfl
def kFor (g : Tg) (b : Es) (ρ : Sl) : List D → Sto → RS := fun ds st1 => forGo g b ds ρ st1
@[simp low] theorem sFor_ap {it : Ea} {g : Tg} {b : Es} {ρ : Sl} {st : Sto} : sFor it g b ρ st = (it ρ st).stm ρ (kFor g b ρ) := Eq.trans rfl rfl
@[simp low] theorem kFor_0 {g : Tg} {b : Es} {ds : List D} {ρ : Sl} {st : Sto} : kFor g b ρ ds st = forGo g b ds ρ st := Eq.trans rfl rfl
@[simp low] theorem wipeS_nil {ρ : Sl} : wipeS ρ [] = ρ := Eq.trans rfl rfl
@[simp low] theorem wipeS_cons {ρ : Sl} {v : Nat} {vs : List Nat} : wipeS ρ (v :: vs) = (wipeS ρ vs).set v none := Eq.trans rfl rfl
@[simp] theorem slots0_ap {n : Nat} {ds : List D} : slots0 n ds = ds.map some ++ List.replicate (n - ds.length) none := Eq.trans rfl rfl
@[simp] theorem fnRun_ap {keep : Bool} {n : Nat} {b : Es} {ds : List D} {st : Sto} : fnRun keep n b ds st = fnEnd keep st.length (b (slots0 n ds) st) := Eq.trans rfl rfl
@[simp] theorem fnEnd_rt {d : D} {st : Sto} : fnEnd false st.length (.rt d st) = .ok d st := by simp [fnEnd, cutVal, cutSt]
@[simp] theorem fnEnd_nx {ρ : Sl} {st : Sto} : fnEnd false st.length (.nx ρ st) = .ok .non st := by simp [fnEnd, cutSt]
@[simp] theorem fnEnd_exc {c : Str} {ρ : Sl} {st : Sto} : fnEnd false st.length (.exc c ρ st) = .exc c st := by simp [fnEnd, cutSt]
@[simp] theorem fnEnd_keep {k : Nat} {d : D} {st : Sto} : fnEnd true k (.rt d st) = .ok d st := Eq.trans rfl rfl
@[simp] theorem asB_bl {b : Bool} : asB (.bl b) = some b := Eq.trans rfl rfl
@[simp] theorem noX_ok {α : Type} {a : α} {s : Sto} : (R.ok a s).noX = .ok a s := Eq.trans rfl rfl
@[simp] theorem oAdd_int {st : Sto} {i j : Int} : oAdd st (.int i) (.int j) = some (.int (i + j)) := Eq.trans rfl rfl
@[simp] theorem oSub_int {st : Sto} {i j : Int} : oSub st (.int i) (.int j) = some (.int (i - j)) := Eq.trans rfl rfl
@[simp] theorem oLt_int {st : Sto} {i j : Int} : oLt st (.int i) (.int j) = some (.bl (decide (i < j))) := Eq.trans rfl rfl
@[simp] theorem oLe_int {st : Sto} {i j : Int} : oLe st (.int i) (.int j) = some (.bl (decide (i ≤ j))) := Eq.trans rfl rfl
@[simp] theorem oGt_int {st : Sto} {i j : Int} : oGt st (.int i) (.int j) = some (.bl (decide (j < i))) := Eq.trans rfl rfl
@[simp] theorem oGe_int {st : Sto} {i j : Int} : oGe st (.int i) (.int j) = some (.bl (decide (j ≤ i))) := Eq.trans rfl rfl
@[simp] theorem oMod_pos {st : Sto} {i j : Int} (h : 0 < j) : oMod st (.int i) (.int j) = some (.int (i % j)) := by simp [oMod, h]
@[simp] theorem isD_int_int {i : Int} : isD .int (.int i) = some true := Eq.trans rfl rfl
@[simp] theorem isD_int_tup {i : List D} : isD .int (.tup i) = some false := Eq.trans rfl rfl
@[simp] theorem isD_int_lst {i : List D} : isD .int (.lst i) = some false := Eq.trans rfl rfl
@[simp] theorem isD_int_str {i : Str} : isD .int (.str i) = some false := Eq.trans rfl rfl
@[simp] theorem isD_int_bl {i : Bool} : isD .int (.bl i) = some true := Eq.trans rfl rfl
@[simp] theorem isD_bool_int {i : Int} : isD .bool (.int i) = some false := Eq.trans rfl rfl
@[simp] theorem isD_bool_tup {i : List D} : isD .bool (.tup i) = some false := Eq.trans rfl rfl
@[simp] theorem isD_bool_lst {i : List D} : isD .bool (.lst i) = some false := Eq.trans rfl rfl
@[simp] theorem isD_bool_str {i : Str} : isD .bool (.str i) = some false := Eq.trans rfl rfl
@[simp] theorem isD_bool_bl {i : Bool} : isD .bool (.bl i) = some true := Eq.trans rfl rfl
@[simp] theorem isD_tuple_int {i : Int} : isD .tuple (.int i) = some false := Eq.trans rfl rfl
@[simp] theorem isD_tuple_tup {i : List D} : isD .tuple (.tup i) = some true := Eq.trans rfl rfl
@[simp] theorem isD_tuple_lst {i : List D} : isD .tuple (.lst i) = some false := Eq.trans rfl rfl
@[simp] theorem isD_tuple_str {i : Str} : isD .tuple (.str i) = some false := Eq.trans rfl rfl
@[simp] theorem isD_tuple_bl {i : Bool} : isD .tuple (.bl i) = some false := Eq.trans rfl rfl
@[simp] theorem isD_list_int {i : Int} : isD .list (.int i) = some false := Eq.trans rfl rfl
@[simp] theorem isD_list_tup {i : List D} : isD .list (.tup i) = some false := Eq.trans rfl rfl
@[simp] theorem isD_list_lst {i : List D} : isD .list (.lst i) = some true := Eq.trans rfl rfl
@[simp] theorem isD_list_str {i : Str} : isD .list (.str i) = some false := Eq.trans rfl rfl
@[simp] theorem isD_list_bl {i : Bool} : isD .list (.bl i) = some false := Eq.trans rfl rfl
@[simp] theorem isD_str_int {i : Int} : isD .str (.int i) = some false := Eq.trans rfl rfl
@[simp] theorem isD_str_tup {i : List D} : isD .str (.tup i) = some false := Eq.trans rfl rfl
@[simp] theorem isD_str_lst {i : List D} : isD .str (.lst i) = some false := Eq.trans rfl rfl
@[simp] theorem isD_str_str {i : Str} : isD .str (.str i) = some true := Eq.trans rfl rfl
@[simp] theorem isD_str_bl {i : Bool} : isD .str (.bl i) = some false := Eq.trans rfl rfl
@[simp] theorem items_tup {st : Sto} {xs : List D} : items st (.tup xs) = some xs := Eq.trans rfl rfl
@[simp] theorem items_lst {st : Sto} {xs : List D} : items st (.lst xs) = some xs := Eq.trans rfl rfl
@[simp] theorem items_ref {st : Sto} {n : Nat} : items st (.ref n) = st[n]? := Eq.trans rfl rfl
@[simp] theorem itemsL_lst {st : Sto} {xs : List D} : itemsL st (.lst xs) = some xs := Eq.trans rfl rfl
@[simp] theorem itemsL_ref {st : Sto} {n : Nat} : itemsL st (.ref n) = st[n]? := Eq.trans rfl rfl
@[simp] theorem fixed_tup {xs : List D} : fixed (.tup xs) = some xs := Eq.trans rfl rfl
@[simp] theorem fixed_lst {xs : List D} : fixed (.lst xs) = some xs := Eq.trans rfl rfl
@[simp] theorem one1_one {α : Type} {f : D → Option α} {d : D} : one1 f [d] = f d := Eq.trans rfl rfl
@[simp] theorem bLen_tup {st : Sto} {xs : List D} : bLen st [.tup xs] = some (.int xs.length) := Eq.trans rfl rfl
@[simp] theorem bLen_lst {st : Sto} {xs : List D} : bLen st [.lst xs] = some (.int xs.length) := Eq.trans rfl rfl
@[simp] theorem bTuple_lst {st : Sto} {xs : List D} : bTuple st [.lst xs] = some (.tup xs) := Eq.trans rfl rfl
@[simp] theorem bTuple_tup {st : Sto} {xs : List D} : bTuple st [.tup xs] = some (.tup xs) := Eq.trans rfl rfl
@[simp] theorem bAll_bls {st : Sto} {bs : List Bool} : bAll st [.lst (bs.map D.bl)] = some (.bl (bs.all id)) := by simp [bAll, blsOf_map]
@[simp] theorem bAny_bls {st : Sto} {bs : List Bool} : bAny st [.lst (bs.map D.bl)] = some (.bl (bs.any id)) := by simp [bAny, blsOf_map]
theorem lcEnd_ok {r : List D} {st : Sto} (h : r.length ≤ 1000000) : lcEnd r st = .ok (.lst r) st := by simp [lcEnd, h]

/-! ### comprehensions over encoded lists -/
theorem lcGo_enc {α : Type} {g : Tg} {t : Eb} {e : Ev} {ρ : Sl} {st : Sto} (enc : α → D) (p : α → Bool) (h : α → D) : ∀ (xs : List α), (∀ x ∈ xs, ∃ ρ1, g (enc x) ρ = some ρ1 ∧ t ρ1 st = .ok (p x) st ∧ (p x = true → e ρ1 st = .ok (h x) st)) → lcGo g t e ρ (xs.map enc) st = .ok ((xs.filter p).map h) st
  | [], _ => rfl
  | x :: xs, hs => by
    obtain ⟨ρ1, h1, h2, h3⟩ := hs x (List.mem_cons_self ..)
    have ih := lcGo_enc enc p h xs fun y hy => hs y (List.mem_cons_of_mem _ hy)
    rw [List.map_cons, lcGo, h1]
    simp only [h2, noX_ok, R.bind_ok]
    cases hp : p x with
    | true => simp [h3 hp, ih, hp]
    | false => simp [ih, hp]
/-- a whole comprehension, read off an iterator -/
theorem evLc_enc {α : Type} {vs : List Nat} {it : Ea} {g : Tg} {t : Eb} {e : Ev} {ρ : Sl} {st : Sto} (enc : α → D) (p : α → Bool) (h : α → D) (xs : List α) (hi : it ρ st = .ok (xs.map enc) st) (hl : xs.length ≤ 1000000)
    (hs : ∀ x ∈ xs, ∃ ρ1, g (enc x) (wipeS ρ vs) = some ρ1 ∧ t ρ1 st = .ok (p x) st ∧ (p x = true → e ρ1 st = .ok (h x) st)) : evLc vs it g t e ρ st = .ok (.lst ((xs.filter p).map h)) st := by
  rw [evLc_ap, hi, R.bind_ok, lcGo_enc enc p h xs hs, R.bind_ok, lcEnd_ok]
  rw [List.length_map]
  exact Nat.le_trans (List.length_filter_le _ _) hl
theorem evLc_map {α : Type} {vs : List Nat} {it : Ea} {g : Tg} {e : Ev} {ρ : Sl} {st : Sto} (enc : α → D) (h : α → D) (xs : List α) (hi : it ρ st = .ok (xs.map enc) st) (hl : xs.length ≤ 1000000)
    (hs : ∀ x ∈ xs, ∃ ρ1, g (enc x) (wipeS ρ vs) = some ρ1 ∧ e ρ1 st = .ok (h x) st) : evLc vs it g ebYes e ρ st = .ok (.lst (xs.map h)) st := by
  have z := evLc_enc (vs := vs) (it := it) (g := g) (t := ebYes) (e := e) enc (fun _ => true) h xs hi hl fun x hx => let ⟨ρ1, h1, h2⟩ := hs x hx; ⟨ρ1, h1, rfl, fun _ => h2⟩
  rw [List.filter_eq_self.mpr (fun _ _ => rfl)] at z
  exact z
theorem blsOf_fun {α : Type} (q : α → Bool) (xs : List α) : blsOf (xs.map fun x => D.bl (q x)) = some (xs.map q) := by
  have := blsOf_map (xs.map q)
  rw [List.map_map] at this
  exact this
theorem bAll_fun {α : Type} {st : Sto} (q : α → Bool) (xs : List α) : bAll st [.lst (xs.map fun x => D.bl (q x))] = some (.bl (xs.all q)) := by
  have e : bAll st [.lst (xs.map fun x => D.bl (q x))] = ((some (xs.map fun x => D.bl (q x))).bind blsOf).map fun bs => .bl (bs.all id) := rfl
  rw [e, Option.bind_some, blsOf_fun]
  simp
theorem bAny_fun {α : Type} {st : Sto} (q : α → Bool) (xs : List α) : bAny st [.lst (xs.map fun x => D.bl (q x))] = some (.bl (xs.any q)) := by
  have e : bAny st [.lst (xs.map fun x => D.bl (q x))] = ((some (xs.map fun x => D.bl (q x))).bind blsOf).map fun bs => .bl (bs.any id) := rfl
  rw [e, Option.bind_some, blsOf_fun]
  simp
theorem allLc {α : Type} {lc : Ev} {ρ : Sl} {st : Sto} {q : α → Bool} {xs : List α} {b : Bool} (h : lc ρ st = .ok (.lst (xs.map fun x => .bl (q x))) st) (hb : xs.all q = b) : evB bAll (eaCons lc eaNil) ρ st = .ok (.bl b) st := by
  rw [evB_ap, eaCons_ap, h, R.bind_ok, kC2_0, eaNil_ap, R.bind_ok, kC3_0, R.bind_ok, kBf_0, bAll_fun, hb, R.lift_some]
theorem anyLc {α : Type} {lc : Ev} {ρ : Sl} {st : Sto} {q : α → Bool} {xs : List α} {b : Bool} (h : lc ρ st = .ok (.lst (xs.map fun x => .bl (q x))) st) (hb : xs.any q = b) : evB bAny (eaCons lc eaNil) ρ st = .ok (.bl b) st := by
  rw [evB_ap, eaCons_ap, h, R.bind_ok, kC2_0, eaNil_ap, R.bind_ok, kC3_0, R.bind_ok, kBf_0, bAny_fun, hb, R.lift_some]
theorem tupLc {lc : Ev} {ρ : Sl} {st : Sto} {xs : List D} (h : lc ρ st = .ok (.lst xs) st) : evB bTuple (eaCons lc eaNil) ρ st = .ok (.tup xs) st := by
  rw [evB_ap, eaCons_ap, h]; rfl
theorem lenLc {lc : Ev} {ρ : Sl} {st : Sto} {xs : List D} (h : lc ρ st = .ok (.lst xs) st) : evB bLen (eaCons lc eaNil) ρ st = .ok (.int xs.length) st := by
  rw [evB_ap, eaCons_ap, h]; rfl
theorem evLc_id {α : Type} {vs : List Nat} {it : Ea} {g : Tg} {t : Eb} {e : Ev} {ρ : Sl} {st : Sto} (enc : α → D) (p : α → Bool) (xs : List α) (hi : it ρ st = .ok (xs.map enc) st) (hl : xs.length ≤ 1000000)
    (hs : ∀ x ∈ xs, ∃ ρ1, g (enc x) (wipeS ρ vs) = some ρ1 ∧ t ρ1 st = .ok (p x) st ∧ e ρ1 st = .ok (enc x) st) : evLc vs it g t e ρ st = .ok (.lst ((xs.filter p).map enc)) st :=
  evLc_enc enc p enc xs hi hl fun x hx => let ⟨ρ1, h1, h2, h3⟩ := hs x hx; ⟨ρ1, h1, h2, fun _ => h3⟩
theorem lc2Go_enc {α β : Type} {vs1 : List Nat} {g g1 : Tg} {t t1 : Eb} {it1 : Ea} {e : Ev} {ρ : Sl} {st : Sto} (enc : α → D) (enc1 : β → D) (f : α → List β) (p : α → β → Bool) (h : α → β → D) : ∀ (xs : List α),
    (∀ x ∈ xs, ∃ ρ1, g (enc x) ρ = some ρ1 ∧ t ρ1 st = .ok true st ∧ it1 ρ1 st = .ok ((f x).map enc1) st ∧ ∀ y ∈ f x, ∃ ρ2, g1 (enc1 y) (wipeS ρ1 vs1) = some ρ2 ∧ t1 ρ2 st = .ok (p x y) st ∧ (p x y = true → e ρ2 st = .ok (h x y) st)) →
    lc2Go vs1 g t it1 g1 t1 e ρ (xs.map enc) st = .ok (xs.flatMap fun x => ((f x).filter (p x)).map (h x)) st
  | [], _ => rfl
  | x :: xs, hs => by
    obtain ⟨ρ1, h1, h2, h3, h4⟩ := hs x (List.mem_cons_self ..)
    have ih := lc2Go_enc enc enc1 f p h xs fun y hy => hs y (List.mem_cons_of_mem _ hy)
    rw [List.map_cons, lc2Go, h1]
    have e1 := lcGo_enc enc1 (p x) (h x) (f x) h4
    simp only [h2, h3, noX_ok, R.bind_ok, if_true, e1, ih, List.flatMap_cons]
theorem evLc2_enc {α β : Type} {vs vs1 : List Nat} {it it1 : Ea} {g g1 : Tg} {t t1 : Eb} {e : Ev} {ρ : Sl} {st : Sto} (enc : α → D) (enc1 : β → D) (f : α → List β) (p : α → β → Bool) (h : α → β → D) (xs : List α) (hi : it ρ st = .ok (xs.map enc) st)
    (hl : (xs.flatMap fun x => ((f x).filter (p x)).map (h x)).length ≤ 1000000)
    (hs : ∀ x ∈ xs, ∃ ρ1, g (enc x) (wipeS ρ vs) = some ρ1 ∧ t ρ1 st = .ok true st ∧ it1 ρ1 st = .ok ((f x).map enc1) st ∧ ∀ y ∈ f x, ∃ ρ2, g1 (enc1 y) (wipeS ρ1 vs1) = some ρ2 ∧ t1 ρ2 st = .ok (p x y) st ∧ (p x y = true → e ρ2 st = .ok (h x y) st)) :
    evLc2 vs vs1 it g t it1 g1 t1 e ρ st = .ok (.lst (xs.flatMap fun x => ((f x).filter (p x)).map (h x))) st := by
  rw [evLc2_ap, hi, R.bind_ok, lc2Go_enc enc enc1 f p h xs hs, R.bind_ok, lcEnd_ok hl]
/-! ### loops over encoded lists -/
theorem forGo_ix {α : Type} {g : Tg} {b : Es} (enc : α → D) (I : Nat → Sl → Sto → Prop) : ∀ (xs : List α) (k : Nat) (ρ : Sl) (st : Sto), I k ρ st →
    (∀ (i : Nat) (x : α) (ρ : Sl) (st : Sto), xs[i]? = some x → I (k + i) ρ st → ∃ ρ1 ρ2 st2, g (enc x) ρ = some ρ1 ∧ b ρ1 st = .nx ρ2 st2 ∧ I (k + i + 1) ρ2 st2) →
    ∃ ρ' st', forGo g b (xs.map enc) ρ st = .nx ρ' st' ∧ I (k + xs.length) ρ' st'
  | [], k, ρ, st, h, _ => ⟨ρ, st, rfl, h⟩
  | x :: xs, k, ρ, st, h, hs => by
    obtain ⟨ρ1, ρ2, st2, h1, h2, h3⟩ := hs 0 x ρ st rfl h
    obtain ⟨ρ', st', e1, e2⟩ := forGo_ix enc I xs (k + 1) ρ2 st2 h3 fun i y ρ st hy hi => by
      have := hs (i + 1) y ρ st (by simpa using hy) (by rw [show k + (i + 1) = k + 1 + i by omega]; exact hi)
      rw [show k + (i + 1) + 1 = k + 1 + i + 1 by omega] at this
      exact this
    refine ⟨ρ', st', ?_, by rw [List.length_cons, show k + (xs.length + 1) = k + 1 + xs.length by omega]; exact e2⟩
    rw [List.map_cons, forGo, h1]
    simp only [h2, RS.turn_nx, e1]
/-- a state that is folded -/
theorem forGo_fold {α β : Type} {g : Tg} {b : Es} {st : Sto} (enc : α → D) (I : β → Sl → Prop) (f : β → α → β) : ∀ (xs : List α) (s : β) (ρ : Sl), I s ρ →
    (∀ (x : α) (s : β) (ρ : Sl), x ∈ xs → I s ρ → ∃ ρ1 ρ2, g (enc x) ρ = some ρ1 ∧ b ρ1 st = .nx ρ2 st ∧ I (f s x) ρ2) →
    ∃ ρ', forGo g b (xs.map enc) ρ st = .nx ρ' st ∧ I (xs.foldl f s) ρ'
  | [], s, ρ, h, _ => ⟨ρ, rfl, h⟩
  | x :: xs, s, ρ, h, hs => by
    obtain ⟨ρ1, ρ2, h1, h2, h3⟩ := hs x s ρ (List.mem_cons_self ..) h
    obtain ⟨ρ', e1, e2⟩ := forGo_fold enc I f xs (f s x) ρ2 h3 fun y s ρ hy => hs y s ρ (List.mem_cons_of_mem _ hy)
    refine ⟨ρ', ?_, e2⟩
    rw [List.map_cons, forGo, h1]
    simp only [h2, RS.turn_nx, e1]
/-- a loop that may return -/
theorem forGo_ret {α : Type} {g : Tg} {b : Es} {st : Sto} (enc : α → D) (I : Sl → Prop) (f : α → Option D) : ∀ (xs : List α) (ρ : Sl), I ρ →
    (∀ (x : α) (ρ : Sl), x ∈ xs → I ρ → ∃ ρ1, g (enc x) ρ = some ρ1 ∧ ((∃ d, f x = some d ∧ b ρ1 st = .rt d st) ∨ (f x = none ∧ ∃ ρ2, b ρ1 st = .nx ρ2 st ∧ I ρ2))) →
    (∃ d, xs.findSome? f = some d ∧ forGo g b (xs.map enc) ρ st = .rt d st) ∨ (xs.findSome? f = none ∧ ∃ ρ', forGo g b (xs.map enc) ρ st = .nx ρ' st ∧ I ρ')
  | [], ρ, h, _ => .inr ⟨rfl, ρ, rfl, h⟩
  | x :: xs, ρ, h, hs => by
    obtain ⟨ρ1, h1, h2⟩ := hs x ρ (List.mem_cons_self ..) h
    rw [List.map_cons, forGo, h1, List.findSome?_cons]
    rcases h2 with ⟨d, e1, e2⟩ | ⟨e1, ρ2, e2, e3⟩
    · rw [e1]
      exact .inl ⟨d, rfl, by simp only [e2, RS.turn_rt]⟩
    · rw [e1]
      simp only [e2, RS.turn_nx]
      exact forGo_ret enc I f xs ρ2 e3 fun y ρ hy => hs y ρ (List.mem_cons_of_mem _ hy)
theorem rng0 (n : Nat) : rng 0 n = (List.range n).map fun (i : Nat) => D.int i := by
  unfold rng
  congr 1
  funext i
  simp
end Ip
set_option Elab.async false
set_option linter.all false
set_option maxRecDepth 100000
set_option maxHeartbeats 4000000
namespace Lw
open PySem Ip Lots

/-! ### plans, cases as data -/
abbrev dI (n : Nat) : D := .int (n : Int)
def dL (l : List Nat) : D := .tup (l.map dI)
abbrev Pl := Nat × List (List Nat)
def dP (p : Pl) : D := .tup [dI p.1, .tup (p.2.map dL)]
/-- ascending, below m -/
def Asc (m : Nat) (l : List Nat) : Prop := l.Pairwise (· < ·) ∧ ∀ x ∈ l, x < m
structure OkP (p : Pl) : Prop where
  one : 1 ≤ p.1
  ten : p.1 ≤ 10
  lots : p.2.length ≤ 10
  asc : ∀ l ∈ p.2, Asc p.1 l
theorem Asc.len {m : Nat} {l : List Nat} (h : Asc m l) : l.length ≤ m := by
  have nd : l.Nodup := h.1.imp fun h => Nat.ne_of_lt h
  have : l ⊆ List.range m := fun x hx => List.mem_range.mpr (h.2 x hx)
  have := nd.length_le_of_subset this
  simpa using this
@[simp] theorem okS_int {i : Int} : okS (.int i) = true := Eq.trans rfl rfl
theorem okSs_map {α : Type} {f : α → D} {l : List α} (h : ∀ x ∈ l, okS (f x) = true) : okSs (l.map f) = true := by
  induction l with
  | nil => rfl
  | cons x l ih =>
    show (okS (f x) && okSs (l.map f)) = true
    rw [h x (List.mem_cons_self ..), ih fun y hy => h y (List.mem_cons_of_mem _ hy)]
    rfl
@[simp] theorem okSs_ints {l : List Nat} : okSs (l.map dI) = true := okSs_map fun _ _ => rfl
@[simp] theorem okS_dL {l : List Nat} : okS (dL l) = true := okSs_ints
theorem pys_fun {α : Type} {f : α → D} {g : α → PyData} (h : ∀ x, py (f x) = g x) (l : List α) : pys (l.map f) = l.map g := by
  rw [pys_map, List.map_map]
  exact List.map_congr_left fun x _ => h x
theorem depthAll_le {n : Nat} : ∀ {l : List PyData}, (∀ x ∈ l, x.depth ≤ n) → PyData.depthAll l ≤ n
  | [], _ => Nat.zero_le _
  | x :: l, h => by
    have h1 := h x (List.mem_cons_self ..)
    have h2 := depthAll_le (l := l) fun y hy => h y (List.mem_cons_of_mem _ hy)
    simp only [PyData.depthAll]
    exact Nat.max_le.mpr ⟨h1, h2⟩
theorem depth_tup {l : List PyData} : (PyData.tuple l).depth = PyData.depthAll l + 1 := by simp [PyData.depth]
theorem depth_lst {l : List PyData} : (PyData.list l).depth = PyData.depthAll l + 1 := by simp [PyData.depth]
theorem depth_dL {l : List Nat} : (py (dL l)).depth ≤ 1 := by
  show (PyData.tuple (pys (l.map dI))).depth ≤ 1
  rw [depth_tup, pys_fun (f := dI) (g := fun (n : Nat) => PyData.int n) (fun _ => rfl)]
  have : PyData.depthAll (l.map fun (n : Nat) => PyData.int n) ≤ 0 := depthAll_le fun x hx => by
    obtain ⟨n, _, rfl⟩ := List.mem_map.mp hx
    simp [PyData.depth]
  omega
@[simp] theorem okD_int {i : Int} : okD (.int i) = true := Eq.trans rfl rfl
@[simp] theorem okD_dL {l : List Nat} : okD (dL l) = true := by
  unfold okD
  rw [okS_dL, Bool.true_and, decide_eq_true_eq]
  exact Nat.le_trans depth_dL (by decide)
@[simp] theorem eqD_int {i j : Int} : eqD (.int i) (.int j) = decide (i = j) := by
  show PyData.eqv (.int i) (.int j) = _
  simp [PyData.eqv]
  rfl
theorem eqvAll_ints : ∀ {a b : List Nat}, PyData.eqvAll (pys (a.map dI)) (pys (b.map dI)) = decide (a = b)
  | [], [] => by simp [pys, PyData.eqvAll]
  | [], _ :: _ => by simp [pys, PyData.eqvAll]
  | _ :: _, [] => by simp [pys, PyData.eqvAll]
  | x :: a, y :: b => by
    have ih := eqvAll_ints (a := a) (b := b)
    simp only [List.map_cons, pys, py, PyData.eqvAll, PyData.eqv, ih]
    by_cases h : x = y
    · subst h; simp
    · have : ((x : Int) == (y : Int)) = false := by
        rw [beq_eq_false_iff_ne]
        omega
      rw [this]
      simp [h]
@[simp] theorem eqD_dL {a b : List Nat} : eqD (dL a) (dL b) = decide (a = b) := by
  show PyData.eqv (.tuple (pys (a.map dI))) (.tuple (pys (b.map dI))) = _
  rw [PyData.eqv, eqvAll_ints]
theorem inD_ints {l : List Nat} {a : Nat} : inD (l.map dI) (dI a) = decide (a ∈ l) := by
  unfold inD
  rw [List.any_map, Bool.eq_iff_iff, List.any_eq_true, decide_eq_true_eq]
  constructor
  · rintro ⟨x, hx, e⟩
    have e : eqD (dI x) (dI a) = true := e
    rw [eqD_int, decide_eq_true_eq] at e
    have : x = a := by omega
    exact this ▸ hx
  · exact fun h => ⟨a, h, by show eqD (dI a) (dI a) = true; simp⟩
@[simp] theorem oIn_dL {st : Sto} {a : Nat} {l : List Nat} : oIn st (dI a) (dL l) = some (.bl (decide (a ∈ l))) := by
  unfold oIn dL
  simp [inD_ints]
@[simp] theorem oNotIn_dL {st : Sto} {a : Nat} {l : List Nat} : oNotIn st (dI a) (dL l) = some (.bl (decide (a ∉ l))) := by
  unfold oNotIn dL
  simp [inD_ints]
@[simp] theorem oEq_int {st : Sto} {i j : Int} : oEq st (.int i) (.int j) = some (.bl (decide (i = j))) := by simp [oEq, deref]
@[simp] theorem oNe_int {st : Sto} {i j : Int} : oNe st (.int i) (.int j) = some (.bl (!decide (i = j))) := by simp [oNe, deref]
@[simp] theorem deref_dL {st : Sto} {l : List Nat} : deref st (dL l) = dL l := Eq.trans rfl rfl
@[simp] theorem oEq_dL {st : Sto} {a b : List Nat} : oEq st (dL a) (dL b) = some (.bl (decide (a = b))) := by simp [oEq]
@[simp] theorem oNe_dL {st : Sto} {a b : List Nat} : oNe st (dL a) (dL b) = some (.bl (!decide (a = b))) := by simp [oNe]
@[simp] theorem fixed_dL {l : List Nat} : fixed (dL l) = some (l.map dI) := Eq.trans rfl rfl
@[simp] theorem bLen_dL {st : Sto} {l : List Nat} : bLen st [dL l] = some (.int l.length) := by simp [dL]
@[simp] theorem isD_tuple_dL {l : List Nat} : isD .tuple (dL l) = some true := Eq.trans rfl rfl
@[simp] theorem atI_nat {α : Type} {xs : List α} {i : Nat} : L2.atI xs (i : Int) = xs[i]? := by
  unfold L2.atI L2.ixN
  by_cases h : i < xs.length
  · rw [if_pos (by omega), if_pos (by omega)]
    simp
  · rw [if_pos (by omega), if_neg (by omega), List.getElem?_eq_none (by omega)]
    rfl
@[simp] theorem atI_0 {α : Type} {xs : List α} : L2.atI xs 0 = xs[0]? := atI_nat (i := 0)
@[simp] theorem atI_1 {α : Type} {xs : List α} : L2.atI xs 1 = xs[1]? := atI_nat (i := 1)
@[simp] theorem oIx_dP0 {st : Sto} {p : Pl} : oIx st (dP p) (.int 0) = some (dI p.1) := by simp [oIx, dP]
@[simp] theorem oIx_dP1 {st : Sto} {p : Pl} : oIx st (dP p) (.int 1) = some (.tup (p.2.map dL)) := by simp [oIx, dP]
@[simp] theorem bLen_dP {st : Sto} {p : Pl} : bLen st [dP p] = some (.int 2) := by simp [dP]
@[simp] theorem isD_tuple_dP {p : Pl} : isD .tuple (dP p) = some true := Eq.trans rfl rfl

theorem kIR1_nat {j : Nat} (h : j ≤ 1000000) {st : Sto} : kIR1 [dI j] st = .ok ((List.range j).map dI) st := by
  rw [kIR1_0, if_pos (by omega), rng0]
  simp
theorem kIR1_nat1 {j : Nat} (h : j ≤ 100000) {st : Sto} : kIR1 [.int ((j : Int) + 1)] st = .ok ((List.range (j + 1)).map dI) st := kIR1_nat (j := j + 1) (by omega)
/-! ### is_whole .. need_view -/
@[simp] theorem is_whole_int (v lo hi : Int) (st : Sto) : f_is_whole [.int v, .int lo, .int hi] st = .ok (.bl (decide (lo ≤ v) && decide (v ≤ hi))) st := by
  simp [f_is_whole, b_is_whole]
  by_cases h : lo ≤ v <;> simp [h]
theorem zip_tail {l : List Nat} : pairZ (l.map dI) (l.map dI).tail = (l.zip l.tail).map fun q => .tup [dI q.1, dI q.2] := by
  unfold pairZ
  rw [← List.map_tail, List.zip_map, List.map_map]
  rfl
theorem all_tail : ∀ {l : List Nat}, l.Pairwise (· < ·) → ((l.zip l.tail).all fun q => decide ((q.1 : Int) < (q.2 : Int))) = true
  | [], _ => rfl
  | [_], _ => rfl
  | x :: y :: l, h => by
    have h2 := List.pairwise_cons.mp h
    have ih := all_tail h2.2
    show (((x, y) :: ((y :: l).zip l)).all _) = true
    rw [List.all_cons]
    have e : ((y :: l).zip l).all (fun q => decide ((q.1 : Int) < (q.2 : Int))) = true := ih
    rw [e, Bool.and_true, decide_eq_true_eq]
    have := h2.1 y (List.mem_cons_self ..)
    omega
theorem is_rising_ok {m : Nat} {l : List Nat} (h : Asc m l) (hl : l.length ≤ 1000) (st : Sto) : f_is_rising [dL l, dI m] st = .ok (.bl true) st := by
  have c1 : evLc [2] (itVal (evVar 0)) (gN 2) ebYes (evCall 3 f_is_whole (eaCons (evVar 2) (eaCons (evC (.int 0)) (eaCons (evOp oSub (evVar 1) (evC (.int 1))) eaNil)))) [some (dL l), some (dI m), none, none] st = .ok (.lst (l.map fun (x : Nat) => .bl (decide ((0 : Int) ≤ (x : Int)) && decide ((x : Int) ≤ (m : Int) - 1)))) st :=
    evLc_map dI _ l (by simp) (by omega) fun x hx => ⟨_, rfl, by simp⟩
  have c2 : evLc [2, 3] (itZip (eaCons (evVar 0) (eaCons (evSl (evVar 0) (eoSome (evC (.int 1))) eoNone) eaNil))) (gT 2 (gsCons (gN 2) (gsCons (gN 3) gsNil))) ebYes (evOp oLt (evVar 2) (evVar 3)) [some (dL l), some (dI m), none, none] st = .ok (.lst ((l.zip l.tail).map fun q => .bl (decide ((q.1 : Int) < (q.2 : Int))))) st := by
    refine evLc_map (fun q => .tup [dI q.1, dI q.2]) _ _ ?_ (by simp; omega) fun x hx => ⟨_, rfl, by simp⟩
    have e : cutD (l.map dI) (some 1) none = (l.map dI).tail := by
      unfold cutD
      have e1 : HT.sIx (l.map dI).length 0 (some 1) = min 1 (l.map dI).length := HT.sIx_nat _ 0 1
      rw [e1]
      show List.take ((l.map dI).length - _) _ = _
      by_cases hz : l.length = 0
      · rw [List.length_eq_zero_iff.mp hz]; rfl
      · have : min 1 (l.map dI).length = 1 := by simp; omega
        rw [this, List.drop_one]
        rw [List.take_of_length_le]
        simp
    simp [dL, oSl, e, zipD, zip_tail]
  have a1 : (l.all fun (x : Nat) => decide ((0 : Int) ≤ (x : Int)) && decide ((x : Int) ≤ (m : Int) - 1)) = true := by
    rw [List.all_eq_true]
    intro x hx
    have := h.2 x hx
    simp
    omega
  have d1 := allLc c1 a1
  have d2 := allLc c2 (all_tail h.1)
  simp [f_is_rising, b_is_rising, d1, d2]
end Lw
namespace Lw
open PySem Ip Lots
theorem fits_plan_ok {p : Pl} (h : OkP p) (st : Sto) : f_fits_plan [dP p] st = .ok (.bl true) st := by
  have c1 : evLc [1] (itVal (evOp oIx (evVar 0) (evC (.int 1)))) (gN 1) ebYes (evCall 2 f_is_rising (eaCons (evVar 1) (eaCons (evOp oIx (evVar 0) (evC (.int 0))) eaNil))) [some (dP p), none] st = .ok (.lst (p.2.map fun _ => .bl true)) st :=
    evLc_map dL _ p.2 (by simp) (by have := h.lots; omega) fun l hl => ⟨_, rfl, by
      have := (h.asc l hl).len
      have := h.ten
      simp [is_rising_ok (h.asc l hl) (by omega)]⟩
  have d1 := allLc c1 (b := true) (by simp)
  have h1 := h.one
  have h2 := h.ten
  have h3 := h.lots
  have e1 : decide ((1 : Int) ≤ (p.1 : Int)) = true := by simp; omega
  have e2 : decide ((p.1 : Int) ≤ 10) = true := by simp; omega
  have e3 : decide ((10 : Int) < (p.2.length : Int)) = false := by simp; omega
  simp [f_fits_plan, b_fits_plan, d1, e1, e2, e3]
@[simp] theorem need_plan_ok {p : Pl} (h : OkP p) (st : Sto) : f_need_plan [dP p] st = .ok .non st := by
  simp [f_need_plan, b_need_plan, fits_plan_ok h]
theorem need_case_ok {p : Pl} {c : List Nat} (h : OkP p) (hc : Asc p.1 c) (st : Sto) : f_need_case [dP p, dL c] st = .ok .non st := by
  have := hc.len
  have := h.ten
  simp [f_need_case, b_need_case, is_rising_ok hc (by omega)]
theorem need_view_ok {m : Nat} {c : List Nat} (hm : m ≤ 1000) (hc : Asc m c) (st : Sto) : f_need_view [dI m, dL c] st = .ok .non st := by
  have := hc.len
  simp [f_need_view, b_need_view, is_rising_ok hc (by omega)]
theorem need_number_ok {v lo hi : Int} (h1 : lo ≤ v) (h2 : v ≤ hi) (st : Sto) : f_need_number [.int v, .int lo, .int hi] st = .ok .non st := by
  simp [f_need_number, b_need_number, h1, h2]
theorem need_both_ok {p : Pl} {m : Nat} (h : OkP p) (hm : m ≤ 10) (st : Sto) : f_need_both [dP p, dI m] st = .ok .non st := by
  simp [f_need_both, b_need_both, need_plan_ok h, need_number_ok (v := m) (lo := 0) (hi := 10) (by omega) (by omega)]

/-! ### what a case shows, in which lots a thing is -/
def view (p : Pl) (c : List Nat) : List Nat := (p.2.zipIdx.filter fun q => q.1.any fun t => decide (t ∈ c)).map (·.2)
def lotsOf (p : Pl) (t : Nat) : List Nat := (p.2.zipIdx.filter fun q => decide (t ∈ q.1)).map (·.2)
def encL (q : List Nat × Nat) : D := .tup [dI q.2, dL q.1]
theorem pairN_lots {p : Pl} : pairN (p.2.map dL) = p.2.zipIdx.map encL := by
  unfold pairN
  rw [List.zipIdx_map, List.map_map]
  rfl
theorem view_of_ok {p : Pl} (h : OkP p) (c : List Nat) (st : Sto) : f_view_of [dP p, dL c] st = .ok (dL (view p c)) st := by
  have c2 : ∀ q ∈ p.2.zipIdx, evLc [4] (itVal (evVar 3)) (gN 4) ebYes (evOp oIn (evVar 4) (evVar 1)) [some (dP p), some (dL c), some (dI q.2), some (dL q.1), none] st = .ok (.lst (q.1.map fun t => .bl (decide (t ∈ c)))) st := fun q hq => by
    have := (h.asc q.1 (List.fst_mem_of_mem_zipIdx hq)).len
    have := h.ten
    exact evLc_map dI _ q.1 (by simp) (by omega) fun t _ => ⟨_, rfl, by simp⟩
  have c1 : evLc [2, 3] (itEn (eaCons (evOp oIx (evVar 0) (evC (.int 1))) eaNil)) (gT 2 (gsCons (gN 2) (gsCons (gN 3) gsNil))) (ebOf (evB bAny (eaCons (evLc [4] (itVal (evVar 3)) (gN 4) ebYes (evOp oIn (evVar 4) (evVar 1))) eaNil))) (evVar 2) [some (dP p), some (dL c), none, none, none] st
      = .ok (.lst ((p.2.zipIdx.filter fun q => q.1.any fun t => decide (t ∈ c)).map fun q => dI q.2)) st := by
    refine evLc_enc encL _ _ _ (by simp [pairN_lots]) (by have := h.lots; simp; omega) fun q hq => ⟨_, rfl, ?_, fun _ => by simp⟩
    have d2 := anyLc (c2 q hq) rfl
    simp [d2]
  have d1 := tupLc c1
  have e : D.tup ((p.2.zipIdx.filter fun q => q.1.any fun t => decide (t ∈ c)).map fun q => dI q.2) = dL (view p c) := by
    unfold dL view
    rw [List.map_map]; rfl
  rw [e] at d1
  simp [f_view_of, b_view_of, d1]
theorem lots_of_ok {p : Pl} (h : OkP p) (t : Nat) (st : Sto) : f_lots_of [dP p, dI t] st = .ok (dL (lotsOf p t)) st := by
  have c1 : evLc [2, 3] (itEn (eaCons (evOp oIx (evVar 0) (evC (.int 1))) eaNil)) (gT 2 (gsCons (gN 2) (gsCons (gN 3) gsNil))) (ebOf (evOp oIn (evVar 1) (evVar 3))) (evVar 2) [some (dP p), some (dI t), none, none] st
      = .ok (.lst ((p.2.zipIdx.filter fun q => decide (t ∈ q.1)).map fun q => dI q.2)) st :=
    evLc_enc encL _ _ _ (by simp [pairN_lots]) (by have := h.lots; simp; omega) fun q hq => ⟨_, rfl, by simp, fun _ => by simp⟩
  have d1 := tupLc c1
  have e : D.tup ((p.2.zipIdx.filter fun q => decide (t ∈ q.1)).map fun q => dI q.2) = dL (lotsOf p t) := by
    unfold dL lotsOf
    rw [List.map_map]; rfl
  rw [e] at d1
  simp [f_lots_of, b_lots_of, d1]
theorem shown_ok {p : Pl} {c : List Nat} (h : OkP p) (hc : Asc p.1 c) (st : Sto) : f_shown [dP p, dL c] st = .ok (dL (view p c)) st := by
  simp [f_shown, b_shown, need_plan_ok h, need_case_ok h hc, view_of_ok h]

/-! ### all cases -/
def genC (k : Nat) : Nat → List (List Nat)
  | 0 => [[]]
  | i + 1 => genC k i ++ ((genC k i).filter fun c => decide (c.length < k)).map (· ++ [i])
def leL (a b : List Nat) : Bool := leD (dL a) (dL b)
def cases (m k : Nat) : List (List Nat) := (genC k m).mergeSort leL
theorem genC_len {k : Nat} : ∀ i, (genC k i).length ≤ 2 ^ i
  | 0 => Nat.le_refl _
  | i + 1 => by
    have ih := genC_len (k := k) i
    have := List.length_filter_le (fun c : List Nat => decide (c.length < k)) (genC k i)
    simp only [genC, List.length_append, List.length_map]
    rw [Nat.pow_succ]
    omega
theorem genC_mem {k : Nat} : ∀ {i : Nat} {c : List Nat}, c ∈ genC k i ↔ Asc i c ∧ c.length ≤ k
  | 0, c => by
    simp only [genC, List.mem_singleton]
    constructor
    · rintro rfl
      exact ⟨⟨.nil, fun _ h => nomatch h⟩, Nat.zero_le _⟩
    · rintro ⟨h, _⟩
      exact List.eq_nil_iff_forall_not_mem.mpr fun x hx => absurd (h.2 x hx) (Nat.not_lt_zero _)
  | i + 1, c => by
    simp only [genC, List.mem_append, List.mem_map, List.mem_filter, decide_eq_true_eq]
    constructor
    · rintro (h | ⟨d, ⟨h, hl⟩, rfl⟩)
      · obtain ⟨⟨h1, h2⟩, h3⟩ := genC_mem.mp h
        exact ⟨⟨h1, fun x hx => Nat.lt_succ_of_lt (h2 x hx)⟩, h3⟩
      · obtain ⟨⟨h1, h2⟩, h3⟩ := genC_mem.mp h
        refine ⟨⟨?_, fun x hx => ?_⟩, ?_⟩
        · rw [List.pairwise_append]
          exact ⟨h1, List.pairwise_singleton _ _, fun a ha b hb => by rw [List.mem_singleton.mp hb]; exact h2 a ha⟩
        · rcases List.mem_append.mp hx with hx | hx
          · exact Nat.lt_succ_of_lt (h2 x hx)
          · rw [List.mem_singleton.mp hx]; exact Nat.lt_succ_self _
        · rw [List.length_append, List.length_singleton]; omega
    · rintro ⟨⟨h1, h2⟩, h3⟩
      by_cases hi : i ∈ c
      · right
        obtain ⟨a, b, rfl⟩ := List.append_of_mem hi
        rw [List.pairwise_append] at h1
        obtain ⟨p1, p2, p3⟩ := h1
        have hb : b = [] := List.eq_nil_iff_forall_not_mem.mpr fun x hx => by
          have q1 := (List.pairwise_cons.mp p2).1 x hx
          have q2 := h2 x (List.mem_append_right _ (List.mem_cons_of_mem _ hx))
          omega
        subst hb
        rw [List.length_append, List.length_singleton] at h3
        exact ⟨a, ⟨genC_mem.mpr ⟨⟨p1, fun x hx => p3 x hx i (List.mem_singleton.mpr rfl)⟩, by omega⟩, by omega⟩, rfl⟩
      · left
        exact genC_mem.mpr ⟨⟨h1, fun x hx => by
          have q := h2 x hx
          have : x ≠ i := fun e => hi (e ▸ hx)
          omega⟩, h3⟩
theorem genC_nodup {k : Nat} : ∀ i, (genC k i).Nodup
  | 0 => by simp [genC]
  | i + 1 => by
    have ih := genC_nodup (k := k) i
    simp only [genC]
    rw [List.nodup_append]
    refine ⟨ih, ?_, ?_⟩
    · exact List.Pairwise.map _ (fun a b hab e => hab (List.append_cancel_right e)) (ih.filter _)
    · intro a ha b hb e
      subst e
      obtain ⟨d, _, rfl⟩ := List.mem_map.mp hb
      have := (genC_mem.mp ha).1.2 i (List.mem_append_right _ (List.mem_singleton.mpr rfl))
      omega
theorem srt_dL {xs : List (List Nat)} : srtOk (xs.map dL) = true := by
  unfold srtOk
  simp only [Bool.and_eq_true, List.all_eq_true]
  refine ⟨⟨⟨okSs_map fun _ _ => okS_dL, ?_⟩, ?_⟩, ?_⟩
  · intro x hx y hy
    obtain ⟨a, _, rfl⟩ := List.mem_map.mp hx
    obtain ⟨b, _, rfl⟩ := List.mem_map.mp hy
    show PySem.W.alike (.tuple (pys (a.map dI))) (.tuple (pys (b.map dI))) = true
    have e : ∀ l : List Nat, pys (l.map dI) = (l.map fun (n : Nat) => (n : Int)).map PyData.int := fun l => by
      rw [pys_map, List.map_map, List.map_map]; rfl
    rw [e, e]
    rw [PySem.W.alike]
    exact PySem.W.alike_ints _ _
  · intro x hx
    obtain ⟨a, _, rfl⟩ := List.mem_map.mp hx
    rfl
  · intro x hx
    obtain ⟨a, _, rfl⟩ := List.mem_map.mp hx
    rw [decide_eq_true_eq]
    exact Nat.le_trans depth_dL (by decide)
@[simp] theorem bSorted_dL {st : Sto} {xs : List (List Nat)} : bSorted st [.lst (xs.map dL)] = some (.lst ((xs.mergeSort leL).map dL)) := by
  have e : bSorted st [.lst (xs.map dL)] = if srtOk (xs.map dL) = true then some (.lst ((xs.map dL).mergeSort leD)) else none := rfl
  rw [e, srt_dL, if_pos rfl, ← List.map_mergeSort (r := leL) (s := leD) (f := dL) fun _ _ _ _ => rfl]
theorem cases_of_ok {m : Nat} (hm : m ≤ 10) (k : Nat) (st : Sto) : f_cases_of [dI m, dI k] st = .ok (.lst ((cases m k).map dL)) st := by
  have hp : ∀ i, i ≤ 10 → (genC k i).length ≤ 1024 := fun i hi => Nat.le_trans (genC_len i) (by
    have := Nat.pow_le_pow_right (n := 2) (by decide) hi
    exact Nat.le_trans this (by decide))
  obtain ⟨ρ', st', e1, rfl, o1, o2, rfl⟩ := forGo_ix (g := gN 3) (b := sCons (sSet 2 (evOp oAdd (evVar 2) (evLc [4] (itVal (evVar 2)) (gN 4) (ebOf (evOp oLt (evB bLen (eaCons (evVar 4) eaNil)) (evVar 1))) (evOp oAdd (evVar 4) (evTup (eaCons (evVar 3) eaNil)))))) sNil) dI
    (fun i ρ st' => st' = st ∧ ∃ o1 o2, ρ = [some (dI m), some (dI k), some (.lst ((genC k i).map dL)), o1, o2]) (List.range m) 0 [some (dI m), some (dI k), some (.lst ((genC k 0).map dL)), none, none] st ⟨rfl, none, none, rfl⟩ (fun i x ρ st' hx ⟨e1, o1, o2, e2⟩ => by
      subst e1 e2
      obtain ⟨hi, rfl⟩ := List.getElem?_eq_some_iff.mp hx
      rw [List.getElem_range]
      rw [List.length_range] at hi
      have hl := hp i (by omega)
      have c1 : evLc [4] (itVal (evVar 2)) (gN 4) (ebOf (evOp oLt (evB bLen (eaCons (evVar 4) eaNil)) (evVar 1))) (evOp oAdd (evVar 4) (evTup (eaCons (evVar 3) eaNil))) [some (dI m), some (dI k), some (.lst ((genC k i).map dL)), some (dI i), o2] st' = .ok (.lst (((genC k i).filter fun c => decide (c.length < k)).map fun c => dL (c ++ [i]))) st' := by
        refine evLc_enc dL _ _ _ (by simp) (by omega) fun c hc => ⟨_, rfl, by simp, fun _ => ?_⟩
        have := ((genC_mem.mp hc).1).len
        have e : oAdd st' (dL c) (.tup [dI i]) = some (dL (c ++ [i])) := by
          unfold dL
          simp only [oAdd, List.length_map, List.length_singleton]
          rw [if_pos (by omega), List.map_append]
          rfl
        simp [e]
      have e : oAdd st' (.lst ((genC k i).map dL)) (.lst (((genC k i).filter fun c => decide (c.length < k)).map fun c => dL (c ++ [i]))) = some (.lst ((genC k (i + 1)).map dL)) := by
        have := List.length_filter_le (fun c : List Nat => decide (c.length < k)) (genC k i)
        simp only [oAdd, itemsR, List.length_map]
        rw [if_pos (by omega), genC, List.map_append, List.map_map]
        rfl
      refine ⟨_, [some (dI m), some (dI k), some (.lst ((genC k (i + 1)).map dL)), some (dI i), o2], st', rfl, ?_, rfl, some (dI i), o2, ?_⟩
      · simp [c1, e]
      · simp)
  rw [Nat.zero_add, List.length_range] at e1
  have e0 : genC k 0 = [[]] := rfl
  rw [e0] at e1
  have r : kIR1 [dI m] st' = _ := kIR1_nat (by omega)
  have z : (List.map dL [[]]) = [D.tup []] := rfl
  rw [z] at e1
  simp [f_cases_of, b_cases_of, r, e1, cases]
end Lw
set_option Elab.async false
set_option linter.all false
set_option maxRecDepth 100000
set_option maxHeartbeats 4000000
namespace Lw
open PySem Ip Lots

theorem cases_mem {m k : Nat} {c : List Nat} : c ∈ cases m k ↔ Asc m c ∧ c.length ≤ k := by
  unfold cases
  rw [List.mem_mergeSort, genC_mem]
theorem cases_nodup (m k : Nat) : (cases m k).Nodup := (List.mergeSort_perm _ _).nodup_iff.mpr (genC_nodup m)
theorem cases_len {m k : Nat} (hm : m ≤ 10) : (cases m k).length ≤ 1024 := by
  unfold cases
  rw [List.length_mergeSort]
  exact Nat.le_trans (genC_len m) (Nat.le_trans (Nat.pow_le_pow_right (by decide) hm) (by decide))

/-! ### whether the plainest reading is right -/
def others (p : Pl) (t k : Nat) : List (List Nat) := (List.range (k + 1)).flatMap fun n => ((cases p.1 k).filter fun c => !decide (t ∈ c)).filter fun c => decide (c.length = n)
theorem others_mem {p : Pl} {t k : Nat} {c : List Nat} : c ∈ others p t k ↔ Asc p.1 c ∧ c.length ≤ k ∧ t ∉ c := by
  unfold others
  simp only [List.mem_flatMap, List.mem_range, List.mem_filter, decide_eq_true_eq, cases_mem, Bool.not_eq_true', decide_eq_false_iff_not]
  constructor
  · rintro ⟨n, hn, ⟨⟨h1, h2⟩, h3⟩, h4⟩
    exact ⟨h1, h2, h3⟩
  · rintro ⟨h1, h2, h3⟩
    exact ⟨c.length, by omega, ⟨⟨h1, h2⟩, h3⟩, rfl⟩
theorem filt_len (l : List (List Nat)) : ∀ k, ((List.range k).flatMap fun n => l.filter fun c => decide (c.length = n)).length ≤ l.length
  | 0 => Nat.zero_le _
  | k + 1 => by
    have go : ∀ k, ((List.range k).flatMap fun n => l.filter fun c => decide (c.length = n)).length = (l.filter fun c => decide (c.length < k)).length := fun k => by
      induction k with
      | zero =>
        have z : l.filter (fun c : List Nat => decide (c.length < 0)) = [] := by
          rw [List.filter_eq_nil_iff]
          intro a _
          simp
        rw [z]; rfl
      | succ k ih =>
        rw [List.range_succ, List.flatMap_append, List.length_append, ih]
        clear ih
        simp only [List.flatMap_cons, List.flatMap_nil, List.append_nil]
        induction l with
        | nil => rfl
        | cons x l ih =>
          simp only [List.filter_cons]
          by_cases h1 : x.length < k
          · have h2 : ¬ x.length = k := by omega
            have h3 : x.length < k + 1 := by omega
            simp only [h1, h2, h3, decide_true, decide_false, if_true, Bool.false_eq_true, if_false, List.length_cons]
            omega
          · by_cases h2 : x.length = k
            · have h3 : x.length < k + 1 := by omega
              simp only [h1, h2, h3, decide_true, decide_false, if_true, Bool.false_eq_true, if_false, List.length_cons]
              simp only [Nat.lt_irrefl, decide_false, Bool.false_eq_true, if_false, Nat.lt_succ_self, decide_true, if_true, List.length_cons]
              omega
            · have h3 : ¬ x.length < k + 1 := by omega
              simp only [h1, h2, h3, decide_false, Bool.false_eq_true, if_false]
              exact ih
    rw [go]
    exact List.length_filter_le _ _
theorem others_len {p : Pl} {t k : Nat} (hp : OkP p) : (others p t k).length ≤ 1024 :=
  Nat.le_trans (filt_len _ _) (Nat.le_trans (List.length_filter_le _ _) (cases_len hp.ten))
theorem others_of_ok {p : Pl} {t k : Nat} (hp : OkP p) (hk : k ≤ 1000) (st : Sto) : f_others_of [dP p, dI t, dI k] st = .ok (.lst ((others p t k).map dL)) st := by
  have c1 : evLc [4] (itVal (evCall 2 f_cases_of (eaCons (evOp oIx (evVar 0) (evC (.int 0))) (eaCons (evVar 2) eaNil)))) (gN 4) (ebOf (evOp oNotIn (evVar 1) (evVar 4))) (evVar 4) [some (dP p), some (dI t), some (dI k), none, none, none] st
      = .ok (.lst (((cases p.1 k).filter fun c => !decide (t ∈ c)).map dL)) st :=
    evLc_id dL _ _ (by simp [cases_of_ok hp.ten]) (by have := cases_len (k := k) hp.ten; omega) fun c hc => ⟨_, rfl, by simp, by simp⟩
  have c2 : evLc2 [4, 5] [4] (itR1 (eaCons (evOp oAdd (evVar 2) (evC (.int 1))) eaNil)) (gN 5) ebYes (itVal (evVar 3)) (gN 4) (ebOf (evOp oEq (evB bLen (eaCons (evVar 4) eaNil)) (evVar 5))) (evVar 4) [some (dP p), some (dI t), some (dI k), some (.lst (((cases p.1 k).filter fun c => !decide (t ∈ c)).map dL)), none, none] st
      = .ok (.lst ((List.range (k + 1)).flatMap fun (n : Nat) => (((cases p.1 k).filter fun c => !decide (t ∈ c)).filter fun c => decide (c.length = n)).map dL)) st := by
    refine evLc2_enc dI dL (fun (_ : Nat) => (cases p.1 k).filter fun c => !decide (t ∈ c)) (fun (n : Nat) (c : List Nat) => decide (c.length = n)) (fun (_ : Nat) (c : List Nat) => dL c) (List.range (k + 1)) ?_ ?_ ?_
    · simp [kIR1_nat1 (j := k) (by omega)]
    · have e : ∀ n : Nat, ((((cases p.1 k).filter fun c => !decide (t ∈ c)).filter fun c => decide (c.length = n)).map dL).length = (((cases p.1 k).filter fun c => !decide (t ∈ c)).filter fun c => decide (c.length = n)).length := fun n => List.length_map ..
      rw [List.length_flatMap]
      simp only [e]
      rw [← List.length_flatMap]
      have := others_len (t := t) (k := k) hp
      unfold others at this
      omega
    · intro n hn
      refine ⟨_, rfl, rfl, by simp, fun c hc => ⟨_, rfl, ?_, fun _ => by simp⟩⟩
      simp
      omega
  have e : ((List.range (k + 1)).flatMap fun n => (((cases p.1 k).filter fun c => !decide (t ∈ c)).filter fun c => decide (c.length = n)).map dL) = (others p t k).map dL := by
    unfold others
    rw [List.map_flatMap]
  rw [e] at c2
  simp [f_others_of, b_others_of, c1, c2]
def left (p : Pl) (t : Nat) (o : List Nat) : Nat := ((lotsOf p t).filter fun n => !decide (n ∈ view p o)).length
theorem lotsOf_len {p : Pl} {t : Nat} : (lotsOf p t).length ≤ p.2.length := by
  unfold lotsOf
  rw [List.length_map]
  exact Nat.le_trans (List.length_filter_le _ _) (by simp)
theorem view_len {p : Pl} {c : List Nat} : (view p c).length ≤ p.2.length := by
  unfold view
  rw [List.length_map]
  exact Nat.le_trans (List.length_filter_le _ _) (by simp)
theorem left_of_ok {p : Pl} {t : Nat} {o : List Nat} (hp : OkP p) (st : Sto) : f_left_of [dP p, dI t, dL o] st = .ok (dI (left p t o)) st := by
  have c1 : evLc [4] (itVal (evCall 2 f_lots_of (eaCons (evVar 0) (eaCons (evVar 1) eaNil)))) (gN 4) (ebOf (evOp oNotIn (evVar 4) (evVar 3))) (evVar 4) [some (dP p), some (dI t), some (dL o), some (dL (view p o)), none] st
      = .ok (.lst (((lotsOf p t).filter fun n => !decide (n ∈ view p o)).map dI)) st :=
    evLc_id dI _ _ (by simp [lots_of_ok hp]) (by have := lotsOf_len (p := p) (t := t); have := hp.lots; omega) fun c hc => ⟨_, rfl, by simp, by simp⟩
  have d1 := lenLc c1
  rw [List.length_map] at d1
  simp [f_left_of, b_left_of, view_of_ok hp, d1]
  rfl
/-- the first pair of a thing and as few others as can be -/
def hid1 (p : Pl) (t : Nat) (b : Option (Nat × List Nat)) (o : List Nat) : Option (Nat × List Nat) := if left p t o = 0 then (match b with
  | none => some (t, o)
  | some q => if o.length < q.2.length then some (t, o) else b) else b
def hid (p : Pl) (k : Nat) : Option (Nat × List Nat) := (List.range p.1).foldl (fun b t => (others p t k).foldl (hid1 p t) b) none
def encB : Option (Nat × List Nat) → D
  | none => .non
  | some q => .tup [dI q.1, dL q.2]
@[simp] theorem oIs_dN {st : Sto} : oIs st .non .non = some (.bl true) := Eq.trans rfl rfl
@[simp] theorem oIs_tup {st : Sto} {xs : List D} : oIs st (.tup xs) .non = some (.bl false) := Eq.trans rfl rfl
theorem hidden_in_ok {p : Pl} {k : Nat} (hp : OkP p) (hk : k ≤ 1000) (st : Sto) : f_hidden_in [dP p, dI k] st = .ok (encB (hid p k)) st := by
  have inner : ∀ (t : Nat) (b : Option (Nat × List Nat)) (o4 : Option D), ∃ o4', forGo (gN 4) (sCons (sIf (ebAnd (ebOf (evOp oEq (evCall 3 f_left_of (eaCons (evVar 0) (eaCons (evVar 3) (eaCons (evVar 4) eaNil)))) (evC (.int 0)))) (ebOr (ebOf (evOp oIs (evVar 2) (evC .non))) (ebOf (evOp oLt (evB bLen (eaCons (evVar 4) eaNil)) (evB bLen (eaCons (evOp oIx (evVar 2) (evC (.int 1))) eaNil)))))) (sCons (sSet 2 (evTup (eaCons (evVar 3) (eaCons (evVar 4) eaNil)))) sNil) sNil) sNil)
      ((others p t k).map dL) [some (dP p), some (dI k), some (encB b), some (dI t), o4] st = .nx [some (dP p), some (dI k), some (encB ((others p t k).foldl (hid1 p t) b)), some (dI t), o4'] st := fun t b o4 => by
    obtain ⟨ρ', e1, o4', rfl⟩ := forGo_fold (st := st) (g := gN 4) (b := sCons (sIf (ebAnd (ebOf (evOp oEq (evCall 3 f_left_of (eaCons (evVar 0) (eaCons (evVar 3) (eaCons (evVar 4) eaNil)))) (evC (.int 0)))) (ebOr (ebOf (evOp oIs (evVar 2) (evC .non))) (ebOf (evOp oLt (evB bLen (eaCons (evVar 4) eaNil)) (evB bLen (eaCons (evOp oIx (evVar 2) (evC (.int 1))) eaNil)))))) (sCons (sSet 2 (evTup (eaCons (evVar 3) (eaCons (evVar 4) eaNil)))) sNil) sNil) sNil) dL
      (fun b ρ => ∃ o4, ρ = [some (dP p), some (dI k), some (encB b), some (dI t), o4]) (hid1 p t) (others p t k) b [some (dP p), some (dI k), some (encB b), some (dI t), o4] ⟨o4, rfl⟩ (fun o b ρ _ hρ => by
        obtain ⟨o4, rfl⟩ := hρ
        by_cases h0 : left p t o = 0
        · cases b with
          | none =>
            refine ⟨_, _, rfl, (by simp [left_of_ok hp, h0, encB]; try exact rfl), some (dL o), ?_⟩
            simp [hid1, h0, encB]
          | some q =>
            by_cases hq : o.length < q.2.length
            · refine ⟨_, _, rfl, (by simp [left_of_ok hp, h0, encB, oIx, hq]; try exact rfl), some (dL o), ?_⟩
              simp [hid1, h0, encB, hq]
            · refine ⟨_, _, rfl, (by simp [left_of_ok hp, h0, encB, oIx, hq]; try exact rfl), some (dL o), ?_⟩
              simp [hid1, h0, encB, hq]
        · refine ⟨_, _, rfl, (by simp [left_of_ok hp, h0]; try exact rfl), some (dL o), ?_⟩
          simp [hid1, h0])
    exact ⟨o4', e1⟩
  obtain ⟨ρ', e1, o3, o4, rfl⟩ := forGo_fold (st := st) (g := gN 3) (b := sCons (sFor (itVal (evCall 3 f_others_of (eaCons (evVar 0) (eaCons (evVar 3) (eaCons (evVar 1) eaNil))))) (gN 4) (sCons (sIf (ebAnd (ebOf (evOp oEq (evCall 3 f_left_of (eaCons (evVar 0) (eaCons (evVar 3) (eaCons (evVar 4) eaNil)))) (evC (.int 0)))) (ebOr (ebOf (evOp oIs (evVar 2) (evC .non))) (ebOf (evOp oLt (evB bLen (eaCons (evVar 4) eaNil)) (evB bLen (eaCons (evOp oIx (evVar 2) (evC (.int 1))) eaNil)))))) (sCons (sSet 2 (evTup (eaCons (evVar 3) (eaCons (evVar 4) eaNil)))) sNil) sNil) sNil)) sNil) dI
    (fun b ρ => ∃ o3 o4, ρ = [some (dP p), some (dI k), some (encB b), o3, o4]) (fun b t => (others p t k).foldl (hid1 p t) b) (List.range p.1) none [some (dP p), some (dI k), some (encB none), none, none] ⟨none, none, rfl⟩ (fun t b ρ _ hρ => by
      obtain ⟨o3, o4, rfl⟩ := hρ
      obtain ⟨o4', e2⟩ := inner t b o4
      exact ⟨_, _, rfl, (by simp [others_of_ok hp hk, e2]; try exact rfl), some (dI t), o4', rfl⟩)
  have r : kIR1 [dI p.1] st = _ := kIR1_nat (by have := hp.ten; omega)
  have z : encB none = .non := rfl
  rw [z] at e1
  have z2 : (List.range p.1).foldl (fun b t => (others p t k).foldl (hid1 p t) b) none = hid p k := rfl
  rw [z2] at e1
  simp [f_hidden_in, b_hidden_in, r, e1]
end Lw
set_option Elab.async false
set_option linter.all false
set_option maxRecDepth 100000
set_option maxHeartbeats 4000000
namespace Lw
open PySem Ip Lots

def isN {α : Type} : Option α → Bool
  | none => true
  | some _ => false
@[simp] theorem oIs_encB {st : Sto} {b : Option (Nat × List Nat)} : oIs st (encB b) .non = some (.bl (isN b)) := by cases b <;> rfl
theorem is_read_ok {p : Pl} {k : Nat} (hp : OkP p) (hk : k ≤ 1000) (st : Sto) : f_is_read [dP p, dI k] st = .ok (.bl (isN (hid p k))) st := by
  simp [f_is_read, b_is_read, hidden_in_ok hp hk]
theorem reads_ok {p : Pl} {k : Nat} (hp : OkP p) (hk : k ≤ 10) (st : Sto) : f_reads [dP p, dI k] st = .ok (.bl (isN (hid p k))) st := by
  simp [f_reads, b_reads, need_both_ok hp hk, is_read_ok (k := k) hp (by omega)]
theorem hidden_ok {p : Pl} {k : Nat} (hp : OkP p) (hk : k ≤ 10) (st : Sto) : f_hidden [dP p, dI k] st = .ok (encB (hid p k)) st := by
  simp [f_hidden, b_hidden, need_both_ok hp hk, hidden_in_ok (k := k) hp (by omega)]
/-- the last of a list of numbers, or None -/
def encM : Option Nat → D
  | none => .non
  | some n => dI n
def readL (p : Pl) : List Nat := (List.range (p.1 + 1)).filter fun k => isN (hid p k)
@[simp] theorem deref_lst {st : Sto} {xs : List D} : deref st (.lst xs) = .lst xs := Eq.trans rfl rfl
theorem depth_intsL {l : List Nat} : (py (.lst (l.map dI))).depth ≤ 1 := by
  show (PyData.list (pys (l.map dI))).depth ≤ 1
  rw [depth_lst, pys_fun (f := dI) (g := fun (n : Nat) => PyData.int n) (fun _ => rfl)]
  have : PyData.depthAll (l.map fun (n : Nat) => PyData.int n) ≤ 0 := depthAll_le fun x hx => by
    obtain ⟨n, _, rfl⟩ := List.mem_map.mp hx
    simp [PyData.depth]
  omega
@[simp] theorem okD_intsL {l : List Nat} : okD (.lst (l.map dI)) = true := by
  unfold okD
  have : okS (.lst (l.map dI)) = true := okSs_ints
  rw [this, Bool.true_and, decide_eq_true_eq]
  exact Nat.le_trans depth_intsL (by decide)
theorem okD_nil : okD (.lst []) = true := rfl
theorem oNe_nil {st : Sto} {l : List Nat} : oNe st (.lst (l.map dI)) (.lst []) = some (.bl (!decide (l = []))) := by
  have e : eqD (.lst (l.map dI)) (.lst []) = decide (l = []) := by
    show PyData.eqv (.list (pys (l.map dI))) (.list (pys ([].map dI))) = _
    rw [PyData.eqv, eqvAll_ints]
  simp [oNe, e, okD_nil]
theorem atI_last {α : Type} {xs : List α} : L2.atI xs (-1) = xs.getLast? := by
  unfold L2.atI L2.ixN
  rw [if_neg (by omega), List.getLast?_eq_getElem?]
  cases xs with
  | nil => rfl
  | cons x xs =>
    rw [if_pos (by simp only [List.length_cons]; omega)]
    show (x :: xs)[((-1 : Int) + ((x :: xs).length : Nat)).toNat]? = _
    congr 1
    simp only [List.length_cons]
    omega
theorem most_read_ok {p : Pl} (hp : OkP p) (st : Sto) : f_most_read [dP p] st = .ok (encM (readL p).getLast?) st := by
  have h10 := hp.ten
  have c1 : evLc [2] (itR1 (eaCons (evOp oAdd (evOp oIx (evVar 0) (evC (.int 0))) (evC (.int 1))) eaNil)) (gN 2) (ebOf (evCall 2 f_is_read (eaCons (evVar 0) (eaCons (evVar 2) eaNil)))) (evVar 2) [some (dP p), none, none] st = .ok (.lst ((readL p).map dI)) st :=
    evLc_id dI _ _ (by simp [kIR1_nat1 (j := p.1) (by omega)]) (by simp; omega) fun k hk => ⟨_, rfl, by
      have := List.mem_range.mp hk
      simp [is_read_ok (k := k) hp (by omega)], by simp⟩
  cases hl : (readL p).getLast? with
  | none =>
    have e : readL p = [] := List.getLast?_eq_none_iff.mp hl
    have z : oNe st (.lst []) (.lst []) = some (.bl false) := oNe_nil (l := [])
    simp [f_most_read, b_most_read, need_plan_ok hp, c1, z, e, encM]
  | some n =>
    have e : readL p ≠ [] := fun z => by rw [z] at hl; cases hl
    simp [f_most_read, b_most_read, need_plan_ok hp, c1, oNe_nil, e, encM, oIx, atI_last, hl]

/-! ### margin -/
def marL (p : Pl) (k : Nat) : List Nat := (List.range p.1).flatMap fun t => (others p t k).map (left p t)
theorem intsOf_nat {l : List Nat} : intsOf (l.map dI) = some (l.map fun (n : Nat) => (n : Int)) := by
  have := intsOf_map (l.map fun (n : Nat) => (n : Int))
  rw [List.map_map] at this
  exact this
def minN : List Nat → Option Nat
  | [] => none
  | x :: r => some (r.foldl min x)
def maxN : List Nat → Option Nat
  | [] => none
  | x :: r => some (r.foldl max x)
theorem foldl_minN : ∀ (r : List Nat) (x : Nat), (r.map fun (n : Nat) => (n : Int)).foldl min (x : Int) = ((r.foldl min x : Nat) : Int)
  | [], _ => rfl
  | y :: r, x => by
    rw [List.map_cons, List.foldl_cons, List.foldl_cons, ← foldl_minN r (min x y)]
    congr 1
    omega
theorem foldl_maxN : ∀ (r : List Nat) (x : Nat), (r.map fun (n : Nat) => (n : Int)).foldl max (x : Int) = ((r.foldl max x : Nat) : Int)
  | [], _ => rfl
  | y :: r, x => by
    rw [List.map_cons, List.foldl_cons, List.foldl_cons, ← foldl_maxN r (max x y)]
    congr 1
    omega
theorem bMin_nat {st : Sto} {l : List Nat} {n : Nat} (h : minN l = some n) : bMin st [.lst (l.map dI)] = some (dI n) := by
  refine bMin_of ?_
  have e : bMin0 st [.lst (l.map dI)] = ((intsOf (l.map dI)).bind minI).map .int := rfl
  rw [e, intsOf_nat, Option.bind_some]
  cases l with
  | nil => cases h
  | cons x r =>
    cases h
    rw [List.map_cons, minI, foldl_minN]
    rfl
theorem bMax_nat {st : Sto} {l : List Nat} {n : Nat} (h : maxN l = some n) : bMax st [.lst (l.map dI)] = some (dI n) := by
  have e : bMax st [.lst (l.map dI)] = ((intsOf (l.map dI)).bind maxI).map .int := rfl
  rw [e, intsOf_nat, Option.bind_some]
  cases l with
  | nil => cases h
  | cons x r =>
    cases h
    rw [List.map_cons, maxI, foldl_maxN]
    rfl
theorem marL_len {p : Pl} {k : Nat} (hp : OkP p) : ∀ n, ((List.range n).flatMap fun t => (others p t k).map (left p t)).length ≤ n * 1024
  | 0 => by simp
  | n + 1 => by
    rw [List.range_succ, List.flatMap_append, List.length_append]
    have h1 := marL_len (k := k) hp n
    have h2 := others_len (t := n) (k := k) hp
    simp only [List.flatMap_cons, List.flatMap_nil, List.append_nil, List.length_map]
    omega
theorem margin_ok {p : Pl} {k n : Nat} (hp : OkP p) (hk : k ≤ 10) (hn : minN (marL p k) = some n) (st : Sto) : f_margin [dP p, dI k] st = .ok (dI n) st := by
  have h10 := hp.ten
  obtain ⟨ρ', st', e1, rfl, o3, o4, rfl⟩ := forGo_ix (g := gN 3) (b := sCons (sSet 2 (evOp oAdd (evVar 2) (evLc [4] (itVal (evCall 3 f_others_of (eaCons (evVar 0) (eaCons (evVar 3) (eaCons (evVar 1) eaNil))))) (gN 4) ebYes (evCall 3 f_left_of (eaCons (evVar 0) (eaCons (evVar 3) (eaCons (evVar 4) eaNil))))))) sNil) dI
    (fun i ρ st' => st' = st ∧ ∃ o3 o4, ρ = [some (dP p), some (dI k), some (.lst (((List.range i).flatMap fun t => (others p t k).map (left p t)).map dI)), o3, o4]) (List.range p.1) 0 [some (dP p), some (dI k), some (.lst []), none, none] st ⟨rfl, none, none, rfl⟩ (fun i x ρ st' hx ⟨e1, o3, o4, e2⟩ => by
      subst e1 e2
      obtain ⟨hi, rfl⟩ := List.getElem?_eq_some_iff.mp hx
      rw [List.getElem_range]
      rw [List.length_range] at hi
      rw [Nat.zero_add]
      have c1 : evLc [4] (itVal (evCall 3 f_others_of (eaCons (evVar 0) (eaCons (evVar 3) (eaCons (evVar 1) eaNil))))) (gN 4) ebYes (evCall 3 f_left_of (eaCons (evVar 0) (eaCons (evVar 3) (eaCons (evVar 4) eaNil)))) [some (dP p), some (dI k), some (.lst (((List.range i).flatMap fun t => (others p t k).map (left p t)).map dI)), some (dI i), o4] st' = .ok (.lst ((others p i k).map fun o => dI (left p i o))) st' :=
        evLc_map dL _ _ (by simp [others_of_ok (k := k) hp (by omega)]) (by have := others_len (t := i) (k := k) hp; omega) fun o _ => ⟨_, rfl, by simp [left_of_ok hp]⟩
      have e : oAdd st' (.lst (((List.range i).flatMap fun t => (others p t k).map (left p t)).map dI)) (.lst ((others p i k).map fun o => dI (left p i o))) = some (.lst (((List.range (i + 1)).flatMap fun t => (others p t k).map (left p t)).map dI)) := by
        have h1 := marL_len (k := k) hp i
        have h2 := others_len (t := i) (k := k) hp
        simp only [oAdd, itemsR, List.length_map]
        rw [if_pos (by omega), List.range_succ, List.flatMap_append, List.map_append]
        simp only [List.flatMap_cons, List.flatMap_nil, List.append_nil, List.map_map]
        rfl
      refine ⟨_, [some (dP p), some (dI k), some (.lst (((List.range (i + 1)).flatMap fun t => (others p t k).map (left p t)).map dI)), some (dI i), o4], st', rfl, ?_, rfl, some (dI i), o4, rfl⟩
      simp [c1, e])
  rw [Nat.zero_add, List.length_range] at e1
  have r : kIR1 [dI p.1] st' = _ := kIR1_nat (by omega)
  have z : ((List.range p.1).flatMap fun t => (others p t k).map (left p t)) = marL p k := rfl
  rw [z] at e1
  simp [f_margin, b_margin, need_both_ok hp hk, r, e1, bMin_nat hn]

/-! ### telling -/
abbrev Row := List Nat × List Nat
def encR (q : Row) : D := .tup [dL q.1, dL q.2]
def rows (p : Pl) (k : Nat) : List Row := (cases p.1 k).map fun c => (c, view p c)
theorem views_of_ok {p : Pl} {k : Nat} (hp : OkP p) (st : Sto) : f_views_of [dP p, dI k] st = .ok (.lst ((rows p k).map encR)) st := by
  have c1 : evLc [2] (itVal (evCall 2 f_cases_of (eaCons (evOp oIx (evVar 0) (evC (.int 0))) (eaCons (evVar 1) eaNil)))) (gN 2) ebYes (evTup (eaCons (evVar 2) (eaCons (evCall 2 f_view_of (eaCons (evVar 0) (eaCons (evVar 2) eaNil))) eaNil))) [some (dP p), some (dI k), none] st = .ok (.lst ((cases p.1 k).map fun c => .tup [dL c, dL (view p c)])) st :=
    evLc_map dL _ _ (by simp [cases_of_ok hp.ten]) (by have := cases_len (k := k) hp.ten; omega) fun c _ => ⟨_, rfl, by simp [view_of_ok hp]⟩
  have e : ((cases p.1 k).map fun c => D.tup [dL c, dL (view p c)]) = (rows p k).map encR := by
    unfold rows
    rw [List.map_map]; rfl
  rw [e] at c1
  simp [f_views_of, b_views_of, c1]
def alk1 (rs : List Row) (q : Row × Nat) : Option Row := (rs.drop (q.2 + 1)).findSome? fun r => if q.1.2 = r.2 then some (q.1.1, r.1) else none
def alk (rs : List Row) : Option Row := rs.zipIdx.findSome? (alk1 rs)
def encRo : Option Row → D
  | none => .non
  | some q => encR q
theorem rows_len {p : Pl} {k : Nat} (hp : OkP p) : (rows p k).length ≤ 1024 := by
  unfold rows
  rw [List.length_map]
  exact cases_len hp.ten
def encRi (q : Row × Nat) : D := .tup [dI q.2, encR q.1]
theorem pairN_rows {rs : List Row} : pairN (rs.map encR) = rs.zipIdx.map encRi := by
  unfold pairN
  rw [List.zipIdx_map, List.map_map]
  rfl
theorem oSl_from {st : Sto} {xs : List D} {i : Nat} : oSl st (.lst xs) (some ((i : Int) + 1)) none = some (.lst (xs.drop (i + 1))) := by
  show some (D.lst (cutD xs (some ((i : Int) + 1)) none)) = _
  unfold cutD
  have e1 : HT.sIx xs.length 0 (some ((i : Int) + 1)) = min (i + 1) xs.length := HT.sIx_nat _ 0 (i + 1)
  rw [e1, HT.sIx_none]
  congr 2
  by_cases h : i + 1 ≤ xs.length
  · rw [Nat.min_eq_left h, List.take_of_length_le]
    simp
  · rw [Nat.min_eq_right (by omega), List.drop_of_length_le (Nat.le_refl _), List.drop_of_length_le (by omega), List.take_nil]
theorem findSome_map {α β γ : Type} (g : α → Option β) (e : β → γ) : ∀ xs : List α, (xs.findSome? fun x => (g x).map e) = (xs.findSome? g).map e
  | [] => rfl
  | x :: xs => by
    rw [List.findSome?_cons, List.findSome?_cons, findSome_map g e xs]
    cases g x <;> rfl
theorem first_alike_ok {p : Pl} {k : Nat} (hp : OkP p) (st : Sto) : f_first_alike [dP p, dI k] st = .ok (encRo (alk (rows p k))) st := by
  generalize hrs : rows p k = rs
  have out := forGo_ret (st := st) (g := gT 2 (gsCons (gN 3) (gsCons (gT 2 (gsCons (gN 4) (gsCons (gN 5) gsNil))) gsNil))) (b := sCons (sFor (itVal (evSl (evVar 2) (eoSome (evOp oAdd (evVar 3) (evC (.int 1)))) eoNone)) (gT 2 (gsCons (gN 6) (gsCons (gN 7) gsNil))) (sCons (sIf (ebOf (evOp oEq (evVar 5) (evVar 7))) (sCons (sRet (evTup (eaCons (evVar 4) (eaCons (evVar 6) eaNil)))) sNil) sNil) sNil)) sNil) encRi
    (fun ρ => ∃ o3 o4 o5 o6 o7, ρ = [some (dP p), some (dI k), some (.lst (rs.map encR)), o3, o4, o5, o6, o7]) (fun q => (alk1 rs q).map encR) rs.zipIdx [some (dP p), some (dI k), some (.lst (rs.map encR)), none, none, none, none, none] ⟨none, none, none, none, none, rfl⟩ (fun q ρ _ hρ => by
      obtain ⟨o3, o4, o5, o6, o7, rfl⟩ := hρ
      refine ⟨_, rfl, ?_⟩
      have inn := forGo_ret (st := st) (g := gT 2 (gsCons (gN 6) (gsCons (gN 7) gsNil))) (b := sCons (sIf (ebOf (evOp oEq (evVar 5) (evVar 7))) (sCons (sRet (evTup (eaCons (evVar 4) (eaCons (evVar 6) eaNil)))) sNil) sNil) sNil) encR
        (fun ρ => ∃ o6 o7, ρ = [some (dP p), some (dI k), some (.lst (rs.map encR)), some (dI q.2), some (dL q.1.1), some (dL q.1.2), o6, o7]) (fun r => (if q.1.2 = r.2 then some (q.1.1, r.1) else none : Option Row).map encR) (rs.drop (q.2 + 1)) [some (dP p), some (dI k), some (.lst (rs.map encR)), some (dI q.2), some (dL q.1.1), some (dL q.1.2), o6, o7] ⟨o6, o7, rfl⟩ (fun r ρ _ hρ => by
          obtain ⟨o6, o7, rfl⟩ := hρ
          refine ⟨_, rfl, ?_⟩
          by_cases h : q.1.2 = r.2
          · left
            refine ⟨_, by rw [if_pos h]; rfl, ?_⟩
            simp [h, encR]
          · right
            refine ⟨by rw [if_neg h]; rfl, _, ?_, some (dL r.1), some (dL r.2), rfl⟩
            simp [h])
      rw [findSome_map (fun r : Row => if q.1.2 = r.2 then some (q.1.1, r.1) else none)] at inn
      have e : (rs.drop (q.2 + 1)).map encR = (rs.map encR).drop (q.2 + 1) := List.map_drop ..
      rw [e] at inn
      rcases inn with ⟨d, h1, h2⟩ | ⟨h1, ρ', h2, o6', o7', rfl⟩
      · left
        exact ⟨d, h1, by simp [oSl_from, h2]⟩
      · right
        exact ⟨h1, _, (by simp [oSl_from, h2]; try exact rfl), some (dI q.2), some (dL q.1.1), some (dL q.1.2), o6', o7', rfl⟩)
  rw [findSome_map] at out
  have z : rs.zipIdx.findSome? (alk1 rs) = alk rs := rfl
  rw [z] at out
  have v : f_views_of [dP p, dI k] st = .ok (.lst (rs.map encR)) st := by rw [views_of_ok hp, hrs]
  rcases out with ⟨d, h1, h2⟩ | ⟨h1, ρ', h2, _⟩
  · obtain ⟨r, h3, rfl⟩ := Option.map_eq_some_iff.mp h1
    simp [f_first_alike, b_first_alike, v, pairN_rows, h2, h3, encRo]
  · have h3 : alk rs = none := Option.map_eq_none_iff.mp h1
    simp [f_first_alike, b_first_alike, v, pairN_rows, h2, h3, encRo]
/-- how many lots are in one of two views alone -/
def apartN (v w : List Nat) : Nat := (v.filter fun n => !decide (n ∈ w)).length + (w.filter fun n => !decide (n ∈ v)).length
theorem apart_ok {v w : List Nat} (hv : v.length ≤ 1000) (hw : w.length ≤ 1000) (st : Sto) : f_apart [dL v, dL w] st = .ok (dI (apartN v w)) st := by
  have c1 : evLc [2] (itVal (evVar 0)) (gN 2) (ebOf (evOp oNotIn (evVar 2) (evVar 1))) (evVar 2) [some (dL v), some (dL w), none] st = .ok (.lst ((v.filter fun n => !decide (n ∈ w)).map dI)) st :=
    evLc_id dI _ _ (by simp) (by omega) fun n _ => ⟨_, rfl, by simp, by simp⟩
  have c2 : evLc [2] (itVal (evVar 1)) (gN 2) (ebOf (evOp oNotIn (evVar 2) (evVar 0))) (evVar 2) [some (dL v), some (dL w), none] st = .ok (.lst ((w.filter fun n => !decide (n ∈ v)).map dI)) st :=
    evLc_id dI _ _ (by simp) (by omega) fun n _ => ⟨_, rfl, by simp, by simp⟩
  have d1 := lenLc c1
  have d2 := lenLc c2
  rw [List.length_map] at d1 d2
  simp [f_apart, b_apart, d1, d2, apartN]
/-- the least number of lots that are in one of two views alone, n at most -/
def gapN (rs : List Row) (n : Nat) : Nat := rs.zipIdx.foldl (fun f q => (rs.drop (q.2 + 1)).foldl (fun f r => min f (apartN q.1.2 r.2)) f) n
theorem bMin2 {st : Sto} {a b : Nat} : bMin st [dI a, dI b] = some (dI (min a b)) := by
  refine bMin_of ?_
  show some (D.int (if (b : Int) < (a : Int) then (b : Int) else (a : Int))) = _
  congr 2
  split <;> omega
theorem rows_view {p : Pl} {k : Nat} {r : Row} (h : r ∈ rows p k) : r.2 = view p r.1 ∧ r.1 ∈ cases p.1 k := by
  unfold rows at h
  obtain ⟨c, hc, rfl⟩ := List.mem_map.mp h
  exact ⟨rfl, hc⟩
theorem gap_of_ok {p : Pl} {k : Nat} (hp : OkP p) (st : Sto) : f_gap_of [dP p, dI k] st = .ok (dI (gapN (rows p k) p.2.length)) st := by
  have hv : ∀ r ∈ rows p k, r.2.length ≤ 1000 := fun r hr => by
    rw [(rows_view hr).1]
    have := view_len (p := p) (c := r.1)
    have := hp.lots
    omega
  generalize hrs : rows p k = rs at hv
  obtain ⟨ρ', e1, o4, o5, o6, o7, o8, rfl⟩ := forGo_fold (st := st) (g := gT 2 (gsCons (gN 4) (gsCons (gT 2 (gsCons (gN 5) (gsCons (gN 6) gsNil))) gsNil))) (b := sCons (sFor (itVal (evSl (evVar 2) (eoSome (evOp oAdd (evVar 4) (evC (.int 1)))) eoNone)) (gT 2 (gsCons (gN 7) (gsCons (gN 8) gsNil))) (sCons (sSet 3 (evB bMin (eaCons (evVar 3) (eaCons (evCall 2 f_apart (eaCons (evVar 6) (eaCons (evVar 8) eaNil))) eaNil)))) sNil)) sNil) encRi
    (fun f ρ => ∃ o4 o5 o6 o7 o8, ρ = [some (dP p), some (dI k), some (.lst (rs.map encR)), some (dI f), o4, o5, o6, o7, o8]) (fun f q => (rs.drop (q.2 + 1)).foldl (fun f r => min f (apartN q.1.2 r.2)) f) rs.zipIdx p.2.length [some (dP p), some (dI k), some (.lst (rs.map encR)), some (dI p.2.length), none, none, none, none, none] ⟨none, none, none, none, none, rfl⟩ (fun q f ρ hq hρ => by
      obtain ⟨o4, o5, o6, o7, o8, rfl⟩ := hρ
      have hq1 : q.1 ∈ rs := List.fst_mem_of_mem_zipIdx hq
      obtain ⟨ρ', e2, o7', o8', rfl⟩ := forGo_fold (st := st) (g := gT 2 (gsCons (gN 7) (gsCons (gN 8) gsNil))) (b := sCons (sSet 3 (evB bMin (eaCons (evVar 3) (eaCons (evCall 2 f_apart (eaCons (evVar 6) (eaCons (evVar 8) eaNil))) eaNil)))) sNil) encR
        (fun f ρ => ∃ o7 o8, ρ = [some (dP p), some (dI k), some (.lst (rs.map encR)), some (dI f), some (dI q.2), some (dL q.1.1), some (dL q.1.2), o7, o8]) (fun f r => min f (apartN q.1.2 r.2)) (rs.drop (q.2 + 1)) f [some (dP p), some (dI k), some (.lst (rs.map encR)), some (dI f), some (dI q.2), some (dL q.1.1), some (dL q.1.2), o7, o8] ⟨o7, o8, rfl⟩ (fun r f ρ hr hρ => by
          obtain ⟨o7, o8, rfl⟩ := hρ
          refine ⟨_, _, rfl, ?_, some (dL r.1), some (dL r.2), rfl⟩
          have m : bMin st [D.int f, D.int (apartN q.1.2 r.2)] = _ := bMin2
          simp [apart_ok (hv q.1 hq1) (hv r (List.mem_of_mem_drop hr)), m])
      have e : (rs.drop (q.2 + 1)).map encR = (rs.map encR).drop (q.2 + 1) := List.map_drop ..
      rw [e] at e2
      refine ⟨_, _, rfl, (by simp [oSl_from, e2]; try exact rfl), some (dI q.2), some (dL q.1.1), some (dL q.1.2), o7', o8', rfl⟩)
  have v : f_views_of [dP p, dI k] st = .ok (.lst (rs.map encR)) st := by rw [views_of_ok hp, hrs]
  have z : rs.zipIdx.foldl (fun f q => (rs.drop (q.2 + 1)).foldl (fun f r => min f (apartN q.1.2 r.2)) f) p.2.length = gapN rs p.2.length := rfl
  rw [z] at e1
  simp [f_gap_of, b_gap_of, v, pairN_rows, e1]
@[simp] theorem oIs_encRo {st : Sto} {b : Option Row} : oIs st (encRo b) .non = some (.bl (isN b)) := by cases b <;> rfl
theorem tells_ok {p : Pl} {k : Nat} (hp : OkP p) (hk : k ≤ 10) (st : Sto) : f_tells [dP p, dI k] st = .ok (.bl (isN (alk (rows p k)))) st := by
  simp [f_tells, b_tells, need_both_ok hp hk, first_alike_ok hp]
theorem alike_pair_ok {p : Pl} {k : Nat} (hp : OkP p) (hk : k ≤ 10) (st : Sto) : f_alike_pair [dP p, dI k] st = .ok (encRo (alk (rows p k))) st := by
  simp [f_alike_pair, b_alike_pair, need_both_ok hp hk, first_alike_ok hp]
def tellL (p : Pl) : List Nat := (List.range (p.1 + 1)).filter fun k => isN (alk (rows p k))
theorem most_told_ok {p : Pl} {n : Nat} (hp : OkP p) (hn : maxN (tellL p) = some n) (st : Sto) : f_most_told [dP p] st = .ok (dI n) st := by
  have h10 := hp.ten
  have c1 : evLc [1] (itR1 (eaCons (evOp oAdd (evOp oIx (evVar 0) (evC (.int 0))) (evC (.int 1))) eaNil)) (gN 1) (ebOf (evOp oIs (evCall 2 f_first_alike (eaCons (evVar 0) (eaCons (evVar 1) eaNil))) (evC .non))) (evVar 1) [some (dP p), none] st = .ok (.lst ((tellL p).map dI)) st :=
    evLc_id dI _ _ (by simp [kIR1_nat1 (j := p.1) (by omega)]) (by simp; omega) fun k hk => ⟨_, rfl, by simp [first_alike_ok hp], by simp⟩
  simp [f_most_told, b_most_told, need_plan_ok hp, c1, bMax_nat hn]
theorem gap_ok {p : Pl} {k : Nat} (hp : OkP p) (h1 : 1 ≤ k) (hk : k ≤ 10) (st : Sto) : f_gap [dP p, dI k] st = .ok (dI (gapN (rows p k) p.2.length)) st := by
  simp [f_gap, b_gap, need_plan_ok hp, need_number_ok (v := k) (lo := 1) (hi := 10) (by omega) (by omega), gap_of_ok hp]
def mendN (g : Nat) : Option Nat := if g = 0 then none else some ((g - 1) / 2)
theorem mends_ok {p : Pl} {k : Nat} (hp : OkP p) (h1 : 1 ≤ k) (hk : k ≤ 10) (st : Sto) : f_mends [dP p, dI k] st = .ok (encM (mendN (gapN (rows p k) p.2.length))) st := by
  generalize hg : gapN (rows p k) p.2.length = g
  have e : f_gap_of [dP p, dI k] st = .ok (dI g) st := by rw [gap_of_ok hp, hg]
  by_cases h0 : g = 0
  · simp [f_mends, b_mends, need_plan_ok hp, need_number_ok (v := k) (lo := 1) (hi := 10) (by omega) (by omega), e, h0, mendN, encM]
  · have d : oDiv st (.int ((g : Int) - 1)) (.int 2) = some (dI ((g - 1) / 2)) := by
      have : ((g : Int) - 1) / 2 = (((g - 1) / 2 : Nat) : Int) := by omega
      unfold oDiv
      simp only
      rw [if_pos ⟨by decide, by decide⟩, this]
    simp [f_mends, b_mends, need_plan_ok hp, need_number_ok (v := k) (lo := 1) (hi := 10) (by omega) (by omega), e, h0, mendN, encM, d]
def forL (p : Pl) (v : List Nat) (k : Nat) : List (List Nat) := ((rows p k).filter fun r => decide (r.2 = v)).map (·.1)
theorem cases_for_ok {p : Pl} {v : List Nat} {k : Nat} (hp : OkP p) (hv : Asc p.2.length v) (hk : k ≤ 10) (st : Sto) : f_cases_for [dP p, dL v, dI k] st = .ok (.lst ((forL p v k).map dL)) st := by
  have hl := hp.lots
  have c1 : evLc [3, 4] (itVal (evCall 2 f_views_of (eaCons (evVar 0) (eaCons (evVar 2) eaNil)))) (gT 2 (gsCons (gN 3) (gsCons (gN 4) gsNil))) (ebOf (evOp oEq (evVar 4) (evVar 1))) (evVar 3) [some (dP p), some (dL v), some (dI k), none, none] st = .ok (.lst (((rows p k).filter fun r => decide (r.2 = v)).map fun r => dL r.1)) st :=
    evLc_enc encR _ _ _ (by simp [views_of_ok hp]) (by have := rows_len (k := k) hp; omega) fun r _ => ⟨_, rfl, by simp, fun _ => by simp⟩
  have e : (((rows p k).filter fun r => decide (r.2 = v)).map fun r => dL r.1) = (forL p v k).map dL := by
    unfold forL
    rw [List.map_map]; rfl
  rw [e] at c1
  have nv := need_view_ok (m := p.2.length) (c := v) (by omega) hv st
  simp [f_cases_for, b_cases_for, need_plan_ok hp, need_number_ok (v := k) (lo := 0) (hi := 10) (by omega) (by omega), nv, c1]
/-- the least distance, and the cases with it -/
def nearR (p : Pl) (v : List Nat) (k : Nat) : List (Nat × List Nat) := (rows p k).map fun r => (apartN v r.2, r.1)
def encN (q : Nat × List Nat) : D := .tup [dI q.1, dL q.2]
theorem nearest_ok {p : Pl} {v : List Nat} {k n : Nat} (hp : OkP p) (hv : Asc p.2.length v) (hk : k ≤ 10) (hn : minN ((nearR p v k).map (·.1)) = some n) (st : Sto) :
    f_nearest [dP p, dL v, dI k] st = .ok (.tup [dI n, .lst ((((nearR p v k).filter fun q => decide (q.1 = n)).map (·.2)).map dL)]) st := by
  have hl := hp.lots
  have hvl := hv.len
  have hrl := rows_len (k := k) hp
  have hw : ∀ r ∈ rows p k, r.2.length ≤ 1000 := fun r hr => by
    rw [(rows_view hr).1]
    have := view_len (p := p) (c := r.1)
    omega
  have c1 : evLc [5, 6] (itVal (evCall 2 f_views_of (eaCons (evVar 0) (eaCons (evVar 2) eaNil)))) (gT 2 (gsCons (gN 5) (gsCons (gN 6) gsNil))) ebYes (evTup (eaCons (evCall 2 f_apart (eaCons (evVar 1) (eaCons (evVar 6) eaNil))) (eaCons (evVar 5) eaNil))) [some (dP p), some (dL v), some (dI k), none, none, none, none, none] st = .ok (.lst ((rows p k).map fun r => encN (apartN v r.2, r.1))) st :=
    evLc_map encR _ _ (by simp [views_of_ok hp]) (by omega) fun r hr => ⟨_, rfl, by simp [apart_ok (v := v) (by omega) (hw r hr), encN]⟩
  have e : ((rows p k).map fun r => encN (apartN v r.2, r.1)) = (nearR p v k).map encN := by
    unfold nearR
    rw [List.map_map]; rfl
  rw [e] at c1
  have hnl : (nearR p v k).length ≤ 1000000 := by
    unfold nearR
    rw [List.length_map]; omega
  have c2 : evLc [5, 7] (itVal (evVar 3)) (gT 2 (gsCons (gN 7) (gsCons (gN 5) gsNil))) ebYes (evVar 7) [some (dP p), some (dL v), some (dI k), some (.lst ((nearR p v k).map encN)), none, none, none, none] st = .ok (.lst (((nearR p v k).map (·.1)).map dI)) st := by
    have := evLc_map (st := st) (vs := [5, 7]) (it := itVal (evVar 3)) (g := gT 2 (gsCons (gN 7) (gsCons (gN 5) gsNil))) (e := evVar 7) (ρ := [some (dP p), some (dL v), some (dI k), some (.lst ((nearR p v k).map encN)), none, none, none, none]) encN (fun q => dI q.1) (nearR p v k) (by simp) hnl fun q _ => ⟨_, rfl, by simp⟩
    rw [this, List.map_map]; rfl
  have c3 : evLc [5, 7] (itVal (evVar 3)) (gT 2 (gsCons (gN 7) (gsCons (gN 5) gsNil))) (ebOf (evOp oEq (evVar 7) (evVar 4))) (evVar 5) [some (dP p), some (dL v), some (dI k), some (.lst ((nearR p v k).map encN)), some (dI n), none, none, none] st = .ok (.lst ((((nearR p v k).filter fun q => decide (q.1 = n)).map (·.2)).map dL)) st := by
    have := evLc_enc (st := st) (vs := [5, 7]) (it := itVal (evVar 3)) (g := gT 2 (gsCons (gN 7) (gsCons (gN 5) gsNil))) (t := ebOf (evOp oEq (evVar 7) (evVar 4))) (e := evVar 5) (ρ := [some (dP p), some (dL v), some (dI k), some (.lst ((nearR p v k).map encN)), some (dI n), none, none, none]) encN (fun q => decide (q.1 = n)) (fun q => dL q.2) (nearR p v k) (by simp) hnl fun q _ => ⟨_, rfl, by simp; omega, fun _ => by simp⟩
    rw [this, List.map_map]; rfl
  have nv := need_view_ok (m := p.2.length) (c := v) (by omega) hv st
  have d2 : evB bMin (eaCons (evLc [5, 7] (itVal (evVar 3)) (gT 2 (gsCons (gN 7) (gsCons (gN 5) gsNil))) ebYes (evVar 7)) eaNil) [some (dP p), some (dL v), some (dI k), some (.lst ((nearR p v k).map encN)), none, none, none, none] st = .ok (dI n) st := by
    rw [evB_ap, eaCons_ap, c2, R.bind_ok, kC2_0, eaNil_ap, R.bind_ok, kC3_0, R.bind_ok, kBf_0, bMin_nat hn, R.lift_some]
  generalize (((nearR p v k).filter fun q => decide (q.1 = n)).map (·.2)).map dL = L at c3 ⊢
  simp [f_nearest, b_nearest, need_plan_ok hp, need_number_ok (v := k) (lo := 0) (hi := 10) (by omega) (by omega), nv, c1, d2, c3]
/-- the suspects of a view -/
def susp (p : Pl) (v : List Nat) : List Nat := (List.range p.1).filter fun t => (lotsOf p t).all fun n => decide (n ∈ v)
theorem suspects_ok {p : Pl} {v : List Nat} (hp : OkP p) (hv : Asc p.2.length v) (st : Sto) : f_suspects [dP p, dL v] st = .ok (dL (susp p v)) st := by
  have hl := hp.lots
  have h10 := hp.ten
  have c2 : ∀ t, evLc [3] (itVal (evCall 2 f_lots_of (eaCons (evVar 0) (eaCons (evVar 2) eaNil)))) (gN 3) ebYes (evOp oIn (evVar 3) (evVar 1)) [some (dP p), some (dL v), some (dI t), none] st = .ok (.lst ((lotsOf p t).map fun n => .bl (decide (n ∈ v)))) st := fun t =>
    evLc_map dI _ _ (by simp [lots_of_ok hp]) (by have := lotsOf_len (p := p) (t := t); omega) fun n _ => ⟨_, rfl, by simp⟩
  have c1 : evLc [2] (itR1 (eaCons (evOp oIx (evVar 0) (evC (.int 0))) eaNil)) (gN 2) (ebOf (evB bAll (eaCons (evLc [3] (itVal (evCall 2 f_lots_of (eaCons (evVar 0) (eaCons (evVar 2) eaNil)))) (gN 3) ebYes (evOp oIn (evVar 3) (evVar 1))) eaNil))) (evVar 2) [some (dP p), some (dL v), none, none] st = .ok (.lst ((susp p v).map dI)) st :=
    evLc_id dI _ _ (by simp [kIR1_nat (j := p.1) (by omega)]) (by simp; omega) fun t _ => ⟨_, rfl, by simp [allLc (c2 t) rfl], by simp⟩
  have d1 := tupLc c1
  have nv := need_view_ok (m := p.2.length) (c := v) (by omega) hv st
  have e : D.tup ((susp p v).map dI) = dL (susp p v) := rfl
  rw [e] at d1
  simp [f_suspects, b_suspects, need_plan_ok hp, nv, d1]
end Lw
set_option Elab.async false
set_option linter.all false
set_option maxRecDepth 100000
set_option maxHeartbeats 4000000
namespace Lw
open PySem Ip Lots

/-! ### draws -/
theorem oMul_ok {st : Sto} {i j : Int} (hi : i.natAbs < 2 ^ 200) (hj : j.natAbs < 2 ^ 200) : oMul st (.int i) (.int j) = some (.int (i * j)) := by
  have e : 2 ^ 200 ≤ 2 ^ 4000 := Nat.pow_le_pow_right (by decide) (by decide)
  show (if i.natAbs < 2 ^ 4000 ∧ j.natAbs < 2 ^ 4000 then some (D.int (i * j)) else none) = _
  rw [if_pos ⟨Nat.lt_of_lt_of_le hi e, Nat.lt_of_lt_of_le hj e⟩]
theorem oDiv_ok {st : Sto} {i j : Int} (h0 : 0 < j) (hj : j.natAbs < 2 ^ 200) : oDiv st (.int i) (.int j) = some (.int (i / j)) := by
  have e : 2 ^ 200 ≤ 2 ^ 4000 := Nat.pow_le_pow_right (by decide) (by decide)
  show (if 0 < j ∧ j.natAbs < 2 ^ 4000 then some (D.int (i / j)) else none) = _
  rw [if_pos ⟨h0, Nat.lt_of_lt_of_le hj e⟩]
@[simp] theorem bLen_scr {st : Sto} {xs : List D} : bLen st [.scr xs] = some (.int xs.length) := Eq.trans rfl rfl
@[simp] theorem items_scr {st : Sto} {xs : List D} : items st (.scr xs) = some xs := Eq.trans rfl rfl
theorem law_cell_ok {s : List Int} {k : Nat} (hk : k ≤ 1000) (hs : s.length ≤ 1000) (st : Sto) : ∃ v : Int, f_law_cell [.scr (s.map D.int), dI k] st = .ok (.int v) st := by
  have m : oMul st (.int 7919) (.int (k : Int)) = some (.int (7919 * (k : Int))) := oMul_ok (by decide) (Nat.lt_of_lt_of_le (by omega : (k : Int).natAbs < 1001) (by decide))
  by_cases h : k < s.length
  · have e : oIx st (.scr (s.map D.int)) (.int (k : Int)) = some (.int s[k]) := by
      simp [oIx, h]
    exact ⟨s[k], by simp [f_law_cell, b_law_cell, h, e]⟩
  · by_cases h0 : s = []
    · subst h0
      have hlt : decide ((k : Int) < 0) = false := decide_eq_false (by omega)
      exact ⟨7919 * (k : Int) + 101, by simp [f_law_cell, b_law_cell, m, hlt]⟩
    · have hl : 0 < s.length := List.length_pos_iff.mpr h0
      have hm : k % s.length < s.length := Nat.mod_lt _ hl
      have e1 : oMod st (.int (k : Int)) (.int (s.length : Int)) = some (.int ((k % s.length : Nat) : Int)) := by
        rw [oMod_pos (by omega)]
        rfl
      have e : oIx st (.scr (s.map D.int)) (.int ((k % s.length : Nat) : Int)) = some (.int s[k % s.length]) := by
        have a : L2.atI (s.map D.int) ((k % s.length : Nat) : Int) = (s.map D.int)[k % s.length]? := atI_nat
        show (some (s.map D.int)).bind (fun xs => L2.atI xs _) = _
        rw [Option.bind_some, a, List.getElem?_map, List.getElem?_eq_getElem hm]
        rfl
      have h0' : ¬ ((s.length : Int) = 0) := by omega
      have e2 : oMod st (.int s[k % s.length]) (.int 1000003) = some (.int (s[k % s.length] % 1000003)) := oMod_pos (by decide)
      refine ⟨s[k % s.length] % 1000003 + 7919 * (k : Int), ?_⟩
      have hlt : decide ((k : Int) < (s.length : Int)) = false := by simp; omega
      have hne : decide ((s.length : Int) = 0) = false := by simp [h0]
      simp only [f_law_cell, b_law_cell, fnRun_ap, slots0_ap, sCons_ap, sIf_ap, ebOf_ap, evOp_ap, evB_ap, eaCons_ap, evVar_ap, List.map_cons, List.map_nil, List.length_cons, List.length_nil, List.cons_append, List.nil_append, Nat.sub_self, List.replicate, List.append_nil, List.getElem?_cons_zero, List.getElem?_cons_succ, Ip.R.bind_ok, kC2_0, eaNil_ap, kC3_0, kBf_0, bLen_scr, List.length_map, Ip.R.lift_some, kOp2_0, kOp3_0, oLt_int, kB_0, hlt, Ip.R.stm_ok, kSIf_1, sNil_ap, RS.seq_nx, evC_ap, oEq_int, hne, sRet_ap, e1, e, e2, m, oAdd_int, kRet_0, RS.seq_rt, fnEnd_rt]
/-- the law's primes -/
def prs : List D := [.int 2147483647, .int 2147483629, .int 2147483587, .int 2147483579, .int 2147483563, .int 2147483549, .int 2147483543, .int 2147483497]
theorem prime_at (st : Sto) (i : Int) : ∃ q : Int, oIx st (.tup prs) (.int (i % 8)) = some (.int q) ∧ 0 < q ∧ q < 2147483648 := by
  have h : i % 8 = 0 ∨ i % 8 = 1 ∨ i % 8 = 2 ∨ i % 8 = 3 ∨ i % 8 = 4 ∨ i % 8 = 5 ∨ i % 8 = 6 ∨ i % 8 = 7 := by omega
  rcases h with h | h | h | h | h | h | h | h <;> rw [h] <;> exact ⟨_, rfl, by decide, by decide⟩
theorem natAbs_lt {i : Int} {n : Nat} (h0 : 0 ≤ i) (h : i < n) : i.natAbs < n := by omega
theorem le200 {n : Nat} {i : Int} (h : i.natAbs < n) (hn : n ≤ 2 ^ 200) : i.natAbs < 2 ^ 200 := Nat.lt_of_lt_of_le h hn

/-- a list of ints as a mutable list -/
abbrev dZ (ns : List Int) : List D := ns.map D.int
theorem law_draws_ok {s : List Int} {k many base : Nat} (hk : k ≤ 1000) (hs : s.length ≤ 1000) (hm : many ≤ 1000) (hb : 0 < base) (hb2 : base ≤ 10 ^ 9) (st : Sto) :
    ∃ ns : List Int, ns.length = many ∧ f_law_draws [.scr (s.map D.int), dI k, dI many, dI base] st = .ok (.ref st.length) (st ++ [dZ ns]) := by
  obtain ⟨v, hv⟩ := law_cell_ok hk hs st
  have p18 : ∀ st : Sto, oPow st (.int 10) (.int 18) = some (.int (10 ^ 18)) := fun st => rfl
  have r0 : ∃ r : Int, 0 ≤ r ∧ (sIf (ebOf (evOp oGe (evVar 5) (evOp oPow (evC (.int 10)) (evC (.int 18))))) (sCons (sSet 6 (evVar 5)) sNil) sNil [some (.scr (s.map D.int)), some (dI k), some (dI many), some (dI base), some (.tup prs), some (.int v), some (.int 0), none, none, none] st) = .nx [some (.scr (s.map D.int)), some (dI k), some (dI many), some (dI base), some (.tup prs), some (.int v), some (.int r), none, none, none] st := by
    by_cases h : (10 : Int) ^ 18 ≤ v
    · have hd : decide ((10 : Int) ^ 18 ≤ v) = true := decide_eq_true h
      refine ⟨v, by omega, ?_⟩
      simp only [sIf_ap, ebOf_ap, evOp_ap, evVar_ap, evC_ap, Ip.R.bind_ok, kOp2_0, kOp3_0, p18, Ip.R.lift_some, oGe_int, hd, kB_0, Ip.R.stm_ok, kSIf_0, sCons_ap, sSet_ap, kSet_0, RS.seq_nx, sNil_ap, List.getElem?_cons_zero, List.getElem?_cons_succ, List.set_cons_zero, List.set_cons_succ]
    · have hd : decide ((10 : Int) ^ 18 ≤ v) = false := decide_eq_false h
      refine ⟨0, by omega, ?_⟩
      simp only [sIf_ap, ebOf_ap, evOp_ap, evVar_ap, evC_ap, Ip.R.bind_ok, kOp2_0, kOp3_0, p18, Ip.R.lift_some, oGe_int, hd, kB_0, Ip.R.stm_ok, kSIf_1, sNil_ap, List.getElem?_cons_zero, List.getElem?_cons_succ]
  obtain ⟨r, hr, er⟩ := r0
  have loop := forGo_ix (g := gN 8) (b := sCons (sSet 9 (evOp oMul (evOp oMod (evVar 5) (evOp oIx (evVar 4) (evOp oMod (evVar 8) (evC (.int 8))))) (evOp oAdd (evC (.int 48271)) (evOp oMul (evOp oMul (evC (.int 2)) (evVar 8)) (evVar 8))))) (sCons (sSet 9 (evOp oAdd (evOp oAdd (evVar 9) (evOp oMul (evOp oMul (evC (.int 7919)) (evOp oAdd (evVar 8) (evC (.int 1)))) (evOp oAdd (evVar 8) (evC (.int 1))))) (evOp oMul (evC (.int 104729)) (evVar 1)))) (sCons (sSet 9 (evOp oMod (evVar 9) (evOp oIx (evVar 4) (evOp oMod (evOp oAdd (evOp oMul (evC (.int 3)) (evVar 8)) (evVar 1)) (evC (.int 8)))))) (sCons (sSet 9 (evOp oMod (evOp oMul (evOp oMul (evVar 9) (evVar 9)) (evVar 9)) (evOp oIx (evVar 4) (evOp oMod (evOp oAdd (evVar 8) (evC (.int 5))) (evC (.int 8)))))) (sCons (sIf (ebOf (evOp oGt (evVar 6) (evC (.int 0)))) (sCons (sSet 9 (evVar 6)) sNil) sNil) (sCons (sExp (evMR mApp (evVar 7) (eaCons (evOp oMod (evVar 9) (evVar 3)) eaNil))) (sCons (sSet 6 (evOp oDiv (evVar 6) (evVar 3))) sNil))))))) dI
    (fun i ρ st' => ∃ (ns : List Int) (r : Int) (o8 o9 : Option D), ns.length = i ∧ 0 ≤ r ∧ st' = st ++ [dZ ns] ∧ ρ = [some (.scr (s.map D.int)), some (dI k), some (dI many), some (dI base), some (.tup prs), some (.int v), some (.int r), some (.ref st.length), o8, o9])
    (List.range many) 0 [some (.scr (s.map D.int)), some (dI k), some (dI many), some (dI base), some (.tup prs), some (.int v), some (.int r), some (.ref st.length), none, none] (st ++ [[]]) ⟨[], r, none, none, rfl, hr, rfl, rfl⟩ (fun i x ρ st' hx hI => by
      obtain ⟨ns, r, o8, o9, hn, hr, rfl, rfl⟩ := hI
      obtain ⟨hi, rfl⟩ := List.getElem?_eq_some_iff.mp hx
      rw [List.getElem_range]
      rw [List.length_range] at hi
      rw [Nat.zero_add] at hn ⊢
      generalize hst : st ++ [dZ ns] = st1
      obtain ⟨q1, e1, p1, l1⟩ := prime_at st1 (i : Int)
      obtain ⟨q2, e2, p2, l2⟩ := prime_at st1 (3 * (i : Int) + (k : Int))
      obtain ⟨q3, e3, p3, l3⟩ := prime_at st1 ((i : Int) + 5)
      have m1 : oMod st1 (.int (i : Int)) (.int 8) = some (.int ((i : Int) % 8)) := oMod_pos (by decide)
      have m2 : oMod st1 (.int v) (.int q1) = some (.int (v % q1)) := oMod_pos p1
      have v1 := Int.emod_nonneg v (by omega : q1 ≠ 0)
      have v2 := Int.emod_lt_of_pos v p1
      have B : 10 ^ 20 ≤ 2 ^ 200 := by decide
      have m3 : oMul st1 (.int 2) (.int (i : Int)) = some (.int (2 * (i : Int))) := oMul_ok (by decide) (le200 (n := 10 ^ 20) (by omega) B)
      have m4 : oMul st1 (.int (2 * (i : Int))) (.int (i : Int)) = some (.int (2 * (i : Int) * (i : Int))) := oMul_ok (le200 (n := 10 ^ 20) (by omega) B) (le200 (n := 10 ^ 20) (by omega) B)
      have b4 : 2 * (i : Int) * (i : Int) ≤ 2000 * 1000 := Int.mul_le_mul (by omega) (by omega) (by omega) (by omega)
      have b4' : 0 ≤ 2 * (i : Int) * (i : Int) := Int.mul_nonneg (by omega) (by omega)
      generalize hw : 2 * (i : Int) * (i : Int) = w4 at m4 b4 b4'
      have m5 : oMul st1 (.int (v % q1)) (.int (48271 + w4)) = some (.int (v % q1 * (48271 + w4))) := oMul_ok (le200 (n := 10 ^ 20) (by omega) B) (le200 (n := 10 ^ 20) (by omega) B)
      generalize v % q1 * (48271 + w4) = a1 at m5
      have m6 : oMul st1 (.int 7919) (.int ((i : Int) + 1)) = some (.int (7919 * ((i : Int) + 1))) := oMul_ok (by decide) (le200 (n := 10 ^ 20) (by omega) B)
      have m7 : oMul st1 (.int (7919 * ((i : Int) + 1))) (.int ((i : Int) + 1)) = some (.int (7919 * ((i : Int) + 1) * ((i : Int) + 1))) := oMul_ok (le200 (n := 10 ^ 20) (by omega) B) (le200 (n := 10 ^ 20) (by omega) B)
      generalize 7919 * ((i : Int) + 1) * ((i : Int) + 1) = w7 at m7
      have m8 : oMul st1 (.int 104729) (.int (k : Int)) = some (.int (104729 * (k : Int))) := oMul_ok (by decide) (le200 (n := 10 ^ 20) (by omega) B)
      have m9 : oMul st1 (.int 3) (.int (i : Int)) = some (.int (3 * (i : Int))) := oMul_ok (by decide) (le200 (n := 10 ^ 20) (by omega) B)
      have m10 : oMod st1 (.int (3 * (i : Int) + (k : Int))) (.int 8) = some (.int ((3 * (i : Int) + (k : Int)) % 8)) := oMod_pos (by decide)
      generalize ha2 : a1 + w7 + 104729 * (k : Int) = a2
      have m11 : oMod st1 (.int a2) (.int q2) = some (.int (a2 % q2)) := oMod_pos p2
      have c1 := Int.emod_nonneg a2 (by omega : q2 ≠ 0)
      have c2 := Int.emod_lt_of_pos a2 p2
      generalize a2 % q2 = a3 at m11 c1 c2
      have c3 : a3 * a3 ≤ 2147483648 * 2147483648 := Int.mul_le_mul (by omega) (by omega) (by omega) (by omega)
      have c4 : 0 ≤ a3 * a3 := Int.mul_nonneg c1 c1
      have m12 : oMul st1 (.int a3) (.int a3) = some (.int (a3 * a3)) := oMul_ok (le200 (n := 10 ^ 20) (by omega) B) (le200 (n := 10 ^ 20) (by omega) B)
      generalize a3 * a3 = a4 at m12 c3 c4
      have m13 : oMul st1 (.int a4) (.int a3) = some (.int (a4 * a3)) := oMul_ok (le200 (n := 10 ^ 20) (by omega) B) (le200 (n := 10 ^ 20) (by omega) B)
      generalize a4 * a3 = a5 at m13
      have m14 : oMod st1 (.int ((i : Int) + 5)) (.int 8) = some (.int (((i : Int) + 5) % 8)) := oMod_pos (by decide)
      have m15 : oMod st1 (.int a5) (.int q3) = some (.int (a5 % q3)) := oMod_pos p3
      generalize a5 % q3 = a6 at m15
      -- the number that is appended
      have fin : ∀ z : Int, oMod st1 (.int z) (.int (base : Int)) = some (.int (z % (base : Int))) := fun z => oMod_pos (by omega)
      have dv : oDiv (st ++ [dZ (ns ++ [(if 0 < r then r else a6) % (base : Int)])]) (.int r) (.int (base : Int)) = some (.int (r / (base : Int))) := oDiv_ok (by omega) (le200 (n := 10 ^ 20) (by omega) B)
      have ap : ∀ z : Int, mApp st1 st.length [.int z] = .ok .non (st ++ [dZ (ns ++ [z])]) := fun z => by
        subst hst
        unfold mApp
        have e : (st ++ [dZ ns])[st.length]? = some (dZ ns) := by simp
        rw [e]
        dsimp only
        rw [if_pos (by simp; omega)]
        simp
      refine ⟨_, [some (.scr (s.map D.int)), some (dI k), some (dI many), some (dI base), some (.tup prs), some (.int v), some (.int (r / (base : Int))), some (.ref st.length), some (dI i), some (.int (if 0 < r then r else a6))], st ++ [dZ (ns ++ [(if 0 < r then r else a6) % (base : Int)])], rfl, ?_, ns ++ [(if 0 < r then r else a6) % (base : Int)], r / (base : Int), some (dI i), some (.int (if 0 < r then r else a6)), by simp [hn], Int.ediv_nonneg hr (by omega), rfl, rfl⟩
      by_cases h0 : 0 < r
      · have hd : decide ((0 : Int) < r) = true := decide_eq_true h0
        rw [if_pos h0] at dv ⊢
        simp only [sCons_ap, sSet_ap, sIf_ap, sExp_ap, ebOf_ap, evOp_ap, evMR_ap, kMR_0, kMR2_0, eaCons_ap, eaNil_ap, kC2_0, kC3_0, evVar_ap, evC_ap, gN_ap, Ip.R.bind_ok, kOp2_0, kOp3_0, Ip.R.lift_some, oGt_int, oAdd_int, kB_0, Ip.R.stm_ok, kSIf_0, kSIf_1, kSet_0, kExp_0, RS.seq_nx, sNil_ap, List.getElem?_cons_zero, List.getElem?_cons_succ, List.set_cons_zero, List.set_cons_succ,
          m1, e1, m2, m3, m4, m5, m6, m7, m8, ha2, m9, m10, e2, m11, m12, m13, m14, e3, m15, hd, fin, ap, dv]
      · have hd : decide ((0 : Int) < r) = false := decide_eq_false h0
        rw [if_neg h0] at dv ⊢
        simp only [sCons_ap, sSet_ap, sIf_ap, sExp_ap, ebOf_ap, evOp_ap, evMR_ap, kMR_0, kMR2_0, eaCons_ap, eaNil_ap, kC2_0, kC3_0, evVar_ap, evC_ap, gN_ap, Ip.R.bind_ok, kOp2_0, kOp3_0, Ip.R.lift_some, oGt_int, oAdd_int, kB_0, Ip.R.stm_ok, kSIf_0, kSIf_1, kSet_0, kExp_0, RS.seq_nx, sNil_ap, List.getElem?_cons_zero, List.getElem?_cons_succ, List.set_cons_zero, List.set_cons_succ,
          m1, e1, m2, m3, m4, m5, m6, m7, m8, ha2, m9, m10, e2, m11, m12, m13, m14, e3, m15, hd, fin, ap, dv])
  obtain ⟨ρ', st', e1, ns, r', o8, o9, hn, hr', rfl, rfl⟩ := loop
  rw [Nat.zero_add, List.length_range] at hn
  refine ⟨ns, hn, ?_⟩
  have rg : kIR1 [dI many] (st ++ [[]]) = _ := kIR1_nat (by omega)
  have hv2 : f_law_cell [.scr (s.map D.int), .int (k : Int)] st = .ok (.int v) st := hv
  have s1 : evTup (eaCons (evC (.int 2147483647)) (eaCons (evC (.int 2147483629)) (eaCons (evC (.int 2147483587)) (eaCons (evC (.int 2147483579)) (eaCons (evC (.int 2147483563)) (eaCons (evC (.int 2147483549)) (eaCons (evC (.int 2147483543)) (eaCons (evC (.int 2147483497)) eaNil)))))))) [some (.scr (s.map D.int)), some (dI k), some (dI many), some (dI base), none, none, none, none, none, none] st = .ok (.tup prs) st := rfl
  have s2 : elDisp eaNil [some (.scr (s.map D.int)), some (dI k), some (dI many), some (dI base), some (.tup prs), some (.int v), some (.int r), none, none, none] st = .ok [] st := rfl
  simp [f_law_draws, b_law_draws, s1, hv2, er, s2, rg, e1]

/-! ### drawing from a bag: the b-th list of the store -/
def Bag (b : Nat) (st : Sto) : Prop := ∃ ns : List Int, st[b]? = some (dZ ns)
def Drw (b : Nat) (st st' : Sto) : Prop := ∃ ns : List Int, st' = st.set b (dZ ns)
theorem Bag.refl {b : Nat} {st : Sto} (h : Bag b st) : Drw b st st := by
  obtain ⟨ns, e⟩ := h
  refine ⟨ns, ?_⟩
  obtain ⟨hl, e'⟩ := List.getElem?_eq_some_iff.mp e
  rw [← e', List.set_getElem_self]
theorem Drw.trans {b : Nat} {st st1 st2 : Sto} (h : Drw b st st1) (k : Drw b st1 st2) : Drw b st st2 := by
  obtain ⟨ns, rfl⟩ := h
  obtain ⟨ms, rfl⟩ := k
  exact ⟨ms, List.set_set ..⟩
theorem Drw.len {b : Nat} {st st1 : Sto} (h : Drw b st st1) : st1.length = st.length := by
  obtain ⟨ns, rfl⟩ := h
  exact List.length_set
theorem Drw.bag {b : Nat} {st st1 : Sto} (h : Drw b st st1) (k : Bag b st) : Bag b st1 := by
  obtain ⟨ns, rfl⟩ := h
  obtain ⟨ms, e⟩ := k
  exact ⟨ns, List.getElem?_set_self (List.getElem?_eq_some_iff.mp e).1⟩
theorem Drw.other {b n : Nat} {st st1 : Sto} (h : Drw b st st1) (hn : b ≠ n) : st1[n]? = st[n]? := by
  obtain ⟨ns, rfl⟩ := h
  exact List.getElem?_set_ne hn
theorem fnEnd_rt_of {k : Nat} {d : D} {st : Sto} (h : st.length = k) : fnEnd false k (.rt d st) = .ok d st := by subst h; exact fnEnd_rt
theorem fnEnd_nx_of {k : Nat} {ρ : Sl} {st : Sto} (h : st.length = k) : fnEnd false k (.nx ρ st) = .ok .non st := by subst h; exact fnEnd_nx
theorem okSs_dZ {ns : List Int} : okSs (dZ ns) = true := by
  induction ns with
  | nil => rfl
  | cons n ns ih => exact ih
theorem okD_dZ {ns : List Int} : okD (.lst (dZ ns)) = true := by
  unfold okD
  have h : okS (.lst (dZ ns)) = true := okSs_dZ
  rw [h, Bool.true_and, decide_eq_true_eq]
  show (PyData.list (pys (dZ ns))).depth ≤ 64
  rw [depth_lst, pys_map]
  have : PyData.depthAll ((dZ ns).map py) ≤ 0 := depthAll_le fun x hx => by
    obtain ⟨d, hd, rfl⟩ := List.mem_map.mp hx
    obtain ⟨n, _, rfl⟩ := List.mem_map.mp hd
    simp [py, PyData.depth]
  omega
theorem oNe_bag {st : Sto} {b : Nat} {ns : List Int} (h : st[b]? = some (dZ ns)) : oNe st (.ref b) (.lst []) = some (.bl (!decide (ns = []))) := by
  have e1 : deref st (.ref b) = .lst (dZ ns) := by
    show (match st[b]? with
      | some xs => D.lst xs
      | none => .ref b) = _
    rw [h]
  have e2 : deref st (.lst []) = .lst [] := rfl
  have e3 : eqD (.lst (dZ ns)) (.lst []) = decide (ns = []) := by
    cases ns with
    | nil => rfl
    | cons n ns =>
      show PyData.eqv (.list (pys (dZ (n :: ns)))) (.list (pys [])) = _
      rw [PyData.eqv]
      simp [pys, PyData.eqvAll, dZ]
  unfold oNe
  rw [e1, e2, okD_dZ, e3, if_pos ⟨rfl, rfl⟩]
theorem law_take_ok {b m : Nat} {st : Sto} (h : Bag b st) (hm : 0 < m) : ∃ t st', t < m ∧ Drw b st st' ∧ f_law_take [.ref b, dI m] st = .ok (dI t) st' := by
  obtain ⟨ns, e⟩ := h
  have ne := oNe_bag e
  cases ns with
  | nil =>
    have e0 : oMod st (.int 0) (.int (m : Int)) = some (dI 0) := oMod_pos (by omega)
    have bi : bInt st [.int 0] = some (.int 0) := rfl
    exact ⟨0, st, hm, Bag.refl ⟨[], e⟩, by simp [f_law_take, b_law_take, ne, e0, bi]⟩
  | cons n ns =>
    have hp : mPop st b [.int 0] = .ok (.int n) (st.set b (dZ ns)) := by
      unfold mPop
      rw [e]
      rfl
    have bi : ∀ st : Sto, bInt st [.int n] = some (.int n) := fun _ => rfl
    have e0 : oMod (st.set b (dZ ns)) (.int n) (.int (m : Int)) = some (dI (n % (m : Int)).toNat) := by
      rw [oMod_pos (by omega)]
      have := Int.emod_nonneg n (by omega : (m : Int) ≠ 0)
      show some (D.int _) = some (D.int _)
      congr 2
      omega
    have h1 := Int.emod_nonneg n (by omega : (m : Int) ≠ 0)
    have h2 := Int.emod_lt_of_pos n (by omega : 0 < (m : Int))
    refine ⟨(n % (m : Int)).toNat, _, by omega, ⟨ns, rfl⟩, ?_⟩
    have fe := fnEnd_rt_of (k := st.length) (d := dI (n % (m : Int)).toNat) (st := st.set b (dZ ns)) (List.length_set ..)
    simp [f_law_take, b_law_take, ne, e0, hp, bi]
    exact fe
theorem law_choice_ok {b : Nat} {st : Sto} {xs : List D} (h : Bag b st) (hx : xs ≠ []) : ∃ (t : Nat) (st' : Sto) (d : D), xs[t]? = some d ∧ Drw b st st' ∧ f_law_choice [.ref b, .lst xs] st = .ok d st' := by
  obtain ⟨t, st', ht, hd, e⟩ := law_take_ok (m := xs.length) h (List.length_pos_iff.mpr hx)
  refine ⟨t, st', xs[t], List.getElem?_eq_getElem ht, hd, ?_⟩
  have ix : oIx st' (.lst xs) (.int (t : Int)) = some xs[t] := by
    show (some xs).bind (fun ys => L2.atI ys (t : Int)) = _
    rw [Option.bind_some, atI_nat, List.getElem?_eq_getElem ht]
  have e' : f_law_take [.ref b, .int (xs.length : Int)] st = _ := e
  simp [f_law_choice, b_law_choice, e', ix, fnEnd_rt_of hd.len]
/-! ### comprehensions and loops that draw -/
theorem lcGo_drw {α : Type} {b : Nat} {g : Tg} {t : Eb} {e : Ev} {ρ : Sl} (enc : α → D) : ∀ (xs : List α) (st : Sto), Bag b st →
    (∀ x ∈ xs, ∀ st, Bag b st → ∃ ρ1 c st1, g (enc x) ρ = some ρ1 ∧ t ρ1 st = .ok c st1 ∧ Drw b st st1 ∧ e ρ1 st1 = .ok (enc x) st1) → ∃ (ys : List α) (st' : Sto), ys.Sublist xs ∧ Drw b st st' ∧ lcGo g t e ρ (xs.map enc) st = .ok (ys.map enc) st'
  | [], st, h, _ => ⟨[], st, .slnil, h.refl, rfl⟩
  | x :: xs, st, h, hs => by
    obtain ⟨ρ1, c, st1, h1, h2, h3, h4⟩ := hs x (List.mem_cons_self ..) st h
    obtain ⟨ys, st', k1, k2, k3⟩ := lcGo_drw enc xs st1 (h3.bag h) fun y hy => hs y (List.mem_cons_of_mem _ hy)
    rw [List.map_cons, lcGo, h1]
    simp only [h2, noX_ok, R.bind_ok]
    cases c with
    | true => exact ⟨x :: ys, st', k1.cons₂ x, h3.trans k2, by simp [h4, k3]⟩
    | false => exact ⟨ys, st', k1.cons x, h3.trans k2, by simp [k3]⟩
theorem evLc_drw {α : Type} {b : Nat} {vs : List Nat} {it : Ea} {g : Tg} {t : Eb} {e : Ev} {ρ : Sl} {st : Sto} (enc : α → D) (xs : List α) (hi : it ρ st = .ok (xs.map enc) st) (hl : xs.length ≤ 1000000) (hb : Bag b st)
    (hs : ∀ x ∈ xs, ∀ st, Bag b st → ∃ ρ1 c st1, g (enc x) (wipeS ρ vs) = some ρ1 ∧ t ρ1 st = .ok c st1 ∧ Drw b st st1 ∧ e ρ1 st1 = .ok (enc x) st1) : ∃ (ys : List α) (st' : Sto), ys.Sublist xs ∧ Drw b st st' ∧ evLc vs it g t e ρ st = .ok (.lst (ys.map enc)) st' := by
  obtain ⟨ys, st', h1, h2, h3⟩ := lcGo_drw enc xs st hb hs
  refine ⟨ys, st', h1, h2, ?_⟩
  rw [evLc_ap, hi, R.bind_ok, h3, R.bind_ok, lcEnd_ok]
  rw [List.length_map]
  exact Nat.le_trans h1.length_le hl
theorem whGo_ix {t : Eb} {f : Es} (I : Nat → Sl → Sto → Prop) : ∀ (n k fuel : Nat) (ρ : Sl) (st : Sto), n < fuel → I k ρ st →
    (∀ i ρ st, i < k + n → k ≤ i → I i ρ st → ∃ st1 ρ2 st2, t ρ st = .ok true st1 ∧ f ρ st1 = .nx ρ2 st2 ∧ I (i + 1) ρ2 st2) → (∀ ρ st, I (k + n) ρ st → ∃ st1, t ρ st = .ok false st1 ∧ st1 = st) → ∃ ρ' st', whGo t f fuel ρ st = .nx ρ' st' ∧ I (k + n) ρ' st'
  | 0, k, 0, _, _, h, _, _, _ => absurd h (Nat.lt_irrefl _)
  | _ + 1, k, 0, _, _, h, _, _, _ => absurd h (Nat.not_lt_zero _)
  | 0, k, fuel + 1, ρ, st, _, hI, _, he => by
    obtain ⟨st1, h1, rfl⟩ := he ρ st hI
    exact ⟨ρ, st1, by simp [whGo, h1], hI⟩
  | n + 1, k, fuel + 1, ρ, st, hf, hI, hs, he => by
    obtain ⟨st1, ρ2, st2, h1, h2, h3⟩ := hs k ρ st (by omega) (Nat.le_refl _) hI
    obtain ⟨ρ', st', e1, e2⟩ := whGo_ix I n (k + 1) fuel ρ2 st2 (by omega) h3 (fun i ρ st a b => hs i ρ st (by omega) (by omega)) (by rw [show k + 1 + n = k + (n + 1) by omega]; exact he)
    refine ⟨ρ', st', ?_, by rw [show k + (n + 1) = k + 1 + n by omega]; exact e2⟩
    simp [whGo, h1, h2, e1]
end Lw
set_option Elab.async false
set_option linter.all false
set_option maxRecDepth 100000
set_option maxHeartbeats 4000000
namespace Lw
open PySem Ip Lots

/-! ### order -/
theorem leL_eq (a b : List Nat) : leL a b = decide ((a.map fun (n : Nat) => (n : Int)) ≤ (b.map fun (n : Nat) => (n : Int))) := by
  have h := congrFun (congrFun (PySem.W.dataLe_rows (fun (l : List Nat) => l.map fun (n : Nat) => (n : Int))) a) b
  have e : ∀ l : List Nat, pys (l.map dI) = (l.map fun (n : Nat) => (n : Int)).map PyData.int := fun l => by
    rw [pys_map, List.map_map, List.map_map]; rfl
  have g : leL a b = PySem.W.dataLe false (fun (l : List Nat) => PyData.list ((l.map fun (n : Nat) => (n : Int)).map .int)) a b := by
    show (!PySem.W.dataLt (.tuple (pys (b.map dI))) (.tuple (pys (a.map dI)))) = (!PySem.W.dataLt (.list _) (.list _))
    rw [e, e, PySem.W.dataLt_tuple, PySem.W.dataLt_list]
  rw [g, h]
theorem castL_inj : ∀ {a b : List Nat}, (a.map fun (n : Nat) => (n : Int)) = (b.map fun (n : Nat) => (n : Int)) → a = b
  | [], [], _ => rfl
  | [], _ :: _, h => by simp at h
  | _ :: _, [], h => by simp at h
  | x :: a, y :: b, h => by
    rw [List.map_cons, List.map_cons] at h
    obtain ⟨h1, h2⟩ := List.cons.inj h
    rw [castL_inj h2, show x = y by omega]
theorem leL_antisymm {a b : List Nat} (h1 : leL a b = true) (h2 : leL b a = true) : a = b := by
  rw [leL_eq, decide_eq_true_eq] at h1 h2
  have e := List.le_antisymm h1 h2
  exact castL_inj e
theorem leL_trans (a b c : List Nat) (h1 : leL a b = true) (h2 : leL b c = true) : leL a c = true := by
  rw [leL_eq, decide_eq_true_eq] at *
  exact List.le_trans h1 h2
theorem leL_total (a b : List Nat) : (leL a b || leL b a) = true := by
  rw [leL_eq, leL_eq, Bool.or_eq_true, decide_eq_true_eq, decide_eq_true_eq]
  exact List.le_total _ _
theorem leD_int {i j : Int} : leD (.int i) (.int j) = decide (i ≤ j) := by
  show (!PySem.W.dataLt (.int j) (.int i)) = _
  rw [PySem.W.dataLt_int, PySem.W.not_lt_int]
def leN (a b : Nat) : Bool := decide (a ≤ b)
theorem leN_trans (a b c : Nat) (h1 : leN a b = true) (h2 : leN b c = true) : leN a c = true := by
  unfold leN at *
  rw [decide_eq_true_eq] at *
  omega
theorem leN_total (a b : Nat) : (leN a b || leN b a) = true := by
  unfold leN
  rw [Bool.or_eq_true, decide_eq_true_eq, decide_eq_true_eq]
  omega
def sortN (l : List Nat) : List Nat := l.mergeSort leN
def sortL (l : List (List Nat)) : List (List Nat) := l.mergeSort leL
theorem sortN_perm (l : List Nat) : (sortN l).Perm l := List.mergeSort_perm ..
theorem sortL_perm (l : List (List Nat)) : (sortL l).Perm l := List.mergeSort_perm ..
theorem sortN_mem {l : List Nat} {x : Nat} : x ∈ sortN l ↔ x ∈ l := List.mem_mergeSort
theorem sortN_sorted (l : List Nat) : (sortN l).Pairwise fun a b => leN a b = true := List.pairwise_mergeSort leN_trans leN_total l
theorem sortL_sorted (l : List (List Nat)) : (sortL l).Pairwise fun a b => leL a b = true := List.pairwise_mergeSort leL_trans leL_total l
theorem sortN_asc {l : List Nat} (h : l.Nodup) : (sortN l).Pairwise (· < ·) := by
  have h1 := sortN_sorted l
  have h2 : (sortN l).Nodup := (sortN_perm l).nodup_iff.mpr h
  refine (h1.and h2).imp fun {a b} ⟨x, y⟩ => ?_
  unfold leN at x
  rw [decide_eq_true_eq] at x
  omega
/-- sorted lists with the same members, once each, are one -/
theorem asc_unique {a b : List Nat} (ha : a.Pairwise (· < ·)) (hb : b.Pairwise (· < ·)) (h : ∀ x, x ∈ a ↔ x ∈ b) : a = b := by
  have na : a.Nodup := ha.imp Nat.ne_of_lt
  have nb : b.Nodup := hb.imp Nat.ne_of_lt
  exact ((List.perm_ext_iff_of_nodup na nb).mpr h).eq_of_pairwise (fun x y _ _ h1 h2 => by omega) ha hb
theorem srtL_unique {a b : List (List Nat)} (ha : a.Pairwise fun a b => leL a b = true) (hb : b.Pairwise fun a b => leL a b = true) (na : a.Nodup) (nb : b.Nodup) (h : ∀ x, x ∈ a ↔ x ∈ b) : a = b :=
  ((List.perm_ext_iff_of_nodup na nb).mpr h).eq_of_pairwise (fun x y _ _ h1 h2 => leL_antisymm h1 h2) ha hb
theorem srt_ints {l : List Nat} : srtOk (l.map dI) = true := by
  unfold srtOk
  simp only [Bool.and_eq_true, List.all_eq_true]
  refine ⟨⟨⟨okSs_ints, ?_⟩, ?_⟩, ?_⟩
  · intro x hx y hy
    obtain ⟨a, _, rfl⟩ := List.mem_map.mp hx
    obtain ⟨b, _, rfl⟩ := List.mem_map.mp hy
    show PySem.W.alike (.int a) (.int b) = true
    simp [PySem.W.alike]
  · intro x hx
    obtain ⟨a, _, rfl⟩ := List.mem_map.mp hx
    rfl
  · intro x hx
    obtain ⟨a, _, rfl⟩ := List.mem_map.mp hx
    rfl
theorem bSorted_ints {st : Sto} {xs : List Nat} : bSorted st [.lst (xs.map dI)] = some (.lst ((sortN xs).map dI)) := by
  have e : bSorted st [.lst (xs.map dI)] = if srtOk (xs.map dI) = true then some (.lst ((xs.map dI).mergeSort leD)) else none := rfl
  rw [e, srt_ints, if_pos rfl]
  unfold sortN
  rw [← List.map_mergeSort (r := leN) (s := leD) (f := dI) fun a _ b _ => by
    unfold leN
    rw [leD_int, Bool.eq_iff_iff, decide_eq_true_eq, decide_eq_true_eq]
    omega]
theorem cases_sorted (m k : Nat) : (cases m k).Pairwise fun a b => leL a b = true := List.pairwise_mergeSort leL_trans leL_total _
end Lw
set_option Elab.async false
set_option linter.all false
set_option maxRecDepth 100000
set_option maxHeartbeats 4000000
namespace Lw
open PySem Ip Lots

/-! ### members, and what is least: plain words about plans -/
theorem zip_mem {α : Type} {l : List α} {q : α × Nat} : q ∈ l.zipIdx ↔ l[q.2]? = some q.1 := by
  rw [List.mem_iff_getElem?]
  constructor
  · rintro ⟨i, hi⟩
    rw [List.getElem?_zipIdx] at hi
    obtain ⟨x, hx, rfl⟩ := Option.map_eq_some_iff.mp hi
    simpa using hx
  · intro h
    refine ⟨q.2, ?_⟩
    rw [List.getElem?_zipIdx, h]
    simp
theorem zip_snd {α : Type} (l : List α) : (l.zipIdx.map (·.2)) = List.range l.length := by
  rw [List.range_eq_range']
  exact List.zipIdx_map_snd 0 l
theorem view_mem {p : Pl} {c : List Nat} {n : Nat} : n ∈ view p c ↔ ∃ l, p.2[n]? = some l ∧ ∃ t ∈ l, t ∈ c := by
  unfold view
  simp only [List.mem_map, List.mem_filter, List.any_eq_true, decide_eq_true_eq]
  constructor
  · rintro ⟨q, ⟨h1, t, h2, h3⟩, rfl⟩
    exact ⟨q.1, zip_mem.mp h1, t, h2, h3⟩
  · rintro ⟨l, h1, t, h2, h3⟩
    exact ⟨(l, n), ⟨zip_mem.mpr h1, t, h2, h3⟩, rfl⟩
theorem lots_mem {p : Pl} {t n : Nat} : n ∈ lotsOf p t ↔ ∃ l, p.2[n]? = some l ∧ t ∈ l := by
  unfold lotsOf
  simp only [List.mem_map, List.mem_filter, decide_eq_true_eq]
  constructor
  · rintro ⟨q, ⟨h1, h2⟩, rfl⟩
    exact ⟨q.1, zip_mem.mp h1, h2⟩
  · rintro ⟨l, h1, h2⟩
    exact ⟨(l, n), ⟨zip_mem.mpr h1, h2⟩, rfl⟩
theorem filt_asc {α : Type} {l : List α} (f : α × Nat → Bool) : Asc l.length ((l.zipIdx.filter f).map (·.2)) := by
  have h : ((l.zipIdx.filter f).map (·.2)).Sublist (List.range l.length) := by
    rw [← zip_snd l]
    exact List.filter_sublist.map _
  exact ⟨List.pairwise_lt_range.sublist h, fun x hx => List.mem_range.mp (h.subset hx)⟩
theorem view_asc (p : Pl) (c : List Nat) : Asc p.2.length (view p c) := filt_asc _
theorem lots_asc (p : Pl) (t : Nat) : Asc p.2.length (lotsOf p t) := filt_asc _
theorem Asc.filter {m : Nat} {l : List Nat} (h : Asc m l) (f : Nat → Bool) : Asc m (l.filter f) := ⟨h.1.filter f, fun x hx => h.2 x (List.mem_filter.mp hx).1⟩
theorem Asc.nodup {m : Nat} {l : List Nat} (h : Asc m l) : l.Nodup := h.1.imp Nat.ne_of_lt
theorem Asc.ext {m k : Nat} {a b : List Nat} (ha : Asc m a) (hb : Asc k b) (h : ∀ x, x ∈ a ↔ x ∈ b) : a = b := asc_unique ha.1 hb.1 h
theorem susp_mem {p : Pl} {v : List Nat} {t : Nat} : t ∈ susp p v ↔ t < p.1 ∧ ∀ n ∈ lotsOf p t, n ∈ v := by
  unfold susp
  rw [List.mem_filter, List.mem_range, List.all_eq_true]
  simp only [decide_eq_true_eq]
theorem susp_asc (p : Pl) (v : List Nat) : Asc p.1 (susp p v) := by
  have h : (susp p v).Sublist (List.range p.1) := List.filter_sublist
  exact ⟨List.pairwise_lt_range.sublist h, fun x hx => List.mem_range.mp (h.subset hx)⟩
/-! ### the first hidden pair: nothing is shorter -/
def Hid (p : Pl) (k t : Nat) (c : List Nat) : Prop := t < p.1 ∧ c ∈ others p t k ∧ left p t c = 0
theorem hid1_inv (p : Pl) (t : Nat) : ∀ (cs : List (List Nat)) (b : Option (Nat × List Nat)),
    ((cs.foldl (hid1 p t) b = none ↔ b = none ∧ ∀ c ∈ cs, left p t c ≠ 0) ∧
    ∀ q, cs.foldl (hid1 p t) b = some q → (b = some q ∨ (q.1 = t ∧ q.2 ∈ cs ∧ left p t q.2 = 0)) ∧ (∀ r, b = some r → q.2.length ≤ r.2.length) ∧ ∀ c ∈ cs, left p t c = 0 → q.2.length ≤ c.length)
  | [], b => by
    refine ⟨by simp, fun q h => ⟨.inl h, fun r hr => ?_, fun _ h => nomatch h⟩⟩
    have h : b = some q := h
    rw [h] at hr; cases hr
    exact Nat.le_refl _
  | c :: cs, b => by
    obtain ⟨ih1, ih2⟩ := hid1_inv p t cs (hid1 p t b c)
    rw [List.foldl_cons]
    by_cases h0 : left p t c = 0
    · have hs : ∃ r, hid1 p t b c = some r ∧ (b = some r ∨ r = (t, c)) ∧ r.2.length ≤ c.length ∧ ∀ r', b = some r' → r.2.length ≤ r'.2.length := by
        cases b with
        | none => exact ⟨(t, c), by simp [hid1, h0], .inr rfl, Nat.le_refl _, fun _ h => nomatch h⟩
        | some r =>
          by_cases hl : c.length < r.2.length
          · exact ⟨(t, c), by simp [hid1, h0, hl], .inr rfl, Nat.le_refl _, fun r' hr => by cases hr; exact Nat.le_of_lt hl⟩
          · exact ⟨r, by simp [hid1, h0, hl], .inl rfl, by omega, fun r' hr => by cases hr; exact Nat.le_refl _⟩
      obtain ⟨r, e, hr1, hr2, hr3⟩ := hs
      rw [e] at ih1 ih2 ⊢
      refine ⟨?_, fun q hq => ?_⟩
      · constructor
        · intro h
          exact absurd (ih1.mp h).1 (by simp)
        · rintro ⟨_, h⟩
          exact absurd h0 (h c (List.mem_cons_self ..))
      · obtain ⟨k1, k2, k3⟩ := ih2 q hq
        have kr := k2 r rfl
        refine ⟨?_, fun r' hr' => Nat.le_trans kr (hr3 r' hr'), fun d hd hd0 => ?_⟩
        · rcases k1 with k1 | ⟨k1, k4, k5⟩
          · cases k1
            rcases hr1 with hr1 | hr1
            · exact .inl hr1
            · subst hr1
              exact .inr ⟨rfl, List.mem_cons_self .., h0⟩
          · exact .inr ⟨k1, List.mem_cons_of_mem _ k4, k5⟩
        · rcases List.mem_cons.mp hd with rfl | hd
          · exact Nat.le_trans kr hr2
          · exact k3 d hd hd0
    · have e : hid1 p t b c = b := by simp [hid1, h0]
      rw [e] at ih1 ih2 ⊢
      refine ⟨?_, fun q hq => ?_⟩
      · rw [ih1]
        simp only [List.mem_cons, forall_eq_or_imp]
        exact ⟨fun ⟨a, b⟩ => ⟨a, h0, b⟩, fun ⟨a, _, b⟩ => ⟨a, b⟩⟩
      · obtain ⟨k1, k2, k3⟩ := ih2 q hq
        refine ⟨k1.imp id fun ⟨a, b, c⟩ => ⟨a, List.mem_cons_of_mem _ b, c⟩, k2, fun d hd hd0 => ?_⟩
        rcases List.mem_cons.mp hd with rfl | hd
        · exact absurd hd0 h0
        · exact k3 d hd hd0
theorem hid_inv (p : Pl) (k : Nat) : ∀ (ts : List Nat) (b : Option (Nat × List Nat)),
    ((ts.foldl (fun b t => (others p t k).foldl (hid1 p t) b) b = none ↔ b = none ∧ ∀ t ∈ ts, ∀ c ∈ others p t k, left p t c ≠ 0) ∧
    ∀ q, ts.foldl (fun b t => (others p t k).foldl (hid1 p t) b) b = some q → (b = some q ∨ (q.1 ∈ ts ∧ q.2 ∈ others p q.1 k ∧ left p q.1 q.2 = 0)) ∧ (∀ r, b = some r → q.2.length ≤ r.2.length) ∧ ∀ t ∈ ts, ∀ c ∈ others p t k, left p t c = 0 → q.2.length ≤ c.length)
  | [], b => by
    refine ⟨by simp, fun q h => ⟨.inl h, fun r hr => ?_, fun _ h => nomatch h⟩⟩
    have h : b = some q := h
    rw [h] at hr; cases hr
    exact Nat.le_refl _
  | t :: ts, b => by
    obtain ⟨ih1, ih2⟩ := hid_inv p k ts ((others p t k).foldl (hid1 p t) b)
    obtain ⟨g1, g2⟩ := hid1_inv p t (others p t k) b
    rw [List.foldl_cons]
    refine ⟨?_, fun q hq => ?_⟩
    · rw [ih1, g1]
      simp only [List.mem_cons, forall_eq_or_imp]
      exact ⟨fun ⟨⟨a, b⟩, c⟩ => ⟨a, b, c⟩, fun ⟨a, b, c⟩ => ⟨⟨a, b⟩, c⟩⟩
    · obtain ⟨k1, k2, k3⟩ := ih2 q hq
      have mid : ∀ c ∈ others p t k, left p t c = 0 → q.2.length ≤ c.length := fun c hc h0 => by
        cases hm : (others p t k).foldl (hid1 p t) b with
        | none => exact absurd h0 ((g1.mp hm).2 c hc)
        | some m => exact Nat.le_trans (k2 m hm) ((g2 m hm).2.2 c hc h0)
      have ini : ∀ r, b = some r → q.2.length ≤ r.2.length := fun r hr => by
        cases hm : (others p t k).foldl (hid1 p t) b with
        | none =>
          have := (g1.mp hm).1
          rw [hr] at this; cases this
        | some m => exact Nat.le_trans (k2 m hm) ((g2 m hm).2.1 r hr)
      refine ⟨?_, ini, fun u hu c hc h0 => ?_⟩
      · rcases k1 with k1 | ⟨k1, k4, k5⟩
        · rcases (g2 q k1).1 with h | ⟨h1, h2, h3⟩
          · exact .inl h
          · right
            rw [h1]
            exact ⟨List.mem_cons_self .., h2, h3⟩
        · exact .inr ⟨List.mem_cons_of_mem _ k1, k4, k5⟩
      · rcases List.mem_cons.mp hu with rfl | hu
        · exact mid c hc h0
        · exact k3 u hu c hc h0
theorem hid_none {p : Pl} {k : Nat} : hid p k = none ↔ ∀ t c, ¬ Hid p k t c := by
  unfold hid
  rw [(hid_inv p k (List.range p.1) none).1]
  constructor
  · rintro ⟨_, h⟩ t c ⟨h1, h2, h3⟩
    exact h t (List.mem_range.mpr h1) c h2 h3
  · intro h
    exact ⟨rfl, fun t ht c hc h0 => h t c ⟨List.mem_range.mp ht, hc, h0⟩⟩
theorem hid_some {p : Pl} {k : Nat} {q : Nat × List Nat} (h : hid p k = some q) : Hid p k q.1 q.2 ∧ ∀ t c, Hid p k t c → q.2.length ≤ c.length := by
  obtain ⟨h1, _, h3⟩ := (hid_inv p k (List.range p.1) none).2 q h
  refine ⟨?_, fun t c ⟨a, b, d⟩ => h3 t (List.mem_range.mpr a) c b d⟩
  rcases h1 with h1 | ⟨h1, h2, h4⟩
  · cases h1
  · exact ⟨List.mem_range.mp h1, h2, h4⟩
/-! ### least and greatest numbers -/
theorem foldl_min_le : ∀ (r : List Nat) (x : Nat), (r.foldl min x = x ∨ r.foldl min x ∈ r) ∧ r.foldl min x ≤ x ∧ ∀ y ∈ r, r.foldl min x ≤ y
  | [], x => ⟨.inl rfl, Nat.le_refl _, fun _ h => nomatch h⟩
  | z :: r, x => by
    obtain ⟨h1, h2, h3⟩ := foldl_min_le r (min x z)
    rw [List.foldl_cons]
    refine ⟨?_, by omega, fun y hy => ?_⟩
    · rcases h1 with h1 | h1
      · rw [h1]
        by_cases hz : x ≤ z
        · exact .inl (by omega)
        · right
          rw [Nat.min_eq_right (by omega)]
          exact List.mem_cons_self ..
      · exact .inr (List.mem_cons_of_mem _ h1)
    · rcases List.mem_cons.mp hy with rfl | hy
      · omega
      · exact h3 y hy
theorem minN_is {l : List Nat} {n : Nat} : minN l = some n ↔ n ∈ l ∧ ∀ x ∈ l, n ≤ x := by
  cases l with
  | nil => simp [minN]
  | cons x r =>
    obtain ⟨h1, h2, h3⟩ := foldl_min_le r x
    have e : minN (x :: r) = some (r.foldl min x) := rfl
    rw [e, Option.some.injEq]
    have mem : r.foldl min x ∈ x :: r := by
      rcases h1 with h1 | h1
      · rw [h1]; exact List.mem_cons_self ..
      · exact List.mem_cons_of_mem _ h1
    have low : ∀ y ∈ x :: r, r.foldl min x ≤ y := fun y hy => by
      rcases List.mem_cons.mp hy with rfl | hy
      · exact h2
      · exact h3 y hy
    constructor
    · rintro rfl
      exact ⟨mem, low⟩
    · rintro ⟨a, b⟩
      exact Nat.le_antisymm (low n a) (b _ mem)
theorem minN_ex {l : List Nat} (h : l ≠ []) : ∃ n, minN l = some n := by
  cases l with
  | nil => exact absurd rfl h
  | cons x r => exact ⟨_, rfl⟩
theorem maxN_ex {l : List Nat} (h : l ≠ []) : ∃ n, maxN l = some n := by
  cases l with
  | nil => exact absurd rfl h
  | cons x r => exact ⟨_, rfl⟩
theorem minN_eq {a b : List Nat} (h : ∀ x, x ∈ a ↔ x ∈ b) : minN a = minN b := by
  cases e : minN a with
  | none =>
    cases a with
    | nil =>
      have : b = [] := List.eq_nil_iff_forall_not_mem.mpr fun x hx => nomatch (h x).mpr hx
      rw [this]; rfl
    | cons _ _ => cases e
  | some n =>
    obtain ⟨h1, h2⟩ := minN_is.mp e
    exact (minN_is.mpr ⟨(h n).mp h1, fun x hx => h2 x ((h x).mpr hx)⟩).symm
theorem mar_mem {p : Pl} {k n : Nat} : n ∈ marL p k ↔ ∃ t c, t < p.1 ∧ c ∈ others p t k ∧ left p t c = n := by
  unfold marL
  simp only [List.mem_flatMap, List.mem_range, List.mem_map]
  constructor
  · rintro ⟨t, h1, c, h2, h3⟩
    exact ⟨t, c, h1, h2, h3⟩
  · rintro ⟨t, c, h1, h2, h3⟩
    exact ⟨t, h1, c, h2, h3⟩
theorem nil_asc {m : Nat} : Asc m [] := ⟨.nil, fun _ h => nomatch h⟩
theorem mar_ne {p : Pl} {k : Nat} (hp : OkP p) : marL p k ≠ [] := fun e => by
  have : left p 0 [] ∈ marL p k := mar_mem.mpr ⟨0, [], hp.one, others_mem.mpr ⟨nil_asc, Nat.zero_le _, fun h => nomatch h⟩, rfl⟩
  rw [e] at this
  cases this
/-! ### pairs of rows -/
theorem find_none {α β : Type} {f : α → Option β} {l : List α} : l.findSome? f = none ↔ ∀ x ∈ l, f x = none := by
  induction l with
  | nil => simp
  | cons x l ih =>
    rw [List.findSome?_cons]
    cases h : f x with
    | none => simp [h, ih]
    | some y => simp [h]
theorem alk_none {rs : List Row} : alk rs = none ↔ ∀ (i j : Nat) (a b : Row), i < j → rs[i]? = some a → rs[j]? = some b → a.2 ≠ b.2 := by
  unfold alk
  rw [find_none]
  constructor
  · intro h i j a b hij ha hb e
    have := h (a, i) (zip_mem.mpr ha)
    unfold alk1 at this
    rw [find_none] at this
    have hb' : b ∈ rs.drop (i + 1) := List.mem_iff_getElem?.mpr ⟨j - (i + 1), by rw [List.getElem?_drop, show i + 1 + (j - (i + 1)) = j by omega]; exact hb⟩
    have := this b hb'
    rw [if_pos e] at this
    cases this
  · intro h q hq
    unfold alk1
    rw [find_none]
    intro r hr
    obtain ⟨j, hj⟩ := List.mem_iff_getElem?.mp hr
    rw [List.getElem?_drop] at hj
    exact if_neg (h q.2 (q.2 + 1 + j) q.1 r (by omega) (zip_mem.mp hq) hj)
theorem rows_get {p : Pl} {k i : Nat} : (rows p k)[i]? = ((cases p.1 k)[i]?).map fun c => (c, view p c) := List.getElem?_map ..
theorem alk_rows {p : Pl} {k : Nat} : alk (rows p k) = none ↔ ∀ c ∈ cases p.1 k, ∀ d ∈ cases p.1 k, c ≠ d → view p c ≠ view p d := by
  rw [alk_none]
  constructor
  · intro h c hc d hd hcd e
    obtain ⟨i, hi⟩ := List.mem_iff_getElem?.mp hc
    obtain ⟨j, hj⟩ := List.mem_iff_getElem?.mp hd
    have ri : (rows p k)[i]? = some (c, view p c) := by rw [rows_get, hi]; rfl
    have rj : (rows p k)[j]? = some (d, view p d) := by rw [rows_get, hj]; rfl
    rcases Nat.lt_trichotomy i j with q | q | q
    · exact h i j _ _ q ri rj e
    · subst q
      rw [hi] at hj
      cases hj
      exact hcd rfl
    · exact h j i _ _ q rj ri e.symm
  · intro h i j a b hij ha hb e
    rw [rows_get] at ha hb
    obtain ⟨c, hc, rfl⟩ := Option.map_eq_some_iff.mp ha
    obtain ⟨d, hd, rfl⟩ := Option.map_eq_some_iff.mp hb
    refine h c (List.mem_of_getElem? hc) d (List.mem_of_getElem? hd) (fun z => ?_) e
    subst z
    have := ndx (cases_nodup p.1 k) hc hd
    omega
theorem apart_comm (v w : List Nat) : apartN v w = apartN w v := by unfold apartN; omega
/-- the least of n and the distances -/
structure GapIs (p : Pl) (k n g : Nat) : Prop where
  le : g ≤ n
  low : ∀ c ∈ cases p.1 k, ∀ d ∈ cases p.1 k, c ≠ d → g ≤ apartN (view p c) (view p d)
  at_ : g = n ∨ ∃ c ∈ cases p.1 k, ∃ d ∈ cases p.1 k, c ≠ d ∧ g = apartN (view p c) (view p d)
theorem GapIs.unique {p : Pl} {k n g h : Nat} (a : GapIs p k n g) (b : GapIs p k n h) : g = h := by
  refine Nat.le_antisymm ?_ ?_
  · rcases b.at_ with rfl | ⟨c, hc, d, hd, hn, rfl⟩
    · exact a.le
    · exact a.low c hc d hd hn
  · rcases a.at_ with rfl | ⟨c, hc, d, hd, hn, rfl⟩
    · exact b.le
    · exact b.low c hc d hd hn
theorem foldl_minf {α : Type} (f : α → Nat) : ∀ (l : List α) (n : Nat), l.foldl (fun g r => min g (f r)) n ≤ n ∧ (∀ r ∈ l, l.foldl (fun g r => min g (f r)) n ≤ f r) ∧ (l.foldl (fun g r => min g (f r)) n = n ∨ ∃ r ∈ l, l.foldl (fun g r => min g (f r)) n = f r)
  | [], n => ⟨Nat.le_refl _, fun _ h => (nomatch h), .inl rfl⟩
  | x :: l, n => by
    obtain ⟨h1, h2, h3⟩ := foldl_minf f l (min n (f x))
    rw [List.foldl_cons]
    refine ⟨by omega, fun r hr => ?_, ?_⟩
    · rcases List.mem_cons.mp hr with rfl | hr
      · omega
      · exact h2 r hr
    · rcases h3 with h3 | ⟨r, hr, h3⟩
      · by_cases hx : n ≤ f x
        · exact .inl (by omega)
        · exact .inr ⟨x, List.mem_cons_self .., by omega⟩
      · exact .inr ⟨r, List.mem_cons_of_mem _ hr, h3⟩
theorem foldl_minff {α β : Type} (l : α → List β) (f : α → β → Nat) : ∀ (xs : List α) (n : Nat),
    xs.foldl (fun g q => (l q).foldl (fun g r => min g (f q r)) g) n ≤ n ∧ (∀ q ∈ xs, ∀ r ∈ l q, xs.foldl (fun g q => (l q).foldl (fun g r => min g (f q r)) g) n ≤ f q r) ∧
      (xs.foldl (fun g q => (l q).foldl (fun g r => min g (f q r)) g) n = n ∨ ∃ q ∈ xs, ∃ r ∈ l q, xs.foldl (fun g q => (l q).foldl (fun g r => min g (f q r)) g) n = f q r)
  | [], n => ⟨Nat.le_refl _, fun _ h => (nomatch h), .inl rfl⟩
  | x :: xs, n => by
    obtain ⟨h1, h2, h3⟩ := foldl_minff l f xs ((l x).foldl (fun g r => min g (f x r)) n)
    obtain ⟨g1, g2, g3⟩ := foldl_minf (f x) (l x) n
    rw [List.foldl_cons]
    refine ⟨Nat.le_trans h1 g1, fun q hq r hr => ?_, ?_⟩
    · rcases List.mem_cons.mp hq with rfl | hq
      · exact Nat.le_trans h1 (g2 r hr)
      · exact h2 q hq r hr
    · rcases h3 with h3 | ⟨q, hq, r, hr, h3⟩
      · rw [h3]
        rcases g3 with g3 | ⟨r, hr, g3⟩
        · exact .inl g3
        · exact .inr ⟨x, List.mem_cons_self .., r, hr, g3⟩
      · exact .inr ⟨q, List.mem_cons_of_mem _ hq, r, hr, h3⟩
theorem gapN_is (p : Pl) (k n : Nat) : GapIs p k n (gapN (rows p k) n) := by
  obtain ⟨h1, h2, h3⟩ := foldl_minff (fun (q : Row × Nat) => (rows p k).drop (q.2 + 1)) (fun q r => apartN q.1.2 r.2) (rows p k).zipIdx n
  have e : (rows p k).zipIdx.foldl (fun g q => ((rows p k).drop (q.2 + 1)).foldl (fun g r => min g (apartN q.1.2 r.2)) g) n = gapN (rows p k) n := rfl
  rw [e] at h1 h2 h3
  have pair : ∀ (i j : Nat) (c d : List Nat), i < j → (cases p.1 k)[i]? = some c → (cases p.1 k)[j]? = some d → gapN (rows p k) n ≤ apartN (view p c) (view p d) := fun i j c d hij hc hd => by
    have ri : (rows p k)[i]? = some (c, view p c) := by rw [rows_get, hc]; rfl
    have rj : (rows p k)[j]? = some (d, view p d) := by rw [rows_get, hd]; rfl
    exact h2 ((c, view p c), i) (zip_mem.mpr ri) (d, view p d) (List.mem_iff_getElem?.mpr ⟨j - (i + 1), by rw [List.getElem?_drop, show i + 1 + (j - (i + 1)) = j by omega]; exact rj⟩)
  refine ⟨h1, fun c hc d hd hn => ?_, ?_⟩
  · obtain ⟨i, hi⟩ := List.mem_iff_getElem?.mp hc
    obtain ⟨j, hj⟩ := List.mem_iff_getElem?.mp hd
    rcases Nat.lt_trichotomy i j with q | q | q
    · exact pair i j c d q hi hj
    · subst q
      rw [hi] at hj
      cases hj
      exact absurd rfl hn
    · rw [apart_comm]
      exact pair j i d c q hj hi
  · rcases h3 with h3 | ⟨q, hq, r, hr, h3⟩
    · exact .inl h3
    · right
      have q1 := zip_mem.mp hq
      obtain ⟨j, hj⟩ := List.mem_iff_getElem?.mp hr
      rw [List.getElem?_drop] at hj
      rw [rows_get] at q1 hj
      obtain ⟨c, hc, e1⟩ := Option.map_eq_some_iff.mp q1
      obtain ⟨d, hd, e2⟩ := Option.map_eq_some_iff.mp hj
      refine ⟨c, List.mem_of_getElem? hc, d, List.mem_of_getElem? hd, fun z => ?_, ?_⟩
      · subst z
        have := ndx (cases_nodup p.1 k) hc hd
        omega
      · rw [h3, ← e1, ← e2]
theorem tell_ne (p : Pl) : tellL p ≠ [] := fun e => by
  have : 0 ∈ tellL p := by
    unfold tellL
    rw [List.mem_filter, List.mem_range]
    refine ⟨by omega, ?_⟩
    have h : alk (rows p 0) = none := alk_rows.mpr fun c hc d hd hn => by
      have h1 := (cases_mem.mp hc).2
      have h2 := (cases_mem.mp hd).2
      have e1 : c = [] := List.length_eq_zero_iff.mp (by omega)
      have e2 : d = [] := List.length_eq_zero_iff.mp (by omega)
      exact absurd (e1.trans e2.symm) hn
    rw [h]; rfl
  rw [e] at this
  cases this
theorem for_eq (p : Pl) (v : List Nat) (k : Nat) : forL p v k = (cases p.1 k).filter fun c => decide (view p c = v) := by
  unfold forL rows
  rw [List.filter_map, List.map_map]
  exact List.map_id _
theorem near_fst (p : Pl) (v : List Nat) (k : Nat) : (nearR p v k).map (·.1) = (cases p.1 k).map fun c => apartN v (view p c) := by
  unfold nearR rows
  rw [List.map_map, List.map_map]
  rfl
theorem near_snd (p : Pl) (v : List Nat) (k n : Nat) : ((nearR p v k).filter fun q => decide (q.1 = n)).map (·.2) = (cases p.1 k).filter fun c => decide (apartN v (view p c) = n) := by
  unfold nearR rows
  rw [List.map_map, List.filter_map, List.map_map]
  exact List.map_id _
theorem near_ne {p : Pl} {v : List Nat} {k : Nat} : (nearR p v k).map (·.1) ≠ [] := fun e => by
  rw [near_fst, List.map_eq_nil_iff] at e
  have : [] ∈ cases p.1 k := cases_mem.mpr ⟨nil_asc, Nat.zero_le _⟩
  rw [e] at this
  cases this
end Lw
set_option Elab.async false
set_option linter.all false
set_option maxRecDepth 100000
set_option maxHeartbeats 4000000
namespace Lw
open PySem Ip Lots

theorem bag_ok {s : List Int} {k : Nat} (hk : k ≤ 1000) (hs : s.length ≤ 1000) (st : Sto) : ∃ ns : List Int, f_law_bag [.scr (s.map D.int), dI k] st = .ok (.ref st.length) (st ++ [dZ ns]) := by
  obtain ⟨ns, _, e⟩ := law_draws_ok (s := s) (k := k) (many := 150) (base := 27720) hk hs (by decide) (by decide) (by decide) st
  have e' : f_law_draws [.scr (s.map D.int), .int (k : Int), .int 150, .int 27720] st = .ok (.ref st.length) (st ++ [dZ ns]) := e
  exact ⟨ns, by simp [f_law_bag, b_law_bag, e']⟩
/-- small plans -/
structure Plan (a b : Nat) (p : Pl) : Prop where
  ok : OkP p
  things : p.1 ≤ a
  lots : p.2.length ≤ b
theorem asc_of_sub {m : Nat} {l : List Nat} (h : l.Sublist (List.range m)) : Asc m l :=
  ⟨List.pairwise_lt_range.sublist h, fun x hx => List.mem_range.mp (h.subset hx)⟩
theorem oAdd_lots {st : Sto} {a : List (List Nat)} {l : List Nat} (h : a.length ≤ 1000) : oAdd st (.tup (a.map dL)) (.tup [dL l]) = some (.tup ((a ++ [l]).map dL)) := by
  simp only [oAdd, List.length_map, List.length_singleton]
  rw [if_pos (by omega), List.map_append]
  rfl
theorem plan_ok {b a c : Nat} {st : Sto} (h : Bag b st) (ha : 0 < a) (ha10 : a ≤ 10) (hc : c ≤ 10) : ∃ p st', Plan a c p ∧ Drw b st st' ∧ f_law_plan [.ref b, dI a, dI c] st = .ok (dP p) st' := by
  obtain ⟨t0, st1, ht0, d1, e1⟩ := law_take_ok (m := a) h ha
  have h1 := d1.bag h
  obtain ⟨tc, st2, d, hd, d2, e2⟩ := law_choice_ok (xs := [dI 2, dI 2, dI 3]) h1 (by simp)
  have h2 := d2.bag h1
  obtain ⟨fw, hfw, rfl⟩ : ∃ fw : Nat, 0 < fw ∧ d = dI fw := by
    match tc, hd with
    | 0, hd => exact ⟨2, by decide, by simpa using hd.symm⟩
    | 1, hd => exact ⟨2, by decide, by simpa using hd.symm⟩
    | 2, hd => exact ⟨3, by decide, by simpa using hd.symm⟩
    | n + 3, hd => simp at hd
  obtain ⟨m, hm⟩ : ∃ m, m = t0 + 1 := ⟨_, rfl⟩
  obtain ⟨n, st3, hn, d3, e3⟩ := law_take_ok (m := c + 1) h2 (by omega)
  have h3 := d3.bag h2
  have loop := forGo_ix (g := gN 6) (b := sCons (sSet 4 (evOp oAdd (evVar 4) (evTup (eaCons (evB bTuple (eaCons (evLc [7] (itR1 (eaCons (evVar 3) eaNil)) (gN 7) (ebOf (evOp oEq (evCall 2 f_law_take (eaCons (evVar 0) (eaCons (evVar 5) eaNil))) (evC (.int 0)))) (evVar 7)) eaNil)) eaNil)))) sNil) dI
    (fun i ρ st' => ∃ (lots : List (List Nat)) (o6 o7 : Option D), lots.length = i ∧ (∀ l ∈ lots, Asc m l) ∧ Drw b st3 st' ∧ ρ = [some (.ref b), some (dI a), some (dI c), some (dI m), some (.tup (lots.map dL)), some (dI fw), o6, o7])
    (List.range n) 0 [some (.ref b), some (dI a), some (dI c), some (dI m), some (.tup []), some (dI fw), none, none] st3 ⟨[], none, none, rfl, (fun _ h => nomatch h), h3.refl, rfl⟩ (fun i x ρ st' hx hI => by
      obtain ⟨lots, o6, o7, hl, hasc, hdr, rfl⟩ := hI
      obtain ⟨hi, rfl⟩ := List.getElem?_eq_some_iff.mp hx
      rw [List.length_range] at hi
      rw [List.getElem_range]
      rw [Nat.zero_add] at hl ⊢
      have hb := hdr.bag h3
      obtain ⟨ys, st'', hsub, hd'', el⟩ := evLc_drw (b := b) (vs := [7]) (it := itR1 (eaCons (evVar 3) eaNil)) (g := gN 7) (t := ebOf (evOp oEq (evCall 2 f_law_take (eaCons (evVar 0) (eaCons (evVar 5) eaNil))) (evC (.int 0)))) (e := evVar 7)
        (ρ := [some (.ref b), some (dI a), some (dI c), some (dI m), some (.tup (lots.map dL)), some (dI fw), some (dI i), o7]) (st := st') dI (List.range m) (by simp [kIR1_nat (j := m) (by omega)]) (by simp; omega) hb (fun x _ st hb => by
          obtain ⟨t, st1, ht, hdr, et⟩ := law_take_ok (m := fw) hb hfw
          refine ⟨_, decide ((t : Int) = 0), st1, rfl, ?_, hdr, by simp⟩
          simp [et])
      refine ⟨_, [some (.ref b), some (dI a), some (dI c), some (dI m), some (.tup ((lots ++ [ys]).map dL)), some (dI fw), some (dI i), o7], st'', rfl, ?_, lots ++ [ys], some (dI i), o7, by simp [hl], fun l hl => ?_, hdr.trans hd'', rfl⟩
      · have dl : D.tup (ys.map dI) = dL ys := rfl
        have ap := oAdd_lots (st := st'') (a := lots) (l := ys) (by omega)
        have tl : evB bTuple (eaCons (evLc [7] (itR1 (eaCons (evVar 3) eaNil)) (gN 7) (ebOf (evOp oEq (evCall 2 f_law_take (eaCons (evVar 0) (eaCons (evVar 5) eaNil))) (evC (.int 0)))) (evVar 7)) eaNil) [some (.ref b), some (dI a), some (dI c), some (dI m), some (.tup (lots.map dL)), some (dI fw), some (dI i), o7] st' = .ok (dL ys) st'' := by
          rw [evB_ap, eaCons_ap, el]
          rfl
        generalize (lots ++ [ys]).map dL = L at ap ⊢
        simp [tl, ap]
      · rcases List.mem_append.mp hl with hl | hl
        · exact hasc l hl
        · rw [List.mem_singleton.mp hl]
          exact asc_of_sub hsub)
  obtain ⟨ρ', st', el, lots, o6, o7, hl, hasc, hdr, rfl⟩ := loop
  rw [Nat.zero_add, List.length_range] at hl
  refine ⟨(m, lots), st', ⟨⟨by show 1 ≤ m; omega, by show m ≤ 10; omega, by show lots.length ≤ 10; omega, hasc⟩, by show m ≤ a; omega, by show lots.length ≤ c; omega⟩, ((d1.trans d2).trans d3).trans hdr, ?_⟩
  have rg : kIR1 [dI n] st3 = _ := kIR1_nat (by omega)
  have e3' : f_law_take [.ref b, .int ((c : Int) + 1)] st2 = .ok (dI n) st3 := e3
  have e2' : f_law_choice [.ref b, .lst [.int 2, .int 2, .int 3]] st1 = .ok (dI fw) st2 := e2
  have a1 : (1 : Int) + (t0 : Int) = (m : Int) := by omega
  have len : st'.length = st.length := (((d1.trans d2).trans d3).trans hdr).len
  have el' : forGo (gN 6) (sCons (sSet 4 (evOp oAdd (evVar 4) (evTup (eaCons (evB bTuple (eaCons (evLc [7] (itR1 (eaCons (evVar 3) eaNil)) (gN 7) (ebOf (evOp oEq (evCall 2 f_law_take (eaCons (evVar 0) (eaCons (evVar 5) eaNil))) (evC (.int 0)))) (evVar 7)) eaNil)) eaNil)))) sNil) ((List.range n).map dI) [some (.ref b), some (dI a), some (dI c), some (.int ((1 : Int) + (t0 : Int))), some (.tup []), some (dI fw), none, none] st3 = .nx [some (.ref b), some (dI a), some (dI c), some (.int ((1 : Int) + (t0 : Int))), some (.tup (lots.map dL)), some (dI fw), o6, o7] st' := by
    rw [a1]; exact el
  simp [f_law_plan, b_law_plan, e1, e2', e3', rg, el', fnEnd_rt_of len]
  show D.tup [.int ((1 : Int) + (t0 : Int)), .tup (lots.map dL)] = dP (m, lots)
  rw [a1]
  rfl

theorem dZ_nat (l : List Nat) : l.map dI = dZ (l.map fun (n : Nat) => (n : Int)) := by
  unfold dZ
  rw [List.map_map]
  rfl
theorem rfrees_ints (l : List Nat) : rfrees (l.map dI) = true := by
  induction l with
  | nil => rfl
  | cons n l ih => exact ih
theorem rfrees_dZ (l : List Int) : rfrees (dZ l) = true := by
  induction l with
  | nil => rfl
  | cons n l ih => exact ih
/-- no mutable list stands in the store's lists -/
def Fr (st : Sto) : Prop := st.all rfrees = true
theorem Drw.fr {b : Nat} {st st1 : Sto} (h : Drw b st st1) (f : Fr st) : Fr st1 := by
  obtain ⟨ns, rfl⟩ := h
  unfold Fr at *
  rw [List.all_eq_true] at *
  intro x hx
  rcases List.mem_or_eq_of_mem_set hx with h | h
  · exact f x h
  · rw [h]; exact rfrees_dZ ns
theorem map_erase {α β : Type} (f : α → β) : ∀ (l : List α) (i : Nat), (l.map f).eraseIdx i = (l.eraseIdx i).map f
  | [], _ => rfl
  | x :: l, 0 => rfl
  | x :: l, i + 1 => by simp [map_erase f l i]
theorem erase_perm : ∀ (l : List Nat) (i : Nat) (h : i < l.length), (l[i] :: l.eraseIdx i).Perm l
  | x :: l, 0, _ => .refl _
  | x :: l, i + 1, h => by
    have ih := erase_perm l i (by simpa using h)
    exact (List.Perm.swap x _ _).trans (ih.cons x)
end Lw
set_option Elab.async false
set_option linter.all false
set_option maxRecDepth 100000
set_option maxHeartbeats 4000000
namespace Lw
open PySem Ip Lots

/-! ### loops that gather -/
theorem forGo_acc {α β : Type} {g : Tg} {b : Es} {st : Sto} (enc : α → D) (acc : List α → β) (I : β → Sl → Prop) (xs : List α) (ρ : Sl) (h0 : I (acc []) ρ)
    (hs : ∀ (pre : List α) (x : α) (ρ : Sl), x ∈ xs → pre.length < xs.length → (∀ y ∈ pre, y ∈ xs) → I (acc pre) ρ → ∃ ρ1 ρ2, g (enc x) ρ = some ρ1 ∧ b ρ1 st = .nx ρ2 st ∧ I (acc (pre ++ [x])) ρ2) :
    ∃ ρ', forGo g b (xs.map enc) ρ st = .nx ρ' st ∧ I (acc xs) ρ' := by
  obtain ⟨ρ', st', e1, rfl, e2⟩ := forGo_ix (g := g) (b := b) enc (fun i ρ st' => st' = st ∧ I (acc (xs.take i)) ρ) xs 0 ρ st ⟨rfl, h0⟩ fun i x ρ st' hx ⟨e1, e2⟩ => by
    subst e1
    rw [Nat.zero_add] at e2 ⊢
    obtain ⟨hi, rfl⟩ := List.getElem?_eq_some_iff.mp hx
    obtain ⟨ρ1, ρ2, h1, h2, h3⟩ := hs (xs.take i) xs[i] ρ (List.getElem_mem hi) (by rw [List.length_take]; omega) (fun y hy => List.mem_of_mem_take hy) e2
    refine ⟨ρ1, ρ2, st', h1, h2, rfl, ?_⟩
    rw [List.take_succ, hx]
    exact h3
  rw [Nat.zero_add, List.take_length] at e2
  exact ⟨ρ', e1, e2⟩
theorem dL_add {st : Sto} {a b : List Nat} (h : a.length + b.length ≤ 1000) : oAdd st (dL a) (dL b) = some (dL (a ++ b)) := by
  unfold dL
  simp only [oAdd, List.length_map]
  rw [if_pos (by omega), List.map_append]
theorem lst_add {st : Sto} {a b : List D} (h : a.length + b.length ≤ 1000000) : oAdd st (.lst a) (.lst b) = some (.lst (a ++ b)) := by
  simp only [oAdd, itemsR]
  rw [if_pos h]
@[simp] theorem oNotIn_ints {st : Sto} {a : Nat} {l : List Nat} : oNotIn st (dI a) (.lst (l.map dI)) = some (.bl (decide (a ∉ l))) := by
  unfold oNotIn
  simp [inD_ints, items]
theorem okD_lst {xs : List D} (h : okSs xs = true) (hd : ∀ x ∈ xs, (py x).depth ≤ 60) : okD (.lst xs) = true := by
  unfold okD
  have e : okS (.lst xs) = true := h
  rw [e, Bool.true_and, decide_eq_true_eq]
  show (PyData.list (pys xs)).depth ≤ 64
  rw [depth_lst, pys_map]
  have : PyData.depthAll (xs.map py) ≤ 60 := depthAll_le fun x hx => by
    obtain ⟨n, hn, rfl⟩ := List.mem_map.mp hx
    exact hd n hn
  omega
theorem eqD_nilr {xs : List D} : eqD (.lst xs) (.lst []) = decide (xs = []) := by
  show PyData.eqv (.list (pys xs)) (.list []) = _
  rw [PyData.eqv]
  cases xs with
  | nil => simp [pys, PyData.eqvAll]
  | cons x xs => simp [pys, PyData.eqvAll]
theorem oEq_nilr {st : Sto} {xs : List D} (h : okSs xs = true) (hd : ∀ x ∈ xs, (py x).depth ≤ 60) : oEq st (.lst xs) (.lst []) = some (.bl (decide (xs = []))) := by
  simp [oEq, okD_lst h hd, okD_nil, eqD_nilr]
theorem oNe_nilr {st : Sto} {xs : List D} (h : okSs xs = true) (hd : ∀ x ∈ xs, (py x).depth ≤ 60) : oNe st (.lst xs) (.lst []) = some (.bl (!decide (xs = []))) := by
  simp [oNe, okD_lst h hd, okD_nil, eqD_nilr]
theorem oEq_nilN {st : Sto} {l : List Nat} : oEq st (.lst (l.map dI)) (.lst []) = some (.bl (decide (l = []))) := by
  rw [oEq_nilr okSs_ints fun x hx => ?_]
  · simp
  · obtain ⟨n, _, rfl⟩ := List.mem_map.mp hx
    show (PyData.int n).depth ≤ 60
    simp [PyData.depth]
theorem eqD_refl {d : D} (h : okS d = true) : eqD d d = true := PySem.SeqAt.eqv_refl (py d) (okS_lay h)
/-! ### what the laws count for themselves -/
theorem law_cases_ok {m : Nat} (hm : m ≤ 10) (k : Nat) (st : Sto) : f_law_cases [dI m, dI k] st = .ok (.lst ((cases m k).map dL)) st := cases_of_ok hm k st
def viewA (c : List Nat) (pre : List (List Nat × Nat)) : List Nat := (pre.filter fun q => !decide ((q.1.filter fun t => decide (t ∈ c)) = [])).map (·.2)
theorem viewA_add (c : List Nat) (pre : List (List Nat × Nat)) (q : List Nat × Nat) : viewA c (pre ++ [q]) = viewA c pre ++ (if (q.1.filter fun t => decide (t ∈ c)) = [] then [] else [q.2]) := by
  unfold viewA
  rw [List.filter_append, List.map_append]
  by_cases h : (q.1.filter fun t => decide (t ∈ c)) = []
  · rw [if_pos h, List.filter_cons_of_neg (by rw [decide_eq_true h]; decide)]; rfl
  · rw [if_neg h, List.filter_cons_of_pos (by rw [decide_eq_false h]; decide)]; rfl
theorem viewA_len (c : List Nat) (pre : List (List Nat × Nat)) : (viewA c pre).length ≤ pre.length := by
  unfold viewA
  rw [List.length_map]; exact List.length_filter_le _ _
theorem viewA_eq (p : Pl) (c : List Nat) : viewA c p.2.zipIdx = view p c := by
  unfold view viewA
  congr 1
  refine List.filter_congr fun q _ => ?_
  rw [Bool.eq_iff_iff]
  simp [List.filter_eq_nil_iff]
theorem law_view_ok {p : Pl} (h : OkP p) (c : List Nat) (st : Sto) : f_law_view [dP p, dL c] st = .ok (dL (view p c)) st := by
  obtain ⟨ρ', e1, o3, o4, o5, rfl⟩ := forGo_acc (st := st) (g := gT 2 (gsCons (gN 3) (gsCons (gN 4) gsNil))) (b := sCons (sIf (ebOf (evOp oNe (evLc [5] (itVal (evVar 4)) (gN 5) (ebOf (evOp oIn (evVar 5) (evVar 1))) (evVar 5)) (evL (elDisp eaNil)))) (sCons (sSet 2 (evOp oAdd (evVar 2) (evTup (eaCons (evVar 3) eaNil)))) sNil) sNil) sNil) encL
    (viewA c) (fun l ρ => ∃ o3 o4 o5, ρ = [some (dP p), some (dL c), some (dL l), o3, o4, o5]) p.2.zipIdx [some (dP p), some (dL c), some (dL []), none, none, none] ⟨none, none, none, rfl⟩ (fun pre q ρ hq hl _ hI => by
      obtain ⟨o3, o4, o5, rfl⟩ := hI
      have hlen := (h.asc q.1 (List.fst_mem_of_mem_zipIdx hq)).len
      have := h.ten
      have := h.lots
      rw [List.length_zipIdx] at hl
      have ll := viewA_len c pre
      rw [viewA_add]
      generalize viewA c pre = L at ll
      have c1 : evLc [5] (itVal (evVar 4)) (gN 5) (ebOf (evOp oIn (evVar 5) (evVar 1))) (evVar 5) [some (dP p), some (dL c), some (dL L), some (dI q.2), some (dL q.1), o5] st = .ok (.lst ((q.1.filter fun t => decide (t ∈ c)).map dI)) st :=
        evLc_id dI _ _ (by simp) (by omega) fun t _ => ⟨_, rfl, by simp, by simp⟩
      have ad : oAdd st (dL L) (.tup [dI q.2]) = some (dL (L ++ [q.2])) := dL_add (a := L) (b := [q.2]) (by simp; omega)
      have ne := oNe_nil (st := st) (l := q.1.filter fun t => decide (t ∈ c))
      generalize (q.1.filter fun t => decide (t ∈ c)) = F at c1 ne
      generalize F.map dI = FL at c1 ne
      by_cases hf : F = []
      · subst hf
        refine ⟨_, [some (dP p), some (dL c), some (dL L), some (dI q.2), some (dL q.1), o5], rfl, ?_, some (dI q.2), some (dL q.1), o5, ?_⟩
        · simp [c1, ne]
        · rw [if_pos rfl, List.append_nil]
      · rw [if_neg hf]
        refine ⟨_, [some (dP p), some (dL c), some (dL (L ++ [q.2])), some (dI q.2), some (dL q.1), o5], rfl, ?_, some (dI q.2), some (dL q.1), o5, rfl⟩
        simp [c1, ne, hf, ad])
  rw [viewA_eq] at e1
  have z : (dL [] : D) = .tup [] := rfl
  rw [z] at e1
  simp [f_law_view, b_law_view, pairN_lots, e1]
def goodA (v : List Nat) (pre : List (List Nat × Nat)) : List Nat := pre.flatMap fun q => if q.2 ∈ v then [] else q.1
theorem goodA_add (v : List Nat) (pre : List (List Nat × Nat)) (q : List Nat × Nat) : goodA v (pre ++ [q]) = goodA v pre ++ (if q.2 ∈ v then [] else q.1) := by
  unfold goodA
  rw [List.flatMap_append]
  simp
theorem goodA_len (v : List Nat) : ∀ (pre : List (List Nat × Nat)), (∀ q ∈ pre, q.1.length ≤ 10) → (goodA v pre).length ≤ pre.length * 10
  | [], _ => by simp [goodA]
  | q :: pre, h => by
    have h1 := goodA_len v pre fun q hq => h q (List.mem_cons_of_mem _ hq)
    have h2 := h q (List.mem_cons_self ..)
    unfold goodA at *
    rw [List.flatMap_cons, List.length_append, List.length_cons]
    generalize (pre.flatMap fun q => if q.2 ∈ v then [] else q.1) = G at h1 ⊢
    split
    · show 0 + G.length ≤ _
      omega
    · omega
theorem goodA_mem {v : List Nat} {p : Pl} {t : Nat} : t ∈ goodA v p.2.zipIdx ↔ ∃ n l, p.2[n]? = some l ∧ n ∉ v ∧ t ∈ l := by
  unfold goodA
  rw [List.mem_flatMap]
  constructor
  · rintro ⟨q, hq, ht⟩
    by_cases h : q.2 ∈ v
    · rw [if_pos h] at ht; cases ht
    · rw [if_neg h] at ht
      exact ⟨q.2, q.1, zip_mem.mp hq, h, ht⟩
  · rintro ⟨n, l, h1, h2, h3⟩
    exact ⟨(l, n), zip_mem.mpr h1, by rw [if_neg h2]; exact h3⟩
theorem susp_eq (p : Pl) (v : List Nat) : (List.range p.1).filter (fun t => decide (t ∉ goodA v p.2.zipIdx)) = susp p v := by
  unfold susp
  refine List.filter_congr fun t _ => ?_
  rw [Bool.eq_iff_iff, decide_eq_true_eq, goodA_mem, List.all_eq_true]
  constructor
  · intro h n hn
    obtain ⟨l, h1, h2⟩ := lots_mem.mp hn
    rw [decide_eq_true_eq]
    exact Classical.byContradiction fun hv => h ⟨n, l, h1, hv, h2⟩
  · rintro h ⟨n, l, h1, h2, h3⟩
    exact h2 (decide_eq_true_eq.mp (h n (lots_mem.mpr ⟨l, h1, h3⟩)))
theorem bList_dL {st : Sto} {l : List Nat} : bList st [dL l] = some (.lst (l.map dI)) := Eq.trans rfl rfl
theorem law_suspects_ok {p : Pl} (h : OkP p) (v : List Nat) (st : Sto) : f_law_suspects [dP p, dL v] st = .ok (dL (susp p v)) st := by
  obtain ⟨ρ', e1, o3, o4, rfl⟩ := forGo_acc (st := st) (g := gT 2 (gsCons (gN 3) (gsCons (gN 4) gsNil))) (b := sCons (sSet 2 (evOp oAdd (evVar 2) (evIf (ebOf (evOp oIn (evVar 3) (evVar 1))) (evL (elDisp eaNil)) (evB bList (eaCons (evVar 4) eaNil))))) sNil) encL
    (goodA v) (fun l ρ => ∃ o3 o4, ρ = [some (dP p), some (dL v), some (.lst (l.map dI)), o3, o4, none]) p.2.zipIdx [some (dP p), some (dL v), some (.lst []), none, none, none] ⟨none, none, rfl⟩ (fun pre q ρ hq hl hp hI => by
      obtain ⟨o3, o4, rfl⟩ := hI
      have hlen := (h.asc q.1 (List.fst_mem_of_mem_zipIdx hq)).len
      have h10 := h.ten
      have := h.lots
      rw [List.length_zipIdx] at hl
      have ll := goodA_len v pre fun q hq => by
        have := (h.asc q.1 (List.fst_mem_of_mem_zipIdx (hp q hq))).len
        omega
      rw [goodA_add]
      generalize goodA v pre = L at ll
      have ad : ∀ l : List Nat, l.length ≤ 10 → oAdd st (.lst (L.map dI)) (.lst (l.map dI)) = some (.lst ((L ++ l).map dI)) := fun l hl => by
        rw [lst_add (by simp; omega), List.map_append]
      have a0 : oAdd st (.lst (L.map dI)) (.lst []) = some (.lst ((L ++ []).map dI)) := ad [] (by simp)
      have a1 := ad q.1 (by omega)
      by_cases hv : q.2 ∈ v
      · refine ⟨_, [some (dP p), some (dL v), some (.lst ((L ++ []).map dI)), some (dI q.2), some (dL q.1), none], rfl, ?_, some (dI q.2), some (dL q.1), by rw [if_pos hv]⟩
        generalize (L ++ []).map dI = M at a0 ⊢
        simp [hv, a0]
      · refine ⟨_, [some (dP p), some (dL v), some (.lst ((L ++ q.1).map dI)), some (dI q.2), some (dL q.1), none], rfl, ?_, some (dI q.2), some (dL q.1), by rw [if_neg hv]⟩
        generalize (L ++ q.1).map dI = M at a1 ⊢
        simp [hv, bList_dL, a1])
  have c1 : evLc [5] (itR1 (eaCons (evOp oIx (evVar 0) (evC (.int 0))) eaNil)) (gN 5) (ebOf (evOp oNotIn (evVar 5) (evVar 2))) (evVar 5) [some (dP p), some (dL v), some (.lst ((goodA v p.2.zipIdx).map dI)), o3, o4, none] st = .ok (.lst (((List.range p.1).filter fun t => decide (t ∉ goodA v p.2.zipIdx)).map dI)) st :=
    evLc_id dI _ _ (by have r : kIR1 [dI p.1] st = _ := kIR1_nat (by have := h.ten; omega)
                       simp [r]) (by have := h.ten; simp; omega) fun t _ => ⟨_, rfl, by simp, by simp⟩
  rw [susp_eq] at c1
  have d1 := tupLc c1
  have e : D.tup ((susp p v).map dI) = dL (susp p v) := rfl
  rw [e] at d1
  simp [f_law_suspects, b_law_suspects, pairN_lots, e1, d1]
def leftA (t : Nat) (o : List Nat) (pre : List (List Nat)) : Nat := (pre.filter fun l => decide (t ∈ l) && decide ((o.filter fun u => decide (u ∈ l)) = [])).length
theorem leftA_add (t : Nat) (o : List Nat) (pre : List (List Nat)) (l : List Nat) : leftA t o (pre ++ [l]) = leftA t o pre + (if (decide (t ∈ l) && decide ((o.filter fun u => decide (u ∈ l)) = [])) = true then 1 else 0) := by
  unfold leftA
  rw [List.filter_append, List.length_append]
  congr 1
  by_cases h : (decide (t ∈ l) && decide ((o.filter fun u => decide (u ∈ l)) = [])) = true
  · rw [if_pos h, List.filter_cons_of_pos (p := fun l => decide (t ∈ l) && decide ((o.filter fun u => decide (u ∈ l)) = [])) h]; rfl
  · rw [if_neg h, List.filter_cons_of_neg (p := fun l => decide (t ∈ l) && decide ((o.filter fun u => decide (u ∈ l)) = [])) h]; rfl
theorem leftA_eq (p : Pl) (t : Nat) (o : List Nat) : leftA t o p.2 = left p t o := by
  unfold leftA left lotsOf
  rw [List.filter_map, List.length_map, List.filter_filter]
  have z : p.2 = p.2.zipIdx.map (·.1) := by rw [List.zipIdx_map_fst]
  conv => lhs; rw [z]
  rw [List.filter_map, List.length_map]
  congr 1
  refine List.filter_congr fun q hq => ?_
  have hg := zip_mem.mp hq
  rw [Bool.eq_iff_iff]
  simp only [Function.comp, Bool.and_eq_true, decide_eq_true_eq, Bool.not_eq_true', decide_eq_false_iff_not, List.filter_eq_nil_iff]
  rw [view_mem]
  constructor
  · rintro ⟨h1, h2⟩
    refine ⟨?_, h1⟩
    rintro ⟨l, h3, u, h4, h5⟩
    rw [hg] at h3
    cases h3
    exact h2 u h5 h4
  · rintro ⟨h1, h2⟩
    exact ⟨h2, fun u hu hl => h1 ⟨q.1, hg, u, hl, hu⟩⟩
theorem law_left_ok {p : Pl} (h : OkP p) {o : List Nat} (ho : o.length ≤ 10) (t : Nat) (st : Sto) : f_law_left [dP p, dI t, dL o] st = .ok (dI (left p t o)) st := by
  obtain ⟨ρ', e1, o4, o5, rfl⟩ := forGo_acc (st := st) (g := gN 4) (b := sCons (sIf (ebAnd (ebOf (evOp oIn (evVar 1) (evVar 4))) (ebOf (evOp oEq (evLc [5] (itVal (evVar 2)) (gN 5) (ebOf (evOp oIn (evVar 5) (evVar 4))) (evVar 5)) (evL (elDisp eaNil))))) (sCons (sSet 3 (evOp oAdd (evVar 3) (evC (.int 1)))) sNil) sNil) sNil) dL
    (leftA t o) (fun n ρ => ∃ o4 o5, ρ = [some (dP p), some (dI t), some (dL o), some (dI n), o4, o5]) p.2 [some (dP p), some (dI t), some (dL o), some (dI 0), none, none] ⟨none, none, rfl⟩ (fun pre l ρ hq hl hp hI => by
      obtain ⟨o4, o5, rfl⟩ := hI
      rw [leftA_add]
      generalize leftA t o pre = N
      have c1 : evLc [5] (itVal (evVar 2)) (gN 5) (ebOf (evOp oIn (evVar 5) (evVar 4))) (evVar 5) [some (dP p), some (dI t), some (dL o), some (dI N), some (dL l), o5] st = .ok (.lst ((o.filter fun u => decide (u ∈ l)).map dI)) st :=
        evLc_id dI _ _ (by simp) (by omega) fun t _ => ⟨_, rfl, by simp, by simp⟩
      have ne := oEq_nilN (st := st) (l := o.filter fun u => decide (u ∈ l))
      generalize (o.filter fun u => decide (u ∈ l)) = F at c1 ne
      generalize F.map dI = FL at c1 ne
      refine ⟨_, [some (dP p), some (dI t), some (dL o), some (dI (N + (if (decide (t ∈ l) && decide (F = [])) = true then 1 else 0))), some (dL l), o5], rfl, ?_, some (dL l), o5, rfl⟩
      by_cases h1 : t ∈ l
      · by_cases h2 : F = []
        · subst h2
          simp [h1, c1, ne]
        · simp [h1, c1, ne, h2]
      · simp [h1])
  rw [leftA_eq] at e1
  have z : (dI 0 : D) = .int 0 := rfl
  rw [z] at e1
  simp [f_law_left, b_law_left, e1]
end Lw
set_option Elab.async false
set_option linter.all false
set_option maxRecDepth 100000
set_option maxHeartbeats 4000000
namespace Lw
open PySem Ip Lots

theorem forGo_accS {α β : Type} {g : Tg} {b : Es} (enc : α → D) (acc : List α → β) (I : β → Sl → Sto → Prop) (xs : List α) (ρ : Sl) (st : Sto) (h0 : I (acc []) ρ st)
    (hs : ∀ (pre : List α) (x : α) (ρ : Sl) (st : Sto), x ∈ xs → pre.length < xs.length → (∀ y ∈ pre, y ∈ xs) → I (acc pre) ρ st → ∃ ρ1 ρ2 st2, g (enc x) ρ = some ρ1 ∧ b ρ1 st = .nx ρ2 st2 ∧ I (acc (pre ++ [x])) ρ2 st2) :
    ∃ ρ' st', forGo g b (xs.map enc) ρ st = .nx ρ' st' ∧ I (acc xs) ρ' st' := by
  obtain ⟨ρ', st', e1, e2⟩ := forGo_ix (g := g) (b := b) enc (fun i ρ st' => I (acc (xs.take i)) ρ st') xs 0 ρ st h0 fun i x ρ st' hx e2 => by
    rw [Nat.zero_add] at e2 ⊢
    obtain ⟨hi, rfl⟩ := List.getElem?_eq_some_iff.mp hx
    obtain ⟨ρ1, ρ2, st2, h1, h2, h3⟩ := hs (xs.take i) xs[i] ρ st' (List.getElem_mem hi) (by rw [List.length_take]; omega) (fun y hy => List.mem_of_mem_take hy) e2
    refine ⟨ρ1, ρ2, st2, h1, h2, ?_⟩
    rw [List.take_succ, hx]
    exact h3
  rw [Nat.zero_add, List.take_length] at e2
  exact ⟨ρ', st', e1, e2⟩
/-! ### whether the plainest reading is right, counted anew -/
theorem left_zero {p : Pl} {t : Nat} {c : List Nat} : left p t c = 0 ↔ ∀ n ∈ lotsOf p t, n ∈ view p c := by
  unfold left
  rw [List.length_eq_zero_iff, List.filter_eq_nil_iff]
  simp
theorem susp_sub {p : Pl} {c : List Nat} {t : Nat} (ht : t < p.1) (hc : t ∈ c) : t ∈ susp p (view p c) := by
  rw [susp_mem]
  refine ⟨ht, fun n hn => ?_⟩
  obtain ⟨l, h1, h2⟩ := lots_mem.mp hn
  exact view_mem.mpr ⟨l, h1, t, h2, hc⟩
theorem susp_view {p : Pl} {k : Nat} {c : List Nat} (hc : c ∈ cases p.1 k) : susp p (view p c) = c ↔ ∀ t, ¬ Hid p k t c := by
  obtain ⟨ha, hk⟩ := cases_mem.mp hc
  constructor
  · rintro e t ⟨h1, h2, h3⟩
    have := (others_mem.mp h2).2.2
    refine this ?_
    have m : t ∈ susp p (view p c) := susp_mem.mpr ⟨h1, left_zero.mp h3⟩
    rw [e] at m
    exact m
  · intro h
    refine (susp_asc p (view p c)).ext ha fun t => ⟨fun ht => ?_, fun ht => susp_sub (ha.2 t ht) ht⟩
    obtain ⟨h1, h2⟩ := susp_mem.mp ht
    exact Classical.byContradiction fun hn => h t ⟨h1, others_mem.mpr ⟨ha, hk, hn⟩, left_zero.mpr h2⟩
theorem hid_reads {p : Pl} {k : Nat} : hid p k = none ↔ ∀ c ∈ cases p.1 k, susp p (view p c) = c := by
  rw [hid_none]
  constructor
  · intro h c hc
    exact (susp_view hc).mpr fun t => h t c
  · rintro h t c hh
    have hc : c ∈ cases p.1 k := by
      obtain ⟨_, h2, _⟩ := hh
      have := others_mem.mp h2
      exact cases_mem.mpr ⟨this.1, this.2.1⟩
    exact (susp_view hc).mp (h c hc) t hh
theorem law_reads_ok {p : Pl} (h : OkP p) {k : Nat} (st : Sto) : f_law_reads [dP p, dI k] st = .ok (.bl (isN (hid p k))) st := by
  have out := forGo_ret (st := st) (g := gN 2) (b := sCons (sIf (ebOf (evOp oNe (evCall 2 f_law_suspects (eaCons (evVar 0) (eaCons (evCall 2 f_law_view (eaCons (evVar 0) (eaCons (evVar 2) eaNil))) eaNil))) (evVar 2))) (sCons (sRet (evC (.bl false))) sNil) sNil) sNil) dL
    (fun ρ => ∃ o, ρ = [some (dP p), some (dI k), o]) (fun c => if susp p (view p c) = c then none else some (.bl false)) (cases p.1 k) [some (dP p), some (dI k), none] ⟨none, rfl⟩ (fun c ρ hc hI => by
      obtain ⟨o, rfl⟩ := hI
      refine ⟨_, rfl, ?_⟩
      by_cases e : susp p (view p c) = c
      · right
        refine ⟨if_pos e, [some (dP p), some (dI k), some (dL c)], ?_, some (dL c), rfl⟩
        simp [law_view_ok h, law_suspects_ok h, e]
      · left
        refine ⟨.bl false, if_neg e, ?_⟩
        simp [law_view_ok h, law_suspects_ok h, e])
  have lc : f_law_cases [dI p.1, dI k] st = .ok (.lst ((cases p.1 k).map dL)) st := law_cases_ok h.ten k st
  rcases out with ⟨d, h1, h2⟩ | ⟨h1, ρ', h2, o, rfl⟩
  · have hn : hid p k ≠ none := fun e => by
      have z := hid_reads.mp e
      obtain ⟨c, hc, hcd⟩ := List.exists_of_findSome?_eq_some h1
      rw [if_pos (z c hc)] at hcd
      cases hcd
    obtain ⟨c, hc, hcd⟩ := List.exists_of_findSome?_eq_some h1
    have hd : d = .bl false := by
      split at hcd
      · cases hcd
      · cases hcd; rfl
    subst hd
    have e : isN (hid p k) = false := by
      cases hh : hid p k with
      | none => exact absurd hh hn
      | some q => rfl
    rw [e]
    simp [f_law_reads, b_law_reads, lc, h2]
  · have e : hid p k = none := hid_reads.mpr fun c hc => by
      have := find_none.mp h1 c hc
      exact Classical.byContradiction fun z => by rw [if_neg z] at this; cases this
    rw [e]
    simp [f_law_reads, b_law_reads, lc, h2]
    rfl
/-! ### all pairs of a thing and others, sorted -/
def rowsT (p : Pl) (k : Nat) (ts : List Nat) : List (Nat × List Nat) := ts.flatMap fun t => ((cases p.1 k).filter fun c => decide (t ∉ c)).map fun c => (t, c)
def encT (q : Nat × List Nat) : D := .tup [dI q.2.length, dI q.1, dL q.2]
def leT (a b : Nat × List Nat) : Bool := leD (encT a) (encT b)
theorem depth_encT {q : Nat × List Nat} : (py (encT q)).depth ≤ 2 := by
  show (PyData.tuple [.int q.2.length, .int q.1, py (dL q.2)]).depth ≤ 2
  rw [depth_tup]
  have := depth_dL (l := q.2)
  simp [PyData.depthAll, PyData.depth]
  omega
@[simp] theorem okS_encT {q : Nat × List Nat} : okS (encT q) = true := by
  show (okS (dI q.2.length) && (okS (dI q.1) && (okS (dL q.2) && true))) = true
  simp
theorem pysI (l : List Nat) : pys (l.map dI) = (l.map fun (n : Nat) => (n : Int)).map PyData.int := by
  rw [pys_map, List.map_map, List.map_map]; rfl
theorem alike_dL (a b : List Nat) : PySem.W.alike (py (dL a)) (py (dL b)) = true := by
  show PySem.W.alike (.tuple (pys (a.map dI))) (.tuple (pys (b.map dI))) = true
  rw [pysI, pysI, PySem.W.alike]
  exact PySem.W.alike_ints _ _
theorem srt_encT {xs : List (Nat × List Nat)} : srtOk (xs.map encT) = true := by
  unfold srtOk
  simp only [Bool.and_eq_true, List.all_eq_true]
  refine ⟨⟨⟨okSs_map fun _ _ => okS_encT, ?_⟩, ?_⟩, ?_⟩
  · intro x hx y hy
    obtain ⟨a, _, rfl⟩ := List.mem_map.mp hx
    obtain ⟨b, _, rfl⟩ := List.mem_map.mp hy
    show PySem.W.alike (.tuple [.int a.2.length, .int a.1, py (dL a.2)]) (.tuple [.int b.2.length, .int b.1, py (dL b.2)]) = true
    have := alike_dL a.2 b.2
    simp [PySem.W.alike, PySem.W.alikeAll, this]
  · intro x hx
    obtain ⟨a, _, rfl⟩ := List.mem_map.mp hx
    rfl
  · intro x hx
    obtain ⟨a, _, rfl⟩ := List.mem_map.mp hx
    rw [decide_eq_true_eq]
    exact Nat.le_trans depth_encT (by decide)
theorem bSorted_encT {st : Sto} {n : Nat} {xs : List (Nat × List Nat)} (h : st[n]? = some (xs.map encT)) : bSorted st [.ref n] = some (.lst ((xs.mergeSort leT).map encT)) := by
  have e : bSorted st [.ref n] = (match st[n]? with
    | some xs => if srtOk xs = true then some (D.lst (xs.mergeSort leD)) else none
    | none => none) := rfl
  rw [e, h]
  dsimp only
  rw [srt_encT, if_pos rfl, ← List.map_mergeSort (r := leT) (s := leD) (f := encT) fun _ _ _ _ => rfl]
theorem rfree_encT {q : Nat × List Nat} : rfree (encT q) = true := by
  show (rfree (dI q.2.length) && (rfree (dI q.1) && (rfree (dL q.2) && true))) = true
  have e : rfree (dL q.2) = true := rfrees_ints q.2
  rw [e]
  rfl
end Lw
set_option Elab.async false
set_option linter.all false
set_option maxRecDepth 100000
set_option maxHeartbeats 4000000
namespace Lw
open PySem Ip Lots

theorem leT_iff {a b : Nat × List Nat} : leT a b = true ↔ a.2.length < b.2.length ∨ (a.2.length = b.2.length ∧ (a.1 < b.1 ∨ (a.1 = b.1 ∧ leL a.2 b.2 = true))) := by
  have e : leT a b = !PySem.W.dataLt (.tuple [.int b.2.length, .int b.1, py (dL b.2)]) (.tuple [.int a.2.length, .int a.1, py (dL a.2)]) := rfl
  have f : leL a.2 b.2 = !PySem.W.dataLt (py (dL b.2)) (py (dL a.2)) := rfl
  have ai : ∀ x y : Int, PySem.W.alike (.int x) (.int y) = true := fun x y => by simp [PySem.W.alike]
  have g : PyData.eqv (py (dL b.2)) (py (dL a.2)) = decide (b.2 = a.2) := eqD_dL
  rw [e, f, PySem.W.dataLt_tuple, PySem.W.dataLt_cons (ai _ _), PySem.W.dataLt_cons (ai _ _), PySem.W.dataLt_cons (alike_dL _ _), PySem.W.dataLt_int, PySem.W.dataLt_int, g]
  have ei : ∀ x y : Nat, PyData.eqv (.int x) (.int y) = decide (x = y) := fun x y => by
    simp only [PyData.eqv]
    rw [Bool.eq_iff_iff, beq_iff_eq, decide_eq_true_eq]
    omega
  rw [ei, ei]
  have z : PyProof.Rows.lexLt PyProof.Rows.itemOrd (PySem.W.keyToksAll []) (PySem.W.keyToksAll []) = false := PyProof.Rows.lex_irrefl _
  have zs : ∀ d : PyData, PySem.W.dataLt d d = false := fun d => PyProof.Rows.lex_irrefl _
  rw [z]
  by_cases h1 : b.2.length = a.2.length
  · rw [if_pos (by simpa using h1)]
    by_cases h2 : b.1 = a.1
    · rw [if_pos (by simpa using h2)]
      by_cases h3 : b.2 = a.2
      · rw [if_pos (by simpa using h3), h3, zs]
        simp [h2]
      · rw [if_neg (by simpa using h3)]
        simp [h1, h2]
    · rw [if_neg (by simpa using h2)]
      simp only [Bool.not_eq_true', decide_eq_false_iff_not]
      omega
  · rw [if_neg (by simpa using h1)]
    simp only [Bool.not_eq_true', decide_eq_false_iff_not]
    omega
theorem leL_refl (a : List Nat) : leL a a = true := by simpa using leL_total a a
theorem leT_trans (a b c : Nat × List Nat) (h1 : leT a b = true) (h2 : leT b c = true) : leT a c = true := by
  rw [leT_iff] at *
  rcases h1 with h1 | ⟨e1, h1 | ⟨e2, h1⟩⟩ <;> rcases h2 with h2 | ⟨e3, h2 | ⟨e4, h2⟩⟩
  all_goals first
    | (left; omega)
    | (right; refine ⟨by omega, ?_⟩; first
        | (left; omega)
        | (right; exact ⟨by omega, leL_trans _ _ _ h1 h2⟩))
theorem leT_total (a b : Nat × List Nat) : (leT a b || leT b a) = true := by
  rw [Bool.or_eq_true, leT_iff, leT_iff]
  have := leL_total a.2 b.2
  rw [Bool.or_eq_true] at this
  rcases Nat.lt_trichotomy a.2.length b.2.length with h | h | h
  · exact .inl (.inl h)
  · rcases Nat.lt_trichotomy a.1 b.1 with g | g | g
    · exact .inl (.inr ⟨h, .inl g⟩)
    · rcases this with k | k
      · exact .inl (.inr ⟨h, .inr ⟨g, k⟩⟩)
      · exact .inr (.inr ⟨h.symm, .inr ⟨g.symm, k⟩⟩)
    · exact .inr (.inr ⟨h.symm, .inl g⟩)
  · exact .inr (.inl h)
theorem leT_antisymm {a b : Nat × List Nat} (h1 : leT a b = true) (h2 : leT b a = true) : a = b := by
  rw [leT_iff] at *
  have e1 : a.1 = b.1 := by omega
  have e2 : leL a.2 b.2 = true := by
    rcases h1 with h1 | ⟨_, h1 | ⟨_, h1⟩⟩
    · omega
    · omega
    · exact h1
  have e3 : leL b.2 a.2 = true := by
    rcases h2 with h1 | ⟨_, h1 | ⟨_, h1⟩⟩
    · omega
    · omega
    · exact h1
  exact Prod.ext e1 (leL_antisymm e2 e3)
/-! ### the first of those that are hidden -/
def hidS (p : Pl) (b : Option (Nat × List Nat)) (q : Nat × List Nat) : Option (Nat × List Nat) := hid1 p q.1 b q.2
def pairsL (p : Pl) (k : Nat) : List (Nat × List Nat) := (List.range p.1).flatMap fun t => (others p t k).map fun c => (t, c)
theorem hid_pairs (p : Pl) (k : Nat) : hid p k = (pairsL p k).foldl (hidS p) none := by
  unfold hid pairsL
  rw [List.foldl_flatMap]
  congr 1
  funext b t
  rw [List.foldl_map]
  rfl
theorem hidS_some {p : Pl} {b : Option (Nat × List Nat)} {x : Nat × List Nat} : (hidS p b x = b ∧ (left p x.1 x.2 = 0 → ∃ r, b = some r ∧ r.2.length ≤ x.2.length)) ∨ (hidS p b x = some x ∧ left p x.1 x.2 = 0 ∧ ∀ r, b = some r → x.2.length < r.2.length) := by
  unfold hidS hid1
  by_cases h0 : left p x.1 x.2 = 0
  · rw [if_pos h0]
    cases b with
    | none => exact .inr ⟨rfl, h0, fun _ h => nomatch h⟩
    | some r =>
      dsimp only
      by_cases h : x.2.length < r.2.length
      · rw [if_pos h]
        exact .inr ⟨rfl, h0, fun r' h' => by cases h'; exact h⟩
      · rw [if_neg h]
        exact .inl ⟨rfl, fun _ => ⟨r, rfl, by omega⟩⟩
  · rw [if_neg h0]
    exact .inl ⟨rfl, fun h => absurd h h0⟩
theorem hid_first (p : Pl) : ∀ (L : List (Nat × List Nat)) (b : Option (Nat × List Nat)) (q : Nat × List Nat), L.foldl (hidS p) b = some q →
    (b = some q ∧ ∀ x ∈ L, left p x.1 x.2 = 0 → q.2.length ≤ x.2.length) ∨ ∃ pre post, L = pre ++ q :: post ∧ left p q.1 q.2 = 0 ∧ (∀ x ∈ pre, left p x.1 x.2 = 0 → q.2.length < x.2.length) ∧ (∀ x ∈ post, left p x.1 x.2 = 0 → q.2.length ≤ x.2.length) ∧ ∀ r, b = some r → q.2.length < r.2.length
  | [], b, q, h => .inl ⟨h, fun _ h => nomatch h⟩
  | x :: L, b, q, h => by
    rw [List.foldl_cons] at h
    rcases hid_first p L (hidS p b x) q h with ⟨h1, h2⟩ | ⟨pre, post, h1, h2, h3, h4, h5⟩
    · rcases hidS_some (p := p) (b := b) (x := x) with ⟨g1, g2⟩ | ⟨g1, g2, g3⟩
      · rw [g1] at h1
        refine .inl ⟨h1, fun y hy h0 => ?_⟩
        rcases List.mem_cons.mp hy with rfl | hy
        · obtain ⟨r, e, hr⟩ := g2 h0
          rw [h1] at e
          cases e
          exact hr
        · exact h2 y hy h0
      · rw [g1] at h1
        cases h1
        exact .inr ⟨[], L, rfl, g2, (fun _ h => nomatch h), h2, g3⟩
    · refine .inr ⟨x :: pre, post, by rw [h1]; rfl, h2, fun y hy h0 => ?_, h4, ?_⟩
      · rcases List.mem_cons.mp hy with rfl | hy
        · rcases hidS_some (p := p) (b := b) (x := y) with ⟨g1, g2⟩ | ⟨g1, g2, g3⟩
          · obtain ⟨r, e, hr⟩ := g2 h0
            exact Nat.lt_of_lt_of_le (h5 r (by rw [g1, e])) hr
          · exact h5 y g1
        · exact h3 y hy h0
      · intro r e
        rcases hidS_some (p := p) (b := b) (x := x) with ⟨g1, g2⟩ | ⟨g1, g2, g3⟩
        · exact h5 r (by rw [g1, e])
        · exact Nat.lt_trans (h5 x g1) (g3 r e)
theorem others_pw (p : Pl) (t k : Nat) : (others p t k).Pairwise fun a b => a.length < b.length ∨ (a.length = b.length ∧ leL a b = true) := by
  unfold others
  rw [List.pairwise_flatMap]
  refine ⟨fun n _ => ?_, ?_⟩
  · have h := ((cases_sorted p.1 k).filter fun c => !decide (t ∈ c)).filter fun c => decide (c.length = n)
    refine h.imp_of_mem fun {a b} ha hb hab => .inr ⟨?_, hab⟩
    rw [List.mem_filter, decide_eq_true_eq] at ha hb
    omega
  · refine List.pairwise_lt_range.imp fun {i j} hij => ?_
    intro a ha b hb
    rw [List.mem_filter, decide_eq_true_eq] at ha hb
    left
    omega
theorem pairs_pw (p : Pl) (k : Nat) : (pairsL p k).Pairwise fun a b => a.1 < b.1 ∨ (a.1 = b.1 ∧ (a.2.length < b.2.length ∨ (a.2.length = b.2.length ∧ leL a.2 b.2 = true))) := by
  unfold pairsL
  rw [List.pairwise_flatMap]
  refine ⟨fun t _ => ?_, ?_⟩
  · rw [List.pairwise_map]
    exact (others_pw p t k).imp fun h => .inr ⟨rfl, h⟩
  · refine List.pairwise_lt_range.imp fun {i j} hij => ?_
    intro a ha b hb
    obtain ⟨_, _, rfl⟩ := List.mem_map.mp ha
    obtain ⟨_, _, rfl⟩ := List.mem_map.mp hb
    exact .inl hij
theorem pairs_mem {p : Pl} {k : Nat} {q : Nat × List Nat} : q ∈ pairsL p k ↔ q.1 < p.1 ∧ q.2 ∈ others p q.1 k := by
  unfold pairsL
  simp only [List.mem_flatMap, List.mem_range, List.mem_map]
  constructor
  · rintro ⟨t, h1, c, h2, rfl⟩
    exact ⟨h1, h2⟩
  · rintro ⟨h1, h2⟩
    exact ⟨q.1, h1, q.2, h2, rfl⟩
theorem hid_least {p : Pl} {k : Nat} {q : Nat × List Nat} (h : hid p k = some q) : ∀ y ∈ pairsL p k, left p y.1 y.2 = 0 → leT q y = true := by
  rw [hid_pairs] at h
  rcases hid_first p _ _ _ h with ⟨h1, _⟩ | ⟨pre, post, h1, h2, h3, h4, _⟩
  · cases h1
  · intro y hy h0
    have pw := pairs_pw p k
    rw [h1, List.pairwise_append] at pw
    obtain ⟨_, pw, _⟩ := pw
    rw [List.pairwise_cons] at pw
    rw [leT_iff]
    rw [h1] at hy
    rcases List.mem_append.mp hy with hy | hy
    · exact .inl (h3 y hy h0)
    · rcases List.mem_cons.mp hy with rfl | hy
      · exact .inr ⟨rfl, .inr ⟨rfl, leL_refl _⟩⟩
      · have l := h4 y hy h0
        have o := pw.1 y hy
        by_cases hl : q.2.length < y.2.length
        · exact .inl hl
        · refine .inr ⟨by omega, ?_⟩
          rcases o with o | ⟨o1, o2 | ⟨_, o3⟩⟩
          · exact .inl o
          · omega
          · exact .inr ⟨o1, o3⟩
theorem rowsT_mem {p : Pl} {k : Nat} {q : Nat × List Nat} : q ∈ rowsT p k (List.range p.1) ↔ q ∈ pairsL p k := by
  rw [pairs_mem, others_mem]
  unfold rowsT
  simp only [List.mem_flatMap, List.mem_range, List.mem_map, List.mem_filter, decide_eq_true_eq, cases_mem]
  constructor
  · rintro ⟨t, h1, c, ⟨⟨h2, h3⟩, h4⟩, rfl⟩
    exact ⟨h1, h2, h3, h4⟩
  · rintro ⟨h1, h2, h3, h4⟩
    exact ⟨q.1, h1, q.2, ⟨⟨h2, h3⟩, h4⟩, rfl⟩
def sortT (p : Pl) (k : Nat) : List (Nat × List Nat) := (rowsT p k (List.range p.1)).mergeSort leT
def badT (p : Pl) (k : Nat) : List (Nat × List Nat) := (sortT p k).filter fun q => decide (left p q.1 q.2 = 0)
theorem sortT_mem {p : Pl} {k : Nat} {q : Nat × List Nat} : q ∈ sortT p k ↔ q ∈ pairsL p k := by
  unfold sortT
  rw [List.mem_mergeSort, rowsT_mem]
theorem badT_mem {p : Pl} {k : Nat} {q : Nat × List Nat} : q ∈ badT p k ↔ Hid p k q.1 q.2 := by
  unfold badT
  rw [List.mem_filter, sortT_mem, pairs_mem, decide_eq_true_eq]
  exact ⟨fun ⟨⟨a, b⟩, c⟩ => ⟨a, b, c⟩, fun ⟨a, b, c⟩ => ⟨⟨a, b⟩, c⟩⟩
theorem badT_head (p : Pl) (k : Nat) : (badT p k).head? = hid p k := by
  cases h : hid p k with
  | none =>
    have : badT p k = [] := List.eq_nil_iff_forall_not_mem.mpr fun q hq => hid_none.mp h q.1 q.2 (badT_mem.mp hq)
    rw [this]; rfl
  | some q =>
    have hq : q ∈ badT p k := badT_mem.mpr (hid_some h).1
    have pw : (badT p k).Pairwise fun a b => leT a b = true := (List.pairwise_mergeSort leT_trans leT_total _).filter _
    cases hb : badT p k with
    | nil => rw [hb] at hq; cases hq
    | cons x r =>
      rw [hb] at hq pw
      have hx : x ∈ badT p k := by rw [hb]; exact List.mem_cons_self ..
      have l1 : leT q x = true := by
        obtain ⟨a, b, c⟩ := badT_mem.mp hx
        exact hid_least h x (pairs_mem.mpr ⟨a, b⟩) c
      rcases List.mem_cons.mp hq with rfl | hq
      · rfl
      · rw [leT_antisymm l1 ((List.pairwise_cons.mp pw).1 q hq)]
        rfl
theorem lefts_min (p : Pl) (k : Nat) : minN ((sortT p k).map fun q => left p q.1 q.2) = minN (marL p k) := by
  refine minN_eq fun n => ?_
  rw [mar_mem, List.mem_map]
  constructor
  · rintro ⟨q, hq, rfl⟩
    obtain ⟨h1, h2⟩ := pairs_mem.mp (sortT_mem.mp hq)
    exact ⟨q.1, q.2, h1, h2, rfl⟩
  · rintro ⟨t, c, h1, h2, rfl⟩
    exact ⟨(t, c), sortT_mem.mpr (pairs_mem.mpr ⟨h1, h2⟩), rfl⟩
end Lw
set_option Elab.async false
set_option linter.all false
set_option maxRecDepth 100000
set_option maxHeartbeats 4000000
namespace Lw
open PySem Ip Lots

theorem rows1 (p : Pl) (k : Nat) (ts : List Nat) (t : Nat) : rowsT p k (ts ++ [t]) = rowsT p k ts ++ (((cases p.1 k).filter fun c => decide (t ∉ c)).map fun c => (t, c)) := by
  unfold rowsT
  rw [List.flatMap_append]
  simp
theorem rowsT_len {p : Pl} {k : Nat} (h : p.1 ≤ 10) : ∀ ts : List Nat, (rowsT p k ts).length ≤ ts.length * 1024
  | [] => by simp [rowsT]
  | t :: ts => by
    have h1 := rowsT_len (k := k) h ts
    have h2 := List.length_filter_le (fun c : List Nat => decide (t ∉ c)) (cases p.1 k)
    have h3 := cases_len (k := k) h
    unfold rowsT at *
    rw [List.flatMap_cons, List.length_append, List.length_map, List.length_cons]
    omega
def rowC (t : Nat) (pre : List (List Nat)) : List (Nat × List Nat) := (pre.filter fun c => decide (t ∉ c)).map fun c => (t, c)
theorem rowC_add (t : Nat) (pre : List (List Nat)) (c : List Nat) : rowC t (pre ++ [c]) = rowC t pre ++ (if t ∈ c then [] else [(t, c)]) := by
  unfold rowC
  rw [List.filter_append, List.map_append]
  congr 1
  by_cases hm : t ∈ c
  · rw [if_pos hm, List.filter_cons_of_neg (by simpa using hm)]; rfl
  · rw [if_neg hm, List.filter_cons_of_pos (by simpa using hm)]; rfl
theorem rowC_len (t : Nat) (pre : List (List Nat)) : (rowC t pre).length ≤ pre.length := by
  unfold rowC
  rw [List.length_map]
  exact List.length_filter_le _ _
theorem set_last {α : Type} (st : List α) (x y : α) : (st ++ [x]).set st.length y = st ++ [y] := by
  rw [List.set_append_right _ _ (Nat.le_refl _), Nat.sub_self]
  rfl
theorem get_last {α : Type} (st : List α) (x : α) : (st ++ [x])[st.length]? = some x := by
  rw [List.getElem?_append_right (Nat.le_refl _), Nat.sub_self]
  rfl
theorem app_last {st : Sto} {L : List D} {d : D} (h : L.length < 1000000) : mApp (st ++ [L]) st.length [d] = .ok .non (st ++ [L ++ [d]]) := by
  unfold mApp
  rw [get_last]
  dsimp only
  rw [if_pos h, set_last]
theorem end_last {st : Sto} {L : List D} {d : D} (hf : Fr st) (hd : rfree d = true) (hr : ∀ n, d ≠ .ref n) : fnEnd false st.length (.rt d (st ++ [L])) = .ok d st := by
  have hl : (st ++ [L]).length = st.length + 1 := by simp
  have cs : cutSt st.length (st ++ [L]) = some st := by
    unfold cutSt
    rw [if_neg (by omega), List.take_left, if_pos ⟨by omega, hf⟩]
  have cv : cutVal st.length (st ++ [L]) d = some d := by
    unfold cutVal
    rw [if_neg (by omega)]
    cases d with
    | ref n => exact absurd rfl (hr n)
    | _ => exact if_pos hd
  unfold fnEnd
  dsimp only
  rw [cv, cs]
  rfl
theorem rfrees_map {α : Type} {f : α → D} (h : ∀ x, rfree (f x) = true) : ∀ l : List α, rfrees (l.map f) = true
  | [] => rfl
  | x :: l => by
    show (rfree (f x) && rfrees (l.map f)) = true
    rw [h x, rfrees_map h l]
    rfl
theorem law_rows_ok {p : Pl} (h : OkP p) {k : Nat} {st : Sto} (hf : Fr st) : f_law_rows [dP p, dI k] st = .ok (.lst ((sortT p k).map encT)) st := by
  have inner : ∀ (ts : List Nat) (t : Nat) (o4 : Option D), ts.length < 10 → ∃ o4', forGo (gN 4) (sCons (sIf (ebOf (evOp oNotIn (evVar 3) (evVar 4))) (sCons (sExp (evMR mApp (evVar 2) (eaCons (evTup (eaCons (evB bLen (eaCons (evVar 4) eaNil)) (eaCons (evVar 3) (eaCons (evVar 4) eaNil)))) eaNil))) sNil) sNil) sNil)
      ((cases p.1 k).map dL) [some (dP p), some (dI k), some (.ref st.length), some (dI t), o4] (st ++ [(rowsT p k ts).map encT]) = .nx [some (dP p), some (dI k), some (.ref st.length), some (dI t), o4'] (st ++ [(rowsT p k (ts ++ [t])).map encT]) := fun ts t o4 hts => by
    obtain ⟨ρ', st', e1, o4', rfl, rfl⟩ := forGo_accS (g := gN 4) (b := sCons (sIf (ebOf (evOp oNotIn (evVar 3) (evVar 4))) (sCons (sExp (evMR mApp (evVar 2) (eaCons (evTup (eaCons (evB bLen (eaCons (evVar 4) eaNil)) (eaCons (evVar 3) (eaCons (evVar 4) eaNil)))) eaNil))) sNil) sNil) sNil) dL
      (fun pre => rowsT p k ts ++ rowC t pre) (fun l ρ s => ∃ o4, ρ = [some (dP p), some (dI k), some (.ref st.length), some (dI t), o4] ∧ s = st ++ [l.map encT]) (cases p.1 k) [some (dP p), some (dI k), some (.ref st.length), some (dI t), o4] (st ++ [(rowsT p k ts).map encT]) ⟨o4, rfl, by simp [rowC]⟩ (fun pre c ρ s hc hl _ hI => by
        obtain ⟨o4, rfl, rfl⟩ := hI
        have l1 := rowsT_len (k := k) h.ten ts
        have l2 := cases_len (k := k) h.ten
        have l3 := rowC_len t pre
        rw [rowC_add, ← List.append_assoc]
        have ll : (rowsT p k ts ++ rowC t pre).length < 100000 := by
          rw [List.length_append]
          omega
        generalize rowsT p k ts ++ rowC t pre = L at ll
        by_cases hm : t ∈ c
        · rw [if_pos hm]
          refine ⟨_, [some (dP p), some (dI k), some (.ref st.length), some (dI t), some (dL c)], st ++ [L.map encT], rfl, ?_, some (dL c), rfl, by rw [List.append_nil]⟩
          generalize st ++ [L.map encT] = sA
          simp [hm]
        · rw [if_neg hm]
          refine ⟨_, [some (dP p), some (dI k), some (.ref st.length), some (dI t), some (dL c)], st ++ [(L ++ [(t, c)]).map encT], rfl, ?_, some (dL c), rfl, rfl⟩
          have ap : mApp (st ++ [L.map encT]) st.length [.tup [.int c.length, dI t, dL c]] = .ok .non (st ++ [(L ++ [(t, c)]).map encT]) := by
            rw [app_last (by rw [List.length_map]; omega), List.map_append]
            rfl
          generalize st ++ [(L ++ [(t, c)]).map encT] = sB at ap ⊢
          generalize st ++ [L.map encT] = sA at ap ⊢
          simp [hm, ap])
    refine ⟨o4', ?_⟩
    rw [rows1]
    exact e1
  obtain ⟨ρ', st', e1, o3, o4, rfl, rfl⟩ := forGo_accS (g := gN 3) (b := sCons (sFor (itVal (evCall 2 f_law_cases (eaCons (evOp oIx (evVar 0) (evC (.int 0))) (eaCons (evVar 1) eaNil)))) (gN 4) (sCons (sIf (ebOf (evOp oNotIn (evVar 3) (evVar 4))) (sCons (sExp (evMR mApp (evVar 2) (eaCons (evTup (eaCons (evB bLen (eaCons (evVar 4) eaNil)) (eaCons (evVar 3) (eaCons (evVar 4) eaNil)))) eaNil))) sNil) sNil) sNil)) sNil) dI
    (rowsT p k) (fun l ρ s => ∃ o3 o4, ρ = [some (dP p), some (dI k), some (.ref st.length), o3, o4] ∧ s = st ++ [l.map encT]) (List.range p.1) [some (dP p), some (dI k), some (.ref st.length), none, none] (st ++ [[]]) ⟨none, none, rfl, rfl⟩ (fun pre t ρ s ht hl _ hI => by
      obtain ⟨o3, o4, rfl, rfl⟩ := hI
      rw [List.length_range] at hl
      obtain ⟨o4', e2⟩ := inner pre t o4 (by have := h.ten; omega)
      refine ⟨_, [some (dP p), some (dI k), some (.ref st.length), some (dI t), o4'], _, rfl, ?_, some (dI t), o4', rfl, rfl⟩
      generalize st ++ [(rowsT p k (pre ++ [t])).map encT] = sB at e2 ⊢
      generalize st ++ [(rowsT p k pre).map encT] = sA at e2 ⊢
      have lc : f_law_cases [dI p.1, dI k] sA = .ok (.lst ((cases p.1 k).map dL)) sA := law_cases_ok h.ten k sA
      simp [lc, e2])
  have bs := bSorted_encT (n := st.length) (get_last st ((rowsT p k (List.range p.1)).map encT))
  have z : (rowsT p k (List.range p.1)).mergeSort leT = sortT p k := rfl
  rw [z] at bs
  have fin := end_last (L := (rowsT p k (List.range p.1)).map encT) hf (d := .lst ((sortT p k).map encT)) (rfrees_map (fun _ => rfree_encT) _) (fun n e => nomatch e)
  have r : kIR1 [dI p.1] (st ++ [[]]) = _ := kIR1_nat (by have := h.ten; omega)
  generalize st ++ [(rowsT p k (List.range p.1)).map encT] = sB at e1 bs fin
  simp [f_law_rows, b_law_rows, r, e1, bs, fin]
end Lw
set_option Elab.async false
set_option linter.all false
set_option maxRecDepth 100000
set_option maxHeartbeats 4000000
namespace Lw
open PySem Ip Lots

def pr0 : Es := (sSet 1 (evL (elDisp eaNil)))
def pr1_0 : Es := (sSet 3 (evCall 2 f_law_rows (eaCons (evVar 0) (eaCons (evVar 2) eaNil))))
def pr1_1 : Es := (sSet 4 (evLc [7, 8, 9] (itVal (evVar 3)) (gT 3 (gsCons (gN 7) (gsCons (gN 8) (gsCons (gN 9) gsNil)))) ebYes (evCall 3 f_law_left (eaCons (evVar 0) (eaCons (evVar 8) (eaCons (evVar 9) eaNil))))))
def pr1_2 : Es := (sSet 5 (evLc [7, 8, 9, 10] (itZip (eaCons (evVar 3) (eaCons (evVar 4) eaNil))) (gT 2 (gsCons (gT 3 (gsCons (gN 7) (gsCons (gN 8) (gsCons (gN 9) gsNil)))) (gsCons (gN 10) gsNil))) (ebOf (evOp oEq (evVar 10) (evC (.int 0)))) (evTup (eaCons (evVar 8) (eaCons (evVar 9) eaNil)))))
def pr1_3 : Es := (sSet 6 (evCall 2 f_law_reads (eaCons (evVar 0) (eaCons (evVar 2) eaNil))))
def pr1_4 : Es := (sIf (ebOr (ebNot (ebOf (evCall 2 f_law_truly (eaCons (evCall 2 f_reads (eaCons (evVar 0) (eaCons (evVar 2) eaNil))) (eaCons (evVar 6) eaNil))))) (ebOf (evOp oNe (evVar 6) (evOp oEq (evVar 5) (evL (elDisp eaNil)))))) (sCons (sRet (evC (.bl false))) sNil) sNil)
def pr1_5 : Es := (sIf (ebOr (ebOf (evOp oNe (evCall 2 f_hidden (eaCons (evVar 0) (eaCons (evVar 2) eaNil))) (evIf (ebOf (evOp oNe (evVar 5) (evL (elDisp eaNil)))) (evOp oIx (evVar 5) (evC (.int 0))) (evC .non)))) (ebOf (evOp oNe (evCall 2 f_margin (eaCons (evVar 0) (eaCons (evVar 2) eaNil))) (evB bMin (eaCons (evVar 4) eaNil))))) (sCons (sRet (evC (.bl false))) sNil) sNil)
def pr1_6 : Es := (sSet 1 (evOp oAdd (evVar 1) (evIf (ebAnd (ebOf (evVar 6)) (ebOf (evOp oLe (evVar 2) (evOp oIx (evVar 0) (evC (.int 0)))))) (evL (elDisp (eaCons (evVar 2) eaNil))) (evL (elDisp eaNil)))))
def pr1_b : Es := (sCons pr1_0 (sCons pr1_1 (sCons pr1_2 (sCons pr1_3 (sCons pr1_4 (sCons pr1_5 (sCons pr1_6 sNil)))))))
def pr1 : Es := sFor (itR1 (eaCons (evOp oAdd (evOp oIx (evVar 0) (evC (.int 0))) (evC (.int 2))) eaNil)) (gN 2) pr1_b
def pr2 : Es := (sRet (evOp oEq (evCall 1 f_most_read (eaCons (evVar 0) eaNil)) (evIf (ebOf (evOp oNe (evVar 1) (evL (elDisp eaNil)))) (evOp oIx (evVar 1) (evNeg (evC (.int 1)))) (evC .non))))
def prb : Es := (sCons pr0 (sCons pr1 (sCons pr2 sNil)))
theorem preq : b_law_plan_right = prb := rfl
def encQ (q : Nat × List Nat) : D := .tup [dI q.1, dL q.2]
@[simp] theorem okS_encQ {q : Nat × List Nat} : okS (encQ q) = true := by
  show (okS (dI q.1) && (okS (dL q.2) && true)) = true
  simp
theorem depth_encQ {q : Nat × List Nat} : (py (encQ q)).depth ≤ 60 := by
  show (PyData.tuple [.int q.1, py (dL q.2)]).depth ≤ 60
  rw [depth_tup]
  have := depth_dL (l := q.2)
  simp [PyData.depthAll, PyData.depth]
  omega
theorem okD_of {d : D} (h : okS d = true) (hd : (py d).depth ≤ 60) : okD d = true := by
  unfold okD
  rw [h, Bool.true_and, decide_eq_true_eq]
  omega
theorem okS_encB (b : Option (Nat × List Nat)) : okS (encB b) = true := by
  cases b with
  | none => rfl
  | some q => exact okS_encQ
theorem okD_encB (b : Option (Nat × List Nat)) : okD (encB b) = true := by
  cases b with
  | none => rfl
  | some q => exact okD_of okS_encQ depth_encQ
theorem deref_encB {st : Sto} (b : Option (Nat × List Nat)) : deref st (encB b) = encB b := by cases b <;> rfl
theorem oNe_encB {st : Sto} (b : Option (Nat × List Nat)) : oNe st (encB b) (encB b) = some (.bl false) := by
  unfold oNe
  rw [deref_encB, okD_encB, if_pos ⟨rfl, rfl⟩, eqD_refl (okS_encB b)]
  rfl
theorem oEq_encM {st : Sto} (b : Option Nat) : oEq st (encM b) (encM b) = some (.bl true) := by
  cases b with
  | none => rfl
  | some n => simp [encM]
@[simp] theorem oEq_bl {st : Sto} {a b : Bool} : oEq st (.bl a) (.bl b) = some (.bl (decide (a = b))) := by cases a <;> cases b <;> rfl
@[simp] theorem oNe_bl {st : Sto} {a b : Bool} : oNe st (.bl a) (.bl b) = some (.bl (!decide (a = b))) := by cases a <;> cases b <;> rfl
theorem law_truly_ok {b : Bool} (st : Sto) : f_law_truly [.bl b, .bl b] st = .ok (.bl true) st := by
  have e : isD .bool (.bl b) = some true := Eq.trans rfl rfl
  simp [f_law_truly, b_law_truly, e]
theorem badT_nil {p : Pl} {k : Nat} : decide (badT p k = []) = isN (hid p k) := by
  rw [← badT_head]
  cases badT p k <;> rfl
def goodL (p : Pl) (pre : List Nat) : List Nat := pre.filter fun k => isN (hid p k) && decide (k ≤ p.1)
theorem goodL_add (p : Pl) (pre : List Nat) (k : Nat) : goodL p (pre ++ [k]) = goodL p pre ++ (if (isN (hid p k) && decide (k ≤ p.1)) = true then [k] else []) := by
  unfold goodL
  rw [List.filter_append]
  congr 1
  by_cases h : (isN (hid p k) && decide (k ≤ p.1)) = true
  · rw [if_pos h, List.filter_cons_of_pos (p := fun k => isN (hid p k) && decide (k ≤ p.1)) h]; rfl
  · rw [if_neg h, List.filter_cons_of_neg (p := fun k => isN (hid p k) && decide (k ≤ p.1)) h]; rfl
theorem goodL_all (p : Pl) : goodL p (List.range (p.1 + 2)) = readL p := by
  unfold goodL readL
  rw [List.range_succ, List.filter_append]
  have e : [p.1 + 1].filter (fun k => isN (hid p k) && decide (k ≤ p.1)) = [] := by
    rw [List.filter_cons_of_neg (by simp)]
    rfl
  rw [e, List.append_nil]
  refine List.filter_congr fun k hk => ?_
  have := List.mem_range.mp hk
  rw [decide_eq_true (by omega : k ≤ p.1), Bool.and_true]
theorem sortT_len {p : Pl} {k : Nat} (h : p.1 ≤ 10) : (sortT p k).length ≤ 10240 := by
  unfold sortT
  rw [List.length_mergeSort]
  have := rowsT_len (k := k) h (List.range p.1)
  rw [List.length_range] at this
  omega
theorem zipD_lst {xs ys : List D} : zipD [.lst xs, .lst ys] = some (pairZ xs ys) := Eq.trans rfl rfl
theorem pairZ_map {α : Type} (f g : α → D) (xs : List α) : pairZ (xs.map f) (xs.map g) = xs.map fun x => .tup [f x, g x] := by
  unfold pairZ
  rw [List.zip_map', List.map_map]
  rfl
theorem pr_turn {p : Pl} (h : OkP p) {st : Sto} (hf : Fr st) {k : Nat} (hk : k ≤ 10) (L : List Nat) (hL : L.length ≤ 1000) (o3 o4 o5 o6 : Option D) :
    ∃ o3' o4' o5' o6', pr1_b [some (dP p), some (.lst (L.map dI)), some (dI k), o3, o4, o5, o6, none, none, none, none] st = .nx [some (dP p), some (.lst ((L ++ (if (isN (hid p k) && decide (k ≤ p.1)) = true then [k] else [])).map dI)), some (dI k), o3', o4', o5', o6', none, none, none, none] st := by
  have h10 := h.ten
  have sl := sortT_len (k := k) h10
  obtain ⟨n, hn⟩ := minN_ex (mar_ne (k := k) h)
  have hn2 : minN ((sortT p k).map fun q => left p q.1 q.2) = some n := by rw [lefts_min, hn]
  refine ⟨some (.lst ((sortT p k).map encT)), some (.lst (((sortT p k).map fun q => left p q.1 q.2).map dI)), some (.lst ((badT p k).map encQ)), some (.bl (isN (hid p k))), ?_⟩
  have c1 : evLc [7, 8, 9] (itVal (evVar 3)) (gT 3 (gsCons (gN 7) (gsCons (gN 8) (gsCons (gN 9) gsNil)))) ebYes (evCall 3 f_law_left (eaCons (evVar 0) (eaCons (evVar 8) (eaCons (evVar 9) eaNil)))) [some (dP p), some (.lst (L.map dI)), some (dI k), some (.lst ((sortT p k).map encT)), o4, o5, o6, none, none, none, none] st
      = .ok (.lst ((sortT p k).map fun q => dI (left p q.1 q.2))) st :=
    evLc_map encT _ _ (by simp) (by omega) fun q hq => ⟨_, rfl, by
      have hl := ((others_mem.mp (pairs_mem.mp (sortT_mem.mp hq)).2).1).len
      simp [law_left_ok h (o := q.2) (by omega)]⟩
  have e1 : ((sortT p k).map fun q => dI (left p q.1 q.2)) = ((sortT p k).map fun q => left p q.1 q.2).map dI := by rw [List.map_map]; rfl
  have c2 : evLc [7, 8, 9, 10] (itZip (eaCons (evVar 3) (eaCons (evVar 4) eaNil))) (gT 2 (gsCons (gT 3 (gsCons (gN 7) (gsCons (gN 8) (gsCons (gN 9) gsNil)))) (gsCons (gN 10) gsNil))) (ebOf (evOp oEq (evVar 10) (evC (.int 0)))) (evTup (eaCons (evVar 8) (eaCons (evVar 9) eaNil))) [some (dP p), some (.lst (L.map dI)), some (dI k), some (.lst ((sortT p k).map encT)), some (.lst ((sortT p k).map fun q => dI (left p q.1 q.2))), o5, o6, none, none, none, none] st
      = .ok (.lst ((badT p k).map encQ)) st :=
    evLc_enc (fun q => .tup [encT q, dI (left p q.1 q.2)]) (fun q => decide (left p q.1 q.2 = 0)) encQ (sortT p k) (by simp [zipD_lst, pairZ_map]) (by omega) fun q hq => ⟨_, rfl, by simp, fun _ => by simp; rfl⟩
  have bn := oEq_nilr (st := st) (xs := (badT p k).map encQ) (okSs_map fun _ _ => okS_encQ) (fun x hx => by obtain ⟨q, _, rfl⟩ := List.mem_map.mp hx; exact depth_encQ)
  have bn2 := oNe_nilr (st := st) (xs := (badT p k).map encQ) (okSs_map fun _ _ => okS_encQ) (fun x hx => by obtain ⟨q, _, rfl⟩ := List.mem_map.mp hx; exact depth_encQ)
  have bz : decide ((badT p k).map encQ = []) = isN (hid p k) := by
    rw [← badT_nil]
    simp
  rw [bz] at bn bn2
  have hh : evIf (ebOf (evOp oNe (evVar 5) (evL (elDisp eaNil)))) (evOp oIx (evVar 5) (evC (.int 0))) (evC .non) [some (dP p), some (.lst (L.map dI)), some (dI k), some (.lst ((sortT p k).map encT)), some (.lst (((sortT p k).map fun q => left p q.1 q.2).map dI)), some (.lst ((badT p k).map encQ)), some (.bl (isN (hid p k))), none, none, none, none] st = .ok (encB (hid p k)) st := by
    have hd := badT_head p k
    cases hq : hid p k with
    | none =>
      rw [hq] at bn2
      have bn3 : oNe st (.lst ((badT p k).map encQ)) (.lst []) = some (.bl false) := bn2
      simp [bn3]
      rfl
    | some q =>
      rw [hq] at bn2 hd
      have bn3 : oNe st (.lst ((badT p k).map encQ)) (.lst []) = some (.bl true) := bn2
      have ix : oIx st (.lst ((badT p k).map encQ)) (.int 0) = some (encQ q) := by
        cases hb : badT p k with
        | nil => rw [hb] at hd; cases hd
        | cons x r =>
          rw [hb] at hd
          cases hd
          simp [oIx]
      simp [bn3, ix]
      rfl
  have lr := law_reads_ok h (k := k) st
  have rr := reads_ok h hk st
  have hi := hidden_ok h hk st
  have ma := margin_ok h hk hn st
  have mi := bMin_nat (st := st) hn2
  have lw := law_rows_ok h (k := k) hf
  have ne := oNe_encB (st := st) (hid p k)
  have lt := law_truly_ok (b := isN (hid p k)) st
  have ad : ∀ l : List Nat, l.length ≤ 10 → oAdd st (.lst (L.map dI)) (.lst (l.map dI)) = some (.lst ((L ++ l).map dI)) := fun l hl => by
    rw [lst_add (by simp; omega), List.map_append]
  have a0 : oAdd st (.lst (L.map dI)) (.lst []) = some (.lst ((L ++ []).map dI)) := ad [] (by simp)
  have a1 : oAdd st (.lst (L.map dI)) (.lst [dI k]) = some (.lst ((L ++ [k]).map dI)) := ad [k] (by simp)
  rw [e1] at c1 c2
  generalize isN (hid p k) = due at *
  generalize encB (hid p k) = hd at *
  generalize ((sortT p k).map fun q => left p q.1 q.2).map dI = lf at *
  generalize (badT p k).map encQ = bd at *
  generalize (sortT p k).map encT = so at *
  have s0 : pr1_0 [some (dP p), some (.lst (L.map dI)), some (dI k), o3, o4, o5, o6, none, none, none, none] st = .nx [some (dP p), some (.lst (L.map dI)), some (dI k), some (.lst so), o4, o5, o6, none, none, none, none] st := by
    simp [pr1_0, lw]
  have s1 : pr1_1 [some (dP p), some (.lst (L.map dI)), some (dI k), some (.lst so), o4, o5, o6, none, none, none, none] st = .nx [some (dP p), some (.lst (L.map dI)), some (dI k), some (.lst so), some (.lst lf), o5, o6, none, none, none, none] st := by
    simp [pr1_1, c1]
  have s2 : pr1_2 [some (dP p), some (.lst (L.map dI)), some (dI k), some (.lst so), some (.lst lf), o5, o6, none, none, none, none] st = .nx [some (dP p), some (.lst (L.map dI)), some (dI k), some (.lst so), some (.lst lf), some (.lst bd), o6, none, none, none, none] st := by
    simp [pr1_2, c2]
  have s3 : pr1_3 [some (dP p), some (.lst (L.map dI)), some (dI k), some (.lst so), some (.lst lf), some (.lst bd), o6, none, none, none, none] st = .nx [some (dP p), some (.lst (L.map dI)), some (dI k), some (.lst so), some (.lst lf), some (.lst bd), some (.bl due), none, none, none, none] st := by
    simp [pr1_3, lr]
  have s4 : pr1_4 [some (dP p), some (.lst (L.map dI)), some (dI k), some (.lst so), some (.lst lf), some (.lst bd), some (.bl due), none, none, none, none] st = .nx [some (dP p), some (.lst (L.map dI)), some (dI k), some (.lst so), some (.lst lf), some (.lst bd), some (.bl due), none, none, none, none] st := by
    simp [pr1_4, rr, lt, bn]
  have s5 : pr1_5 [some (dP p), some (.lst (L.map dI)), some (dI k), some (.lst so), some (.lst lf), some (.lst bd), some (.bl due), none, none, none, none] st = .nx [some (dP p), some (.lst (L.map dI)), some (dI k), some (.lst so), some (.lst lf), some (.lst bd), some (.bl due), none, none, none, none] st := by
    unfold pr1_5
    generalize evIf (ebOf (evOp oNe (evVar 5) (evL (elDisp eaNil)))) (evOp oIx (evVar 5) (evC (.int 0))) (evC .non) = EI at hh ⊢
    simp [hi, hh, ne, ma, mi]
  have s6 : pr1_6 [some (dP p), some (.lst (L.map dI)), some (dI k), some (.lst so), some (.lst lf), some (.lst bd), some (.bl due), none, none, none, none] st = .nx [some (dP p), some (.lst ((L ++ (if (due && decide (k ≤ p.1)) = true then [k] else [])).map dI)), some (dI k), some (.lst so), some (.lst lf), some (.lst bd), some (.bl due), none, none, none, none] st := by
    generalize L.map dI = LD at a0 a1 ⊢
    unfold pr1_6
    cases due with
    | false =>
      have z : (L ++ (if (false && decide (k ≤ p.1)) = true then [k] else [])).map dI = (L ++ []).map dI := rfl
      rw [z]
      generalize (L ++ []).map dI = M at a0 ⊢
      simp [a0]
    | true =>
      by_cases hkp : k ≤ p.1
      · have z : (L ++ (if (true && decide (k ≤ p.1)) = true then [k] else [])).map dI = (L ++ [k]).map dI := by rw [decide_eq_true hkp]; rfl
        rw [z]
        generalize (L ++ [k]).map dI = M at a1 ⊢
        simp [hkp, a1]
      · have z : (L ++ (if (true && decide (k ≤ p.1)) = true then [k] else [])).map dI = (L ++ []).map dI := by rw [decide_eq_false hkp]; rfl
        rw [z]
        generalize (L ++ []).map dI = M at a0 ⊢
        simp [hkp, a0]
  unfold pr1_b
  rw [sCons_ap, s0, RS.seq_nx, sCons_ap, s1, RS.seq_nx, sCons_ap, s2, RS.seq_nx, sCons_ap, s3, RS.seq_nx, sCons_ap, s4, RS.seq_nx, sCons_ap, s5, RS.seq_nx, sCons_ap, s6, RS.seq_nx, sNil_ap]
theorem law_plan_right_ok {p : Pl} (h : OkP p) (h9 : p.1 ≤ 9) {st : Sto} (hf : Fr st) : f_law_plan_right [dP p] st = .ok (.bl true) st := by
  obtain ⟨ρ', e1, o2, o3, o4, o5, o6, rfl⟩ := forGo_acc (st := st) (g := gN 2) (b := pr1_b) dI (goodL p) (fun l ρ => ∃ o2 o3 o4 o5 o6, ρ = [some (dP p), some (.lst (l.map dI)), o2, o3, o4, o5, o6, none, none, none, none]) (List.range (p.1 + 2))
    [some (dP p), some (.lst []), none, none, none, none, none, none, none, none, none] ⟨none, none, none, none, none, rfl⟩ (fun pre k ρ hk hl _ hI => by
      obtain ⟨o2, o3, o4, o5, o6, rfl⟩ := hI
      rw [List.length_range] at hl
      have := List.mem_range.mp hk
      have gl : (goodL p pre).length ≤ pre.length := List.length_filter_le _ _
      obtain ⟨o3', o4', o5', o6', e⟩ := pr_turn h hf (k := k) (by omega) (goodL p pre) (by omega) o3 o4 o5 o6
      rw [← goodL_add] at e
      exact ⟨_, _, rfl, e, _, _, _, _, _, rfl⟩)
  rw [goodL_all] at e1
  have r : kIR1 [.int ((p.1 : Int) + 2)] st = .ok ((List.range (p.1 + 2)).map dI) st := kIR1_nat (j := p.1 + 2) (by omega)
  have mr := most_read_ok h st
  have e2 : evIf (ebOf (evOp oNe (evVar 1) (evL (elDisp eaNil)))) (evOp oIx (evVar 1) (evNeg (evC (.int 1)))) (evC .non) [some (dP p), some (.lst ((readL p).map dI)), o2, o3, o4, o5, o6, none, none, none, none] st = .ok (encM (readL p).getLast?) st := by
    have nn := oNe_nil (st := st) (l := readL p)
    cases hl : (readL p).getLast? with
    | none =>
      have e : readL p = [] := List.getLast?_eq_none_iff.mp hl
      rw [e] at nn ⊢
      have n2 : oNe st (.lst []) (.lst []) = some (.bl false) := nn
      simp [n2]
      rfl
    | some n =>
      have e : readL p ≠ [] := fun z => by rw [z] at hl; cases hl
      simp [nn, e, oIx, atI_last, hl, encM]
  have qe := oEq_encM (st := st) (readL p).getLast?
  generalize encM (readL p).getLast? = mm at *
  generalize (readL p).map dI = rl at *
  unfold f_law_plan_right
  rw [preq]
  have s2 : pr2 [some (dP p), some (.lst rl), o2, o3, o4, o5, o6, none, none, none, none] st = .rt (.bl true) st := by
    unfold pr2
    generalize evIf (ebOf (evOp oNe (evVar 1) (evL (elDisp eaNil)))) (evOp oIx (evVar 1) (evNeg (evC (.int 1)))) (evC .non) = EI at e2 ⊢
    simp [mr, e2, qe]
  simp [prb, pr0, pr1, r, e1, s2]
end Lw
set_option Elab.async false
set_option linter.all false
set_option maxRecDepth 100000
set_option maxHeartbeats 4000000
namespace Lw
open PySem Ip Lots

/-! ### what is refused -/
@[simp] theorem lcGo_nil {g : Tg} {t : Eb} {e : Ev} {ρ : Sl} {st : Sto} : lcGo g t e ρ [] st = .ok [] st := Eq.trans rfl rfl
/-- plans that do not fit -/
def BadP (d : D) : Prop := ∀ st, f_fits_plan [d] st = .ok (.bl false) st
theorem BadP.need {d : D} (h : BadP d) (st : Sto) : f_need_plan [d] st = .exc "InvalidPlan" st := by
  have := h st
  simp [f_need_plan, b_need_plan, this]
theorem fnEnd_exc_of {c : Str} {k : Nat} {ρ : Sl} {st : Sto} (h : st.length = k) : fnEnd false k (.exc c ρ st) = .exc c st := by subst h; exact fnEnd_exc
/-- a def that raises at its first call -/
theorem first_exc {n m : Nat} {f : Fn} {g : Ea} {b : Es} {ds es : List D} {c : Str} {st : Sto} (hg : g (slots0 n ds) st = .ok es st) (hl : es.length = m) (hf : f es st = .exc c st) :
    fnRun false n (sCons (sExp (evCall m f g)) b) ds st = .exc c st := by
  have e : evCall m f g (slots0 n ds) st = .exc c st := by rw [evCall_ap, hg, R.bind_ok, kCall_0 hl, hf]
  have e2 : (sCons (sExp (evCall m f g)) b) (slots0 n ds) st = .exc c (slots0 n ds) st := by
    rw [sCons_ap]
    show ((evCall m f g (slots0 n ds) st).stm _ _).seq _ = _
    rw [e]; rfl
  rw [fnRun_ap, e2, fnEnd_exc]
theorem BadP.both {d x : D} (h : BadP d) (st : Sto) : f_need_both [d, x] st = .exc "InvalidPlan" st := first_exc (es := [d]) rfl rfl (h.need st)
theorem BadP.reads {d x : D} (h : BadP d) (st : Sto) : f_reads [d, x] st = .exc "InvalidPlan" st := first_exc (es := [d, x]) rfl rfl (h.both st)
theorem BadP.hidden {d x : D} (h : BadP d) (st : Sto) : f_hidden [d, x] st = .exc "InvalidPlan" st := first_exc (es := [d, x]) rfl rfl (h.both st)
theorem BadP.margin {d x : D} (h : BadP d) (st : Sto) : f_margin [d, x] st = .exc "InvalidPlan" st := first_exc (es := [d, x]) rfl rfl (h.both st)
theorem BadP.most {d : D} (h : BadP d) (st : Sto) : f_most_read [d] st = .exc "InvalidPlan" st := first_exc (es := [d]) rfl rfl (h.need st)
theorem BadP.tells {d x : D} (h : BadP d) (st : Sto) : f_tells [d, x] st = .exc "InvalidPlan" st := first_exc (es := [d, x]) rfl rfl (h.both st)
/-- the plans that the laws write -/
def badPs : List D :=
  [.non, .tup [], .tup [.int 1], .lst [.int 1, .tup []], .tup [.int 0, .tup []], .tup [.int 11, .tup []], .tup [.bl true, .tup []], .tup [.int 2, .lst []], .tup [.int 2, .tup [.tup [.int 0, .int 2]]], .tup [.int 2, .tup [.tup [.int 1, .int 0]]],
   .tup [.int 2, .tup [.tup [.int 0, .int 0]]], .tup [.int 2, .tup [.tup [.int (-1)]]], .tup [.int 2, .tup [.tup [.bl true]]], .tup [.int 2, .tup [.lst [.int 0]]], .tup [.int 2, .tup (List.replicate 11 (.tup []))], .tup [.int 2, .tup [.int 0, .int 1]],
   .tup [.int 2, .tup [], .tup []], .tup [.str "2", .tup []], .tup [.int 2, .str "ab"], .tup [.int 2, .tup [.tup [.int 0, .str "1"]]], .tup [.int 2, .non]]
theorem bad_plans (st : Sto) : f_law_bad_plans [] st = .ok (.lst badPs) st := by
  have e : b_law_bad_plans [none] st = .rt (.lst badPs) st := by kernel_rfl
  unfold f_law_bad_plans
  rw [fnRun_ap]
  have e0 : slots0 1 [] = ([none] : Sl) := rfl
  rw [e0, e, fnEnd_rt]
@[simp] theorem isD_tup {xs : List D} : isD .tuple (.tup xs) = some true := Eq.trans rfl rfl
inductive F2 {α β : Type} (R : α → β → Prop) : List α → List β → Prop where
  | nil : F2 R [] []
  | cons {x : α} {y : β} {xs : List α} {ys : List β} : R x y → F2 R xs ys → F2 R (x :: xs) (y :: ys)
theorem F2.imp {α β : Type} {R S : α → β → Prop} (h : ∀ x y, R x y → S x y) {xs : List α} {ys : List β} (z : F2 R xs ys) : F2 S xs ys := by
  induction z with
  | nil => exact .nil
  | cons a _ ih => exact .cons (h _ _ a) ih
theorem F2.len {α β : Type} {R : α → β → Prop} {xs : List α} {ys : List β} (z : F2 R xs ys) : xs.length = ys.length := by
  induction z with
  | nil => rfl
  | cons a _ ih => rw [List.length_cons, List.length_cons, ih]
theorem ers0_errs {c : Str} (h : c ∈ ers0) : c ∈ errs := by
  have z : ∀ c ∈ ers0, c ∈ errs := by decide +kernel
  exact z c h
theorem lcGo_cons {g : Tg} {t : Eb} {e : Ev} {ρ : Sl} {d : D} {ds : List D} {st : Sto} {ρ1 : Sl} (h : g d ρ = some ρ1) :
    lcGo g t e ρ (d :: ds) st = (t ρ1 st).noX.bind fun b st1 => if b = true then (e ρ1 st1).noX.bind fun y st2 => (lcGo g t e ρ ds st2).bind fun r st3 => .ok (y :: r) st3 else lcGo g t e ρ ds st1 := by
  rw [lcGo, h]
/-- one step of a comprehension without a filter -/
theorem lcGo_one {g : Tg} {e : Ev} {ρ ρ1 : Sl} {d y : D} {ds ys : List D} {st : Sto} (h : g d ρ = some ρ1) (he : e ρ1 st = .ok y st) (hs : lcGo g ebYes e ρ ds st = .ok ys st) : lcGo g ebYes e ρ (d :: ds) st = .ok (y :: ys) st := by
  rw [lcGo_cons h, ebYes_ap, noX_ok, R.bind_ok, if_pos rfl, he, noX_ok, R.bind_ok, hs, R.bind_ok]
/-- each of a list's items is judged: a comprehension of truths -/
theorem lcGo_bls {g : Tg} {e : Ev} {ρ : Sl} {st : Sto} {ds : List D} {bs : List Bool} (h : F2 (fun d b => ∃ ρ1, g d ρ = some ρ1 ∧ e ρ1 st = .ok (.bl b) st) ds bs) : lcGo g ebYes e ρ ds st = .ok (bs.map .bl) st := by
  induction h with
  | nil => rfl
  | cons h _ ih =>
    obtain ⟨ρ1, h1, h2⟩ := h
    exact lcGo_one h1 h2 ih
def IW (d : D) (lo hi : Int) (b : Bool) : Prop := ∀ st, f_is_whole [d, .int lo, .int hi] st = .ok (.bl b) st
theorem wh_int {v lo hi : Int} : IW (.int v) lo hi (decide (lo ≤ v) && decide (v ≤ hi)) := fun st => is_whole_int v lo hi st
theorem wh_odd {d : D} {lo hi : Int} (h : isD .int d = some false) : IW d lo hi false := fun st => by
  simp [f_is_whole, b_is_whole, h]
theorem wh_bl {b : Bool} {lo hi : Int} : IW (.bl b) lo hi false := fun st => by
  have e1 : isD .int (.bl b) = some true := Eq.trans rfl rfl
  have e2 : isD .bool (.bl b) = some true := Eq.trans rfl rfl
  simp [f_is_whole, b_is_whole, e1, e2]
def IR (d : D) (m : Int) (b : Bool) : Prop := ∀ st, f_is_rising [d, .int m] st = .ok (.bl b) st
theorem ir_odd {d : D} {m : Int} (h : isD .tuple d = some false) : IR d m false := fun st => by
  simp [f_is_rising, b_is_rising, h]
theorem ir_wh {l : List D} {m : Int} {bs : List Bool} (h : F2 (fun d b => IW d 0 (m - 1) b) l bs) (hl : l.length ≤ 1000) (hb : bs.all id = false) : IR (.tup l) m false := fun st => by
  have c1 : evLc [2] (itVal (evVar 0)) (gN 2) ebYes (evCall 3 f_is_whole (eaCons (evVar 2) (eaCons (evC (.int 0)) (eaCons (evOp oSub (evVar 1) (evC (.int 1))) eaNil)))) [some (.tup l), some (.int m), none, none] st = .ok (.lst (bs.map fun b => .bl (id b))) st := by
    rw [evLc_ap]
    have go : lcGo (gN 2) ebYes (evCall 3 f_is_whole (eaCons (evVar 2) (eaCons (evC (.int 0)) (eaCons (evOp oSub (evVar 1) (evC (.int 1))) eaNil)))) [some (.tup l), some (.int m), none, none] l st = .ok (bs.map .bl) st := lcGo_bls (h.imp fun d b z => ⟨[some (.tup l), some (.int m), some d, none], rfl, by
      have := z st
      simp [this]⟩)
    show (lcGo _ _ _ [some (.tup l), some (.int m), none, none] l st).bind _ = _
    rw [go, R.bind_ok, lcEnd_ok (by rw [List.length_map, ← h.len]; omega)]
    rfl
  have d1 := allLc c1 hb
  simp [f_is_rising, b_is_rising, d1]
theorem ir_two {m : Int} {a b : Int} (ha : 0 ≤ a ∧ a ≤ m - 1) (hb : 0 ≤ b ∧ b ≤ m - 1) (h : b ≤ a) : IR (.tup [.int a, .int b]) m false := fun st => by
  have c1 : evLc [2] (itVal (evVar 0)) (gN 2) ebYes (evCall 3 f_is_whole (eaCons (evVar 2) (eaCons (evC (.int 0)) (eaCons (evOp oSub (evVar 1) (evC (.int 1))) eaNil)))) [some (.tup [.int a, .int b]), some (.int m), none, none] st = .ok (.lst ([true, true].map fun b => .bl (id b))) st := by
    rw [evLc_ap]
    show (lcGo _ _ _ [some (.tup [.int a, .int b]), some (.int m), none, none] [.int a, .int b] st).bind _ = _
    rw [lcGo_bls (bs := [true, true]) (.cons ⟨_, rfl, by simp [ha.1, ha.2]⟩ (.cons ⟨_, rfl, by simp [hb.1, hb.2]⟩ .nil)), R.bind_ok, lcEnd_ok (by decide)]
    rfl
  have d1 := allLc c1 (b := true) rfl
  have c2 : evLc [2, 3] (itZip (eaCons (evVar 0) (eaCons (evSl (evVar 0) (eoSome (evC (.int 1))) eoNone) eaNil))) (gT 2 (gsCons (gN 2) (gsCons (gN 3) gsNil))) ebYes (evOp oLt (evVar 2) (evVar 3)) [some (.tup [.int a, .int b]), some (.int m), none, none] st = .ok (.lst ([false].map fun b => .bl (id b))) st := by
    rw [evLc_ap]
    have iz : itZip (eaCons (evVar 0) (eaCons (evSl (evVar 0) (eoSome (evC (.int 1))) eoNone) eaNil)) [some (.tup [.int a, .int b]), some (.int m), none, none] st = .ok [.tup [.int a, .int b]] st := rfl
    have w : wipeS [some (.tup [.int a, .int b]), some (.int m), none, none] [2, 3] = ([some (.tup [.int a, .int b]), some (.int m), none, none] : Sl) := rfl
    rw [iz, R.bind_ok, w, lcGo_bls (bs := [false]) (.cons ⟨_, rfl, by simp; omega⟩ .nil), R.bind_ok, lcEnd_ok (by decide)]
    rfl
  have d2 := allLc c2 (b := false) rfl
  simp [f_is_rising, b_is_rising, d1, d2]
theorem bad_1 {d : D} (h : isD .tuple d = some false) : BadP d := fun st => by
  simp [f_fits_plan, b_fits_plan, h]
theorem bad_2 {l : List D} (h : l.length ≠ 2) : BadP (.tup l) := fun st => by
  have e : decide ((l.length : Int) = 2) = false := decide_eq_false (by omega)
  simp [f_fits_plan, b_fits_plan, e]
theorem bad_3 {d x : D} (h : IW d 1 10 false) : BadP (.tup [d, x]) := fun st => by
  have e : oIx st (.tup [d, x]) (.int 0) = some d := Eq.trans rfl rfl
  have := h st
  simp [f_fits_plan, b_fits_plan, e, this]
theorem bad_4 {x : D} {m : Nat} (h1 : 1 ≤ m) (h2 : m ≤ 10) (h : isD .tuple x = some false) : BadP (.tup [dI m, x]) := fun st => by
  have e : oIx st (.tup [.int (m : Int), x]) (.int 0) = some (dI m) := Eq.trans rfl rfl
  have e2 : oIx st (.tup [.int (m : Int), x]) (.int 1) = some x := Eq.trans rfl rfl
  have f1 : decide ((1 : Int) ≤ (m : Int)) = true := decide_eq_true (by omega)
  have f2 : decide ((m : Int) ≤ 10) = true := decide_eq_true (by omega)
  simp [f_fits_plan, b_fits_plan, e, e2, f1, f2, h]
theorem bad_5 {l : List D} {m : Nat} (h1 : 1 ≤ m) (h2 : m ≤ 10) (h : 10 < l.length) : BadP (.tup [dI m, .tup l]) := fun st => by
  have e : oIx st (.tup [.int (m : Int), .tup l]) (.int 0) = some (dI m) := Eq.trans rfl rfl
  have e2 : oIx st (.tup [.int (m : Int), .tup l]) (.int 1) = some (.tup l) := Eq.trans rfl rfl
  have f1 : decide ((1 : Int) ≤ (m : Int)) = true := decide_eq_true (by omega)
  have f2 : decide ((m : Int) ≤ 10) = true := decide_eq_true (by omega)
  have f3 : decide ((10 : Int) < (l.length : Int)) = true := decide_eq_true (by omega)
  simp [f_fits_plan, b_fits_plan, e, e2, f1, f2, f3]
theorem bad_6 {l : List D} {m : Nat} {bs : List Bool} (h1 : 1 ≤ m) (h2 : m ≤ 10) (hl : l.length ≤ 10) (h : F2 (fun d b => IR d m b) l bs) (hb : bs.all id = false) : BadP (.tup [dI m, .tup l]) := fun st => by
  have e : oIx st (.tup [.int (m : Int), .tup l]) (.int 0) = some (dI m) := Eq.trans rfl rfl
  have e2 : oIx st (.tup [.int (m : Int), .tup l]) (.int 1) = some (.tup l) := Eq.trans rfl rfl
  have f1 : decide ((1 : Int) ≤ (m : Int)) = true := decide_eq_true (by omega)
  have f2 : decide ((m : Int) ≤ 10) = true := decide_eq_true (by omega)
  have f3 : decide ((10 : Int) < (l.length : Int)) = false := decide_eq_false (by omega)
  have c1 : evLc [1] (itVal (evOp oIx (evVar 0) (evC (.int 1)))) (gN 1) ebYes (evCall 2 f_is_rising (eaCons (evVar 1) (eaCons (evOp oIx (evVar 0) (evC (.int 0))) eaNil))) [some (.tup [.int (m : Int), .tup l]), none] st = .ok (.lst (bs.map fun b => .bl (id b))) st := by
    rw [evLc_ap]
    have go : lcGo (gN 1) ebYes (evCall 2 f_is_rising (eaCons (evVar 1) (eaCons (evOp oIx (evVar 0) (evC (.int 0))) eaNil))) [some (.tup [.int (m : Int), .tup l]), none] l st = .ok (bs.map .bl) st := lcGo_bls (h.imp fun d b z => ⟨[some (.tup [.int (m : Int), .tup l]), some d], rfl, by
      have := z st
      simp [e, this]⟩)
    have it : itVal (evOp oIx (evVar 0) (evC (.int 1))) [some (.tup [.int (m : Int), .tup l]), none] st = .ok l st := rfl
    have w : wipeS [some (.tup [.int (m : Int), .tup l]), none] [1] = ([some (.tup [.int (m : Int), .tup l]), none] : Sl) := rfl
    rw [it, R.bind_ok, w, go, R.bind_ok, lcEnd_ok (by rw [List.length_map, ← h.len]; omega)]
    rfl
  have d1 := allLc c1 hb
  simp [f_fits_plan, b_fits_plan, e, e2, f1, f2, f3, d1]
theorem bad_all : ∀ d ∈ badPs, BadP d := by
  intro d hd
  unfold badPs at hd
  simp only [List.mem_cons, List.not_mem_nil, or_false] at hd
  rcases hd with rfl | rfl | rfl | rfl | rfl | rfl | rfl | rfl | rfl | rfl | rfl | rfl | rfl | rfl | rfl | rfl | rfl | rfl | rfl | rfl | rfl
  · exact bad_1 rfl
  · exact bad_2 (by decide)
  · exact bad_2 (by decide)
  · exact bad_1 rfl
  · exact bad_3 wh_int
  · exact bad_3 wh_int
  · exact bad_3 wh_bl
  · exact bad_4 (m := 2) (by decide) (by decide) rfl
  · exact bad_6 (m := 2) (by decide) (by decide) (by decide) (.cons (ir_wh (.cons wh_int (.cons wh_int .nil)) (by decide) rfl) .nil) rfl
  · exact bad_6 (m := 2) (by decide) (by decide) (by decide) (.cons (ir_two ⟨by decide, by decide⟩ ⟨by decide, by decide⟩ (by decide)) .nil) rfl
  · exact bad_6 (m := 2) (by decide) (by decide) (by decide) (.cons (ir_two ⟨by decide, by decide⟩ ⟨by decide, by decide⟩ (by decide)) .nil) rfl
  · exact bad_6 (m := 2) (by decide) (by decide) (by decide) (.cons (ir_wh (.cons wh_int .nil) (by decide) rfl) .nil) rfl
  · exact bad_6 (m := 2) (by decide) (by decide) (by decide) (.cons (ir_wh (.cons wh_bl .nil) (by decide) rfl) .nil) rfl
  · exact bad_6 (m := 2) (by decide) (by decide) (by decide) (.cons (ir_odd rfl) .nil) rfl
  · exact bad_5 (m := 2) (by decide) (by decide) (by decide)
  · exact bad_6 (m := 2) (by decide) (by decide) (by decide) (.cons (ir_odd rfl) (.cons (ir_odd rfl) .nil)) rfl
  · exact bad_2 (by decide)
  · exact bad_3 (wh_odd rfl)
  · exact bad_4 (m := 2) (by decide) (by decide) rfl
  · exact bad_6 (m := 2) (by decide) (by decide) (by decide) (.cons (ir_wh (.cons wh_int (.cons (wh_odd rfl) .nil)) (by decide) rfl) .nil) rfl
  · exact bad_4 (m := 2) (by decide) (by decide) rfl
/-! ### numbers that are refused -/
def BadN (d : D) : Prop := ∀ lo hi : Int, (hi < 11 ∧ -1 < lo) → ∀ st, f_need_number [d, .int lo, .int hi] st = .exc "InvalidNumber" st
theorem badN_of {d : D} (h : ∀ lo hi : Int, (hi < 11 ∧ -1 < lo) → IW d lo hi false) : BadN d := fun lo hi hh st => by
  have := h lo hi hh st
  simp [f_need_number, b_need_number, this]
def badNs : List D := [.non, .int (-1), .int 11, .bl true, .str "1", .tup [.int 1]]
theorem bad_mosts (st : Sto) : f_law_bad_mosts [] st = .ok (.lst badNs) st := by
  have e : b_law_bad_mosts [] st = .rt (.lst badNs) st := by kernel_rfl
  unfold f_law_bad_mosts
  rw [fnRun_ap]
  have e0 : slots0 0 [] = ([] : Sl) := rfl
  rw [e0, e, fnEnd_rt]
theorem badN_all : ∀ d ∈ badNs, BadN d := by
  intro d hd
  unfold badNs at hd
  simp only [List.mem_cons, List.not_mem_nil, or_false] at hd
  rcases hd with rfl | rfl | rfl | rfl | rfl | rfl
  · exact badN_of fun lo hi h => wh_odd rfl
  · refine badN_of fun lo hi h => ?_
    have := wh_int (v := -1) (lo := lo) (hi := hi)
    rw [decide_eq_false (by omega), Bool.false_and] at this
    exact this
  · refine badN_of fun lo hi h => ?_
    have := wh_int (v := 11) (lo := lo) (hi := hi)
    rw [decide_eq_false (by omega : ¬ (11 : Int) ≤ hi), Bool.and_false] at this
    exact this
  · exact badN_of fun lo hi h => wh_bl
  · exact badN_of fun lo hi h => wh_odd rfl
  · exact badN_of fun lo hi h => wh_odd rfl
theorem BadN.both {p : Pl} {d : D} (hp : OkP p) (h : BadN d) (st : Sto) : f_need_both [dP p, d] st = .exc "InvalidNumber" st := by
  have := h 0 10 ⟨by decide, by decide⟩ st
  simp [f_need_both, b_need_both, need_plan_ok hp, this]
theorem BadN.reads {p : Pl} {d : D} (hp : OkP p) (h : BadN d) (st : Sto) : f_reads [dP p, d] st = .exc "InvalidNumber" st := first_exc (es := [dP p, d]) rfl rfl (h.both hp st)
theorem BadN.hidden {p : Pl} {d : D} (hp : OkP p) (h : BadN d) (st : Sto) : f_hidden [dP p, d] st = .exc "InvalidNumber" st := first_exc (es := [dP p, d]) rfl rfl (h.both hp st)
theorem BadN.margin {p : Pl} {d : D} (hp : OkP p) (h : BadN d) (st : Sto) : f_margin [dP p, d] st = .exc "InvalidNumber" st := first_exc (es := [dP p, d]) rfl rfl (h.both hp st)
theorem BadN.tells {p : Pl} {d : D} (hp : OkP p) (h : BadN d) (st : Sto) : f_tells [dP p, d] st = .exc "InvalidNumber" st := first_exc (es := [dP p, d]) rfl rfl (h.both hp st)
/-! ### all of them are refused so -/
theorem error_exc {g : Fn} {ds : List D} {st : Sto} {c : Str} (h : g [] st = .exc c st) (hc : c ∈ ers0) : F_law_error g ds st = .ok (.str (nameOf c)) st := by
  unfold F_law_error tellErr
  rw [h]
  have e : ersOf ers0 sufA c = some (.str (nameOf c)) := by
    unfold ersOf sufA
    rw [if_pos hc, if_pos (ers0_errs hc)]
  dsimp only
  rw [e]
  exact fnEnd_rt
theorem error_ok {g : Fn} {ds : List D} {st : Sto} {d : D} (h : g [] st = .ok d st) : F_law_error g ds st = .ok (.str "") st := by
  unfold F_law_error tellErr
  rw [h]
  exact fnEnd_rt
theorem oNe_str {st : Sto} {x : Str} (h : PyData.strOk x = true) : oNe st (.str x) (.str x) = some (.bl false) := by
  have o : okD (.str x) = true := okD_of h (by show (PyData.str x).depth ≤ 60; simp [PyData.depth])
  unfold oNe
  show (if okD (.str x) = true ∧ okD (.str x) = true then _ else _) = _
  rw [if_pos ⟨o, o⟩]
  have e : eqD (.str x) (.str x) = true := eqD_refl (d := .str x) h
  show some (D.bl (!eqD (.str x) (.str x))) = _
  rw [e]
  rfl
theorem refGo_nil {g : Fn} {st : Sto} {c : Str} (hc : c ∈ ers0) (hn : PyData.strOk (nameOf c) = true) : ∀ {ds : List D}, (∀ d ∈ ds, g [d] st = .exc c st) → refGo g (.str (nameOf c)) ds st = .ok [] st
  | [], _ => rfl
  | d :: ds, h => by
    unfold refGo
    rw [error_exc (g := fun _ st => g [d] st) (h d (List.mem_cons_self ..)) hc, R.bind_ok, oNe_str hn, R.lift_some, R.bind_ok]
    have e : (Ip.R.lift (asB (.bl false)) st : Ip.R Bool) = .ok false st := rfl
    rw [e, noX_ok, R.bind_ok, if_neg Bool.false_ne_true]
    exact refGo_nil hc hn fun d hd => h d (List.mem_cons_of_mem _ hd)
theorem refused_true {g : Fn} {st : Sto} {c nm : Str} {ds : List D} (hc : c ∈ ers0) (hn : PyData.strOk (nameOf c) = true) (e : nameOf c = nm) (h : ∀ d ∈ ds, g [d] st = .exc c st) : F_law_all_refused g [.lst ds, .str nm] st = .ok (.bl true) st := by
  subst e
  have z : oEq st (.lst []) (.lst []) = some (.bl true) := rfl
  show fnEnd false st.length (((Ip.R.lift (some ds) st).bind fun xs st1 => ((refGo g (.str (nameOf c)) xs st1).bind lcEnd).bind fun l st2 => Ip.R.lift (oEq st2 l (.lst [])) st2).stm [] fun d st3 => .rt d st3) = _
  rw [R.lift_some, R.bind_ok, refGo_nil hc hn h, R.bind_ok, lcEnd_ok (by decide), R.bind_ok, z]
  exact fnEnd_rt
end Lw
set_option Elab.async false
set_option linter.all false
set_option maxRecDepth 100000
set_option maxHeartbeats 4000000
namespace Lw
open PySem Ip Lots

/-! ### the plans that the laws write; what is known of them, counted by the kernel -/
def k1 : Pl := (4, [[0, 1], [0, 2], [0, 3], [1, 2], [1, 3], [2, 3]])
def k2 : Pl := (3, [[0, 1], [1, 2]])
def k3 : Pl := (2, [])
def k4 : Pl := (3, [[0], [1], [2]])
def k5 : Pl := (2, [[0, 1]])
def ten : Pl := (10, [[0], [1], [2], [3], [4], [5], [6], [7], [8], [9]])
def known : List Pl := [k1, k2, k3, k4]
def ascB (m : Nat) : List Nat → Bool
  | [] => true
  | [x] => decide (x < m)
  | x :: y :: l => decide (x < y) && ascB m (y :: l)
theorem ascB_ok {m : Nat} : ∀ {l : List Nat}, ascB m l = true → Asc m l
  | [], _ => nil_asc
  | [x], h => ⟨List.pairwise_singleton _ _, fun y hy => by rw [List.mem_singleton.mp hy]; exact decide_eq_true_eq.mp h⟩
  | x :: y :: l, h => by
    have h : (decide (x < y) && ascB m (y :: l)) = true := h
    rw [Bool.and_eq_true, decide_eq_true_eq] at h
    have ih := ascB_ok h.2
    have hx : ∀ z ∈ y :: l, x < z := fun z hz => by
      rcases List.mem_cons.mp hz with rfl | hz
      · exact h.1
      · exact Nat.lt_trans h.1 ((List.pairwise_cons.mp ih.1).1 z hz)
    refine ⟨List.pairwise_cons.mpr ⟨hx, ih.1⟩, fun z hz => ?_⟩
    rcases List.mem_cons.mp hz with rfl | hz
    · exact Nat.lt_trans h.1 (ih.2 y (List.mem_cons_self ..))
    · exact ih.2 z hz
def okPB (p : Pl) : Bool := decide (1 ≤ p.1) && (decide (p.1 ≤ 10) && (decide (p.2.length ≤ 10) && p.2.all (ascB p.1)))
theorem okPB_ok {p : Pl} (h : okPB p = true) : OkP p := by
  unfold okPB at h
  simp only [Bool.and_eq_true, decide_eq_true_eq, List.all_eq_true] at h
  exact ⟨h.1, h.2.1, h.2.2.1, fun l hl => ascB_ok (h.2.2.2 l hl)⟩
/-- whether the reading is right, counted without sorting -/
def rdB (p : Pl) (k : Nat) : Bool := (genC k p.1).all fun c => decide (susp p (view p c) = c)
theorem rdB_eq (p : Pl) (k : Nat) : isN (hid p k) = rdB p k := by
  rw [Bool.eq_iff_iff]
  have e : isN (hid p k) = true ↔ hid p k = none := by cases hid p k <;> simp [isN]
  rw [e, hid_reads]
  unfold rdB
  rw [List.all_eq_true]
  constructor
  · intro h c hc
    rw [decide_eq_true_eq]
    exact h c (cases_mem.mpr (genC_mem.mp hc))
  · intro h c hc
    exact decide_eq_true_eq.mp (h c (genC_mem.mpr (cases_mem.mp hc)))
def hidB (p : Pl) (k : Nat) (q : Nat × List Nat) : Bool := decide (q.1 < p.1) && (decide (q.2 ∈ genC k p.1) && (decide (q.1 ∉ q.2) && (decide (left p q.1 q.2 = 0) &&
  (List.range p.1).all fun t => (genC k p.1).all fun c => decide (t ∈ c) || (decide (left p t c ≠ 0) || (decide (q = (t, c)) || (decide (q.2.length < c.length) || (decide (q.2.length = c.length) && decide (q.1 < t))))))))
theorem hidB_ok {p : Pl} {k : Nat} {q : Nat × List Nat} (h : hidB p k q = true) : hid p k = some q := by
  unfold hidB at h
  simp only [Bool.and_eq_true, Bool.or_eq_true, decide_eq_true_eq, List.all_eq_true, List.mem_range] at h
  obtain ⟨h1, h2, h3, h4, h5⟩ := h
  have g := genC_mem.mp h2
  have hq : Hid p k q.1 q.2 := ⟨h1, others_mem.mpr ⟨g.1, g.2, h3⟩, h4⟩
  cases hh : hid p k with
  | none => exact absurd hq (hid_none.mp hh q.1 q.2)
  | some r =>
    obtain ⟨⟨a, b, c⟩, _⟩ := hid_some hh
    have o := others_mem.mp b
    have l1 : leT r q = true := hid_least hh q (pairs_mem.mpr ⟨h1, others_mem.mpr ⟨g.1, g.2, h3⟩⟩) h4
    have l2 : leT q r = true := by
      rcases h5 r.1 a r.2 (genC_mem.mpr ⟨o.1, o.2.1⟩) with z | z | z | z | z
      · exact absurd z o.2.2
      · exact absurd c z
      · have : q = r := z
        rw [this, leT_iff]
        exact .inr ⟨rfl, .inr ⟨rfl, leL_refl _⟩⟩
      · rw [leT_iff]
        exact .inl z
      · rw [leT_iff]
        exact .inr ⟨z.1, .inl z.2⟩
    rw [leT_antisymm l1 l2]
def marB (p : Pl) (k n t : Nat) (c : List Nat) : Bool := decide (t < p.1) && (decide (c ∈ genC k p.1) && (decide (t ∉ c) && (decide (left p t c = n) && (List.range p.1).all fun t => (genC k p.1).all fun c => decide (t ∈ c) || decide (n ≤ left p t c))))
theorem marB_ok {p : Pl} {k n : Nat} (t : Nat) (c : List Nat) (h : marB p k n t c = true) : minN (marL p k) = some n := by
  unfold marB at h
  simp only [Bool.and_eq_true, Bool.or_eq_true, decide_eq_true_eq, List.all_eq_true, List.mem_range] at h
  obtain ⟨h1, h2, h3, h4, h5⟩ := h
  have g := genC_mem.mp h2
  refine minN_is.mpr ⟨mar_mem.mpr ⟨t, c, h1, others_mem.mpr ⟨g.1, g.2, h3⟩, h4⟩, fun x hx => ?_⟩
  obtain ⟨u, d, a, b, rfl⟩ := mar_mem.mp hx
  have o := others_mem.mp b
  exact (h5 u a d (genC_mem.mpr ⟨o.1, o.2.1⟩)).resolve_left o.2.2
theorem readL_eq (p : Pl) : readL p = (List.range (p.1 + 1)).filter (rdB p) := by
  unfold readL
  exact List.filter_congr fun k _ => rdB_eq p k
theorem ok1 : OkP k1 := okPB_ok (by decide +kernel)
theorem ok2 : OkP k2 := okPB_ok (by decide +kernel)
theorem ok3 : OkP k3 := okPB_ok (by decide +kernel)
theorem ok4 : OkP k4 := okPB_ok (by decide +kernel)
theorem ok5 : OkP k5 := okPB_ok (by decide +kernel)
theorem okT : OkP ten := okPB_ok (by decide +kernel)
theorem rd12 : isN (hid k1 2) = true := (rdB_eq _ _).trans (by decide +kernel)
theorem rd13 : isN (hid k1 3) = false := (rdB_eq _ _).trans (by decide +kernel)
theorem hd12 : hid k1 2 = none := by
  have := rd12
  cases h : hid k1 2 with
  | none => rfl
  | some q => rw [h] at this; cases this
theorem hd13 : hid k1 3 = some (0, [1, 2, 3]) := hidB_ok (by decide +kernel)
theorem hd22 : hid k2 2 = some (0, [1]) := hidB_ok (by decide +kernel)
theorem hd30 : hid k3 0 = some (0, []) := hidB_ok (by decide +kernel)
theorem hd5 : hid k5 10 = some (0, [1]) := hidB_ok (by decide +kernel)
theorem mr1 : (readL k1).getLast? = some 2 := by rw [readL_eq]; decide +kernel
theorem mr2 : (readL k2).getLast? = some 0 := by rw [readL_eq]; decide +kernel
theorem mr3 : (readL k3).getLast? = none := by rw [readL_eq]; decide +kernel
theorem mr4 : (readL k4).getLast? = some 3 := by rw [readL_eq]; decide +kernel
theorem mg11 : minN (marL k1 1) = some 2 := marB_ok 0 [1] (by decide +kernel)
theorem mg12 : minN (marL k1 2) = some 1 := marB_ok 0 [1, 2] (by decide +kernel)
theorem mg21 : minN (marL k2 1) = some 0 := marB_ok 0 [1] (by decide +kernel)
theorem mg10 : minN (marL k1 0) = some 3 := marB_ok 0 [] (by decide +kernel)
theorem ten_lots : ∀ t, t < 10 → lotsOf ten t = [t] := by decide +kernel
theorem ten_at : ∀ n, n < 10 → ten.2[n]? = some [n] := by decide +kernel
theorem ten_left {t : Nat} {c : List Nat} (ht : t < 10) (hc : t ∉ c) : left ten t c = 1 := by
  unfold left
  rw [ten_lots t ht]
  have hn : t ∉ view ten c := fun h => by
    obtain ⟨l, h1, u, h2, h3⟩ := view_mem.mp h
    rw [ten_at t ht] at h1
    cases h1
    rw [List.mem_singleton.mp h2] at h3
    exact hc h3
  rw [List.filter_cons_of_pos (by simpa using hn)]
  rfl
theorem hdT : hid ten 10 = none := hid_none.mpr fun t c ⟨h1, h2, h3⟩ => by
  rw [ten_left h1 (others_mem.mp h2).2.2] at h3
  cases h3
theorem mgT : minN (marL ten 10) = some 1 := minN_is.mpr ⟨mar_mem.mpr ⟨0, [], by decide, others_mem.mpr ⟨nil_asc, Nat.zero_le _, fun h => nomatch h⟩, ten_left (by decide) fun h => nomatch h⟩, fun x hx => by
  obtain ⟨t, c, a, b, rfl⟩ := mar_mem.mp hx
  rw [ten_left a (others_mem.mp b).2.2]
  exact Nat.le_refl _⟩
theorem known_ok (st : Sto) : f_law_known [] st = .ok (.lst [dP k1, dP k2, dP k3, dP k4]) st := by
  have e : b_law_known [none] st = .rt (.lst [dP k1, dP k2, dP k3, dP k4]) st := by kernel_rfl
  unfold f_law_known
  rw [fnRun_ap]
  have e0 : slots0 1 [] = ([none] : Sl) := rfl
  rw [e0, e, fnEnd_rt]
end Lw
set_option Elab.async false
set_option linter.all false
set_option maxRecDepth 100000
set_option maxHeartbeats 4000000
namespace Lw
open PySem Ip Lots

/-! ### texts of numbers, of plans -/
def ts (n : Nat) : Str := toString (n : Int)
theorem figs_ts : gt_FIGURES = (List.range 11).map ts := by decide +kernel
theorem ts_len : ∀ n, n < 11 → (ts n).length ≤ 2 := by decide +kernel
theorem bStr_nat {st : Sto} {n : Nat} (h : n ≤ 1000) : bStr st [dI n] = some (.str (ts n)) := by
  have e : bStr st [dI n] = if ((n : Nat) : Int).natAbs < 2 ^ 1900 then some (.str (toString ((n : Nat) : Int))) else none := rfl
  rw [e, if_pos]
  · rfl
  · exact Nat.lt_of_le_of_lt (by omega : ((n : Nat) : Int).natAbs ≤ 1000) (by decide)
@[simp] theorem evM1_ap {k : Sto → Str → D → Option D} {fo fe : Ev} {ρ : Sl} {st : Sto} {a : Str} {d : D} (h1 : fo ρ st = .ok (.str a) st) (h2 : fe ρ st = .ok d st) : evM1 k fo fe ρ st = R.lift (k st a d) st := by
  unfold evM1
  rw [h1, R.bind_ok]
  show (fe ρ st).bind _ = _
  rw [h2]
  rfl
theorem kJoin_lst {st : Sto} {a : Str} {ys : List Str} (h : (ys.map (·.length)).sum + ys.length * a.length ≤ 16777216) : kJoin st a (.lst (ys.map .str)) = some (.str (Txt.join a ys)) := by
  unfold kJoin
  have e : (items st (.lst (ys.map D.str))).bind strsOf = some ys := strsOf_map ys
  rw [e]
  exact if_pos h
theorem sum_le {c : Nat} : ∀ {ys : List Nat}, (∀ y ∈ ys, y ≤ c) → ys.sum ≤ ys.length * c
  | [], _ => Nat.zero_le _
  | y :: ys, h => by
    have h1 := sum_le fun z hz => h z (List.mem_cons_of_mem _ hz)
    have h2 := h y (List.mem_cons_self ..)
    rw [List.sum_cons, List.length_cons, Nat.succ_mul]
    omega
def lotW (l : List Nat) : List Str := "lot" :: l.map ts
def lotT (l : List Nat) : Str := Txt.join " " (lotW l)
def linesT (p : Pl) : List Str := (("things " : Str) ++ ts p.1) :: p.2.map lotT
def textOf (p : Pl) : Str := Txt.join "\n" (linesT p)
theorem lotW_sum {l : List Nat} (h : ∀ x ∈ l, x < 11) : ((lotW l).map (·.length)).sum ≤ 3 + l.length * 2 := by
  unfold lotW
  rw [List.map_cons, List.sum_cons, List.map_map]
  have h1 : (l.map ((·.length) ∘ ts)).sum ≤ (l.map ((·.length) ∘ ts)).length * 2 := sum_le fun y hy => by
    obtain ⟨x, hx, rfl⟩ := List.mem_map.mp hy
    exact ts_len x (h x hx)
  rw [List.length_map] at h1
  have h2 : ("lot" : Str).length = 3 := by decide
  omega
theorem lotT_len {l : List Nat} (h : ∀ x ∈ l, x < 11) : (lotT l).length ≤ 4 + l.length * 3 := by
  have h1 := StrLaws.join_length_le " " (lotW l)
  have h2 := lotW_sum h
  have h3 : (lotW l).length = l.length + 1 := by unfold lotW; simp
  have h4 : (" " : Str).length = 1 := by decide
  have e : lotT l = Str.join " " (lotW l) := TL.join_eq _ _
  rw [e]
  rw [h3, h4] at h1
  omega
theorem asc_lt {m : Nat} {l : List Nat} (hm : m ≤ 10) (h : Asc m l) : ∀ x ∈ l, x < 11 := fun x hx => by
  have := h.2 x hx
  omega
theorem lot_join {st : Sto} {l : List Nat} (h : ∀ x ∈ l, x < 11) (hl : l.length ≤ 1000) : kJoin st " " (.lst ((lotW l).map .str)) = some (.str (lotT l)) := by
  refine kJoin_lst ?_
  have h2 := lotW_sum h
  have h3 : (lotW l).length = l.length + 1 := by unfold lotW; simp
  have h4 : (" " : Str).length = 1 := by decide
  rw [h3, h4]
  omega
theorem str_append_len (a b : Str) : (a ++ b).length = a.length + b.length := by
  show (a.cps ++ b.cps).size = _
  rw [Array.size_append]
  rfl
theorem lines_join {st : Sto} {p : Pl} (h : OkP p) : kJoin st "\n" (.lst ((linesT p).map .str)) = some (.str (textOf p)) := by
  refine kJoin_lst ?_
  have h1 := h.ten
  have h2 := h.lots
  have h4 : ("\n" : Str).length = 1 := by decide
  have h5 : ("things " : Str).length = 7 := by decide
  have h6 := ts_len p.1 (by omega)
  unfold linesT
  rw [List.map_cons, List.sum_cons, List.length_cons, h4, List.length_map, str_append_len, List.map_map]
  have h7 : (p.2.map ((·.length) ∘ lotT)).sum ≤ (p.2.map ((·.length) ∘ lotT)).length * 40 := sum_le fun y hy => by
    obtain ⟨l, hl, rfl⟩ := List.mem_map.mp hy
    have := lotT_len (asc_lt h1 (h.asc l hl))
    have := (h.asc l hl).len
    show (lotT l).length ≤ 40
    omega
  rw [List.length_map] at h7
  omega
theorem lot_words {l : List Nat} {c : D → List D → D} (h : ∀ x ∈ l, x < 11) : D.lst (.str "lot" :: l.map fun x => .str (ts x)) = .lst ((lotW l).map .str) := by
  unfold lotW
  rw [List.map_cons, List.map_map]
  rfl
theorem as_text_ok {p : Pl} (h : OkP p) (st : Sto) : f_as_text [dP p] st = .ok (.str (textOf p)) st := by
  have h10 := h.ten
  have c1 : evLc [2] (itVal (evOp oIx (evVar 0) (evC (.int 1)))) (gN 2) ebYes (evM1 kJoin (evC (.str " ")) (evOp oAdd (evL (elDisp (eaCons (evC (.str "lot")) eaNil))) (evLc [3] (itVal (evVar 2)) (gN 3) ebYes (evB bStr (eaCons (evVar 3) eaNil))))) [some (dP p), none, none, none] st = .ok (.lst (p.2.map fun l => .str (lotT l))) st := by
    refine evLc_map dL _ p.2 (by simp) (by have := h.lots; omega) fun l hl => ⟨[some (dP p), none, some (dL l), none], rfl, ?_⟩
    have hx := asc_lt h10 (h.asc l hl)
    have hll := (h.asc l hl).len
    have c2 : evLc [3] (itVal (evVar 2)) (gN 3) ebYes (evB bStr (eaCons (evVar 3) eaNil)) [some (dP p), none, some (dL l), none] st = .ok (.lst (l.map fun x => .str (ts x))) st :=
      evLc_map dI _ l (by simp) (by omega) fun x hxl => ⟨_, rfl, by
        have := bStr_nat (st := st) (n := x) (by have := hx x hxl; omega)
        simp [this]⟩
    have ad : oAdd st (.lst [.str "lot"]) (.lst (l.map fun x => .str (ts x))) = some (.lst ((lotW l).map .str)) := by
      have e : oAdd st (.lst [.str "lot"]) (.lst (l.map fun x => .str (ts x))) = if [D.str "lot"].length + (l.map fun x => D.str (ts x)).length ≤ 1000000 then some (.lst ([.str "lot"] ++ l.map fun x => .str (ts x))) else none := rfl
      rw [e, if_pos (by rw [List.length_map, List.length_singleton]; omega)]
      unfold lotW
      rw [List.map_cons, List.map_map]
      rfl
    have a2 : evOp oAdd (evL (elDisp (eaCons (evC (.str "lot")) eaNil))) (evLc [3] (itVal (evVar 2)) (gN 3) ebYes (evB bStr (eaCons (evVar 3) eaNil))) [some (dP p), none, some (dL l), none] st = .ok (.lst ((lotW l).map .str)) st := by
      generalize (lotW l).map D.str = LW at ad ⊢
      generalize (l.map fun x => D.str (ts x)) = LX at c2 ad
      simp [c2, ad]
    rw [evM1_ap (a := " ") rfl a2, lot_join hx (by omega), R.lift_some]
  have fs : evFs "things " (evOp oIx (evVar 0) (evC (.int 0))) [some (dP p), some (.lst (p.2.map fun l => .str (lotT l))), none, none] st = .ok (.str (("things " : Str) ++ ts p.1)) st := by
    have ix : evOp oIx (evVar 0) (evC (.int 0)) [some (dP p), some (.lst (p.2.map fun l => .str (lotT l))), none, none] st = .ok (dI p.1) st := by simp
    unfold evFs
    rw [if_pos (by decide), ix, R.bind_ok]
    have e0 : Str.empty ++ ("things " : Str) = "things " := by decide
    have h6 := ts_len p.1 (by omega)
    have h5 : ("things " : Str).length = 7 := by decide
    show (if ((p.1 : Nat) : Int).natAbs < 2 ^ 1900 ∧ (Str.empty ++ ("things " : Str) ++ ts p.1).length ≤ 1000000 then R.ok (D.str (Str.empty ++ ("things " : Str) ++ ts p.1)) st else .bad) = _
    rw [e0, if_pos ⟨Nat.lt_of_le_of_lt (by omega : ((p.1 : Nat) : Int).natAbs ≤ 1000) (by decide), by rw [str_append_len]; omega⟩]
  have a3 : evOp oAdd (evL (elDisp (eaCons (evFs "things " (evOp oIx (evVar 0) (evC (.int 0)))) eaNil))) (evVar 1) [some (dP p), some (.lst (p.2.map fun l => .str (lotT l))), none, none] st = .ok (.lst ((linesT p).map .str)) st := by
    have ad : oAdd st (.lst [.str (("things " : Str) ++ ts p.1)]) (.lst (p.2.map fun l => .str (lotT l))) = some (.lst ((linesT p).map .str)) := by
      have e : oAdd st (.lst [.str (("things " : Str) ++ ts p.1)]) (.lst (p.2.map fun l => .str (lotT l))) = if [D.str (("things " : Str) ++ ts p.1)].length + (p.2.map fun l => D.str (lotT l)).length ≤ 1000000 then some (.lst ([.str (("things " : Str) ++ ts p.1)] ++ p.2.map fun l => .str (lotT l))) else none := rfl
      rw [e, if_pos (by have := h.lots; rw [List.length_map, List.length_singleton]; omega)]
      unfold linesT
      rw [List.map_cons, List.map_map]
      rfl
    generalize evFs "things " (evOp oIx (evVar 0) (evC (.int 0))) = FS at fs ⊢
    generalize (linesT p).map D.str = LN at ad ⊢
    generalize (p.2.map fun l => D.str (lotT l)) = LX at fs ad ⊢
    simp [fs, ad]
  have r2 := evM1_ap (k := kJoin) (fo := evC (.str "\n")) (a := "\n") rfl a3
  rw [lines_join h, R.lift_some] at r2
  unfold f_as_text b_as_text
  generalize evM1 kJoin (evC (.str "\n")) (evOp oAdd (evL (elDisp (eaCons (evFs "things " (evOp oIx (evVar 0) (evC (.int 0)))) eaNil))) (evVar 1)) = RT at r2 ⊢
  generalize evLc [2] (itVal (evOp oIx (evVar 0) (evC (.int 1)))) (gN 2) ebYes (evM1 kJoin (evC (.str " ")) (evOp oAdd (evL (elDisp (eaCons (evC (.str "lot")) eaNil))) (evLc [3] (itVal (evVar 2)) (gN 3) ebYes (evB bStr (eaCons (evVar 3) eaNil))))) = LC at c1 ⊢
  generalize (p.2.map fun l => D.str (lotT l)) = LX at *
  simp [c1, r2]
end Lw
set_option Elab.async false
set_option linter.all false
set_option maxRecDepth 100000
set_option maxHeartbeats 4000000
namespace Lw
open PySem Ip Lots

/-! ### rising rows, plans, of any numbers -/
def riseB (m : Nat) (l : List Nat) : Bool := (l.all fun x => decide (x < m)) && (l.zip l.tail).all fun q => decide (q.1 < q.2)
theorem zip_pw : ∀ {l : List Nat}, ((l.zip l.tail).all fun q => decide (q.1 < q.2)) = true → l.Pairwise (· < ·)
  | [], _ => .nil
  | [x], _ => List.pairwise_singleton _ _
  | x :: y :: l, h => by
    have h : (((x, y) :: ((y :: l).zip l)).all fun q => decide (q.1 < q.2)) = true := h
    rw [List.all_cons, Bool.and_eq_true] at h
    have ih := zip_pw (l := y :: l) h.2
    have hxy : x < y := of_decide_eq_true h.1
    refine List.pairwise_cons.mpr ⟨fun z hz => ?_, ih⟩
    rcases List.mem_cons.mp hz with rfl | hz
    · exact hxy
    · exact Nat.lt_trans hxy ((List.pairwise_cons.mp ih).1 z hz)
theorem pw_zip : ∀ {l : List Nat}, l.Pairwise (· < ·) → ((l.zip l.tail).all fun q => decide (q.1 < q.2)) = true
  | [], _ => rfl
  | [_], _ => rfl
  | x :: y :: l, h => by
    have h2 := List.pairwise_cons.mp h
    show (((x, y) :: ((y :: l).zip l)).all fun q => decide (q.1 < q.2)) = true
    rw [List.all_cons, Bool.and_eq_true]
    exact ⟨decide_eq_true (h2.1 y (List.mem_cons_self ..)), pw_zip (l := y :: l) h2.2⟩
theorem riseB_iff {m : Nat} {l : List Nat} : riseB m l = true ↔ Asc m l := by
  unfold riseB
  rw [Bool.and_eq_true, List.all_eq_true]
  constructor
  · rintro ⟨h1, h2⟩
    exact ⟨zip_pw h2, fun x hx => of_decide_eq_true (h1 x hx)⟩
  · rintro ⟨h1, h2⟩
    exact ⟨fun x hx => decide_eq_true (h2 x hx), pw_zip h1⟩
theorem cut_tail {xs : List D} : cutD xs (some 1) none = xs.tail := by
  unfold cutD
  have e1 : HT.sIx xs.length 0 (some 1) = min 1 xs.length := HT.sIx_nat _ 0 1
  rw [e1]
  cases xs with
  | nil => rfl
  | cons x xs =>
    have : min 1 (x :: xs).length = 1 := by simp
    rw [this, List.drop_one, HT.sIx_none]
    rw [List.take_of_length_le]
    simp
theorem is_rising_nat {m : Nat} {l : List Nat} (hl : l.length ≤ 500000) (st : Sto) : f_is_rising [dL l, dI m] st = .ok (.bl (riseB m l)) st := by
  have c1 : evLc [2] (itVal (evVar 0)) (gN 2) ebYes (evCall 3 f_is_whole (eaCons (evVar 2) (eaCons (evC (.int 0)) (eaCons (evOp oSub (evVar 1) (evC (.int 1))) eaNil)))) [some (dL l), some (dI m), none, none] st = .ok (.lst (l.map fun (x : Nat) => .bl (decide (x < m)))) st :=
    evLc_map dI _ l (by simp) (by omega) fun x hx => ⟨_, rfl, by
      have e : (decide ((0 : Int) ≤ (x : Int)) && decide ((x : Int) ≤ (m : Int) - 1)) = decide (x < m) := by
        rw [Bool.eq_iff_iff, Bool.and_eq_true, decide_eq_true_eq, decide_eq_true_eq, decide_eq_true_eq]
        omega
      rw [← e]
      simp⟩
  have c2 : evLc [2, 3] (itZip (eaCons (evVar 0) (eaCons (evSl (evVar 0) (eoSome (evC (.int 1))) eoNone) eaNil))) (gT 2 (gsCons (gN 2) (gsCons (gN 3) gsNil))) ebYes (evOp oLt (evVar 2) (evVar 3)) [some (dL l), some (dI m), none, none] st = .ok (.lst ((l.zip l.tail).map fun q => .bl (decide (q.1 < q.2)))) st := by
    refine evLc_map (fun q => .tup [dI q.1, dI q.2]) _ _ ?_ (by simp; omega) fun x hx => ⟨_, rfl, ?_⟩
    · simp [dL, oSl, cut_tail, zipD, zip_tail]
    · have e : decide ((x.1 : Int) < (x.2 : Int)) = decide (x.1 < x.2) := by
        rw [decide_eq_decide]
        omega
      rw [← e]
      simp
  unfold riseB
  cases ha : (l.all fun x => decide (x < m)) with
  | false =>
    have d1 := allLc c1 ha
    simp [f_is_rising, b_is_rising, d1]
  | true =>
    have d1 := allLc c1 ha
    have d2 := allLc c2 rfl
    simp [f_is_rising, b_is_rising, d1, d2]
def okQ (p : Pl) : Bool := decide (1 ≤ p.1) && (decide (p.1 ≤ 10) && (decide (p.2.length ≤ 10) && p.2.all (riseB p.1)))
theorem okQ_ok {p : Pl} : okQ p = true ↔ OkP p := by
  unfold okQ
  simp only [Bool.and_eq_true, decide_eq_true_eq, List.all_eq_true]
  constructor
  · rintro ⟨h1, h2, h3, h4⟩
    exact ⟨h1, h2, h3, fun l hl => riseB_iff.mp (h4 l hl)⟩
  · intro h
    exact ⟨h.one, h.ten, h.lots, fun l hl => riseB_iff.mpr (h.asc l hl)⟩
theorem fits_plan_nat {p : Pl} (hl : ∀ l ∈ p.2, l.length ≤ 500000) (h2 : p.2.length ≤ 500000) (st : Sto) : f_fits_plan [dP p] st = .ok (.bl (okQ p)) st := by
  have c1 : evLc [1] (itVal (evOp oIx (evVar 0) (evC (.int 1)))) (gN 1) ebYes (evCall 2 f_is_rising (eaCons (evVar 1) (eaCons (evOp oIx (evVar 0) (evC (.int 0))) eaNil))) [some (dP p), none] st = .ok (.lst (p.2.map fun l => .bl (riseB p.1 l))) st :=
    evLc_map dL _ p.2 (by simp) (by omega) fun l hl' => ⟨_, rfl, by simp [is_rising_nat (hl l hl')]⟩
  have d1 := allLc c1 rfl
  unfold okQ
  by_cases a1 : 1 ≤ p.1
  · have e1 : decide ((1 : Int) ≤ (p.1 : Int)) = true := decide_eq_true (by omega)
    by_cases a2 : p.1 ≤ 10
    · have e2 : decide ((p.1 : Int) ≤ 10) = true := decide_eq_true (by omega)
      by_cases a3 : p.2.length ≤ 10
      · have e3 : decide ((10 : Int) < (p.2.length : Int)) = false := decide_eq_false (by omega)
        simp [f_fits_plan, b_fits_plan, d1, e1, e2, e3, a1, a2, a3]
      · have e3 : decide ((10 : Int) < (p.2.length : Int)) = true := decide_eq_true (by omega)
        simp [f_fits_plan, b_fits_plan, e1, e2, e3, a1, a2, a3]
    · have e2 : decide ((p.1 : Int) ≤ 10) = false := decide_eq_false (by omega)
      simp [f_fits_plan, b_fits_plan, e1, e2, a1, a2]
  · have e1 : decide ((1 : Int) ≤ (p.1 : Int)) = false := decide_eq_false (by omega)
    simp [f_fits_plan, b_fits_plan, e1, a1]
/-! ### numbers in words -/
def numsOf (ws : List Str) : Option (List Nat) := if (ws.all fun w => decide (w ∈ gt_FIGURES)) = true then some (ws.map fun w => gt_FIGURES.idxOf w) else none
def encNum : Option (List Nat) → D
  | none => .non
  | some l => dL l
theorem str_eqv {x y : Str} : eqD (.str x) (.str y) = decide (x = y) := by
  show PyData.eqv (.str x) (.str y) = _
  simp [PyData.eqv]
  rfl
theorem okD_str {x : Str} (h : PyData.strOk x = true) : okD (.str x) = true := by
  unfold okD
  have : okS (.str x) = true := h
  rw [this, Bool.true_and, decide_eq_true_eq]
  show (PyData.str x).depth ≤ 64
  simp [PyData.depth]
theorem okSs_strs {xs : List Str} (h : ∀ x ∈ xs, PyData.strOk x = true) : okSs (xs.map D.str) = true := okSs_map fun x hx => h x hx
theorem inD_strs {xs : List Str} {x : Str} : inD (xs.map D.str) (.str x) = decide (x ∈ xs) := by
  unfold inD
  rw [List.any_map, Bool.eq_iff_iff, List.any_eq_true, decide_eq_true_eq]
  constructor
  · rintro ⟨y, hy, e⟩
    have e : eqD (.str y) (.str x) = true := e
    rw [str_eqv, decide_eq_true_eq] at e
    exact e ▸ hy
  · exact fun h => ⟨x, h, by show eqD (.str x) (.str x) = true; rw [str_eqv]; simp⟩
theorem figs_ok : ∀ x ∈ gt_FIGURES, PyData.strOk x = true := by decide +kernel
theorem oIn_figs {st : Sto} {w : Str} (h : PyData.strOk w = true) : oIn st (.str w) (.tup (gt_FIGURES.map .str)) = some (.bl (decide (w ∈ gt_FIGURES))) := by
  unfold oIn
  have e : items st (.tup (gt_FIGURES.map D.str)) = some (gt_FIGURES.map D.str) := rfl
  rw [e]
  dsimp only
  rw [if_pos ⟨okD_str h, okSs_strs figs_ok⟩, inD_strs]
theorem numbers_in_ok {ws : List Str} (hw : ∀ w ∈ ws, PyData.strOk w = true) (hl : ws.length ≤ 1000000) (st : Sto) : f_numbers_in [.lst (ws.map .str)] st = .ok (encNum (numsOf ws)) st := by
  have c1 : evLc [1] (itVal (evVar 0)) (gN 1) ebYes (evOp oIn (evVar 1) (evC (.tup (gt_FIGURES.map .str)))) [some (.lst (ws.map .str)), none] st = .ok (.lst (ws.map fun w => .bl (decide (w ∈ gt_FIGURES)))) st :=
    evLc_map D.str _ ws (by simp) hl fun w hw' => ⟨[some (.lst (ws.map .str)), some (.str w)], rfl, by
      have := oIn_figs (st := st) (hw w hw')
      generalize D.tup (gt_FIGURES.map D.str) = G at this ⊢
      simp [this]⟩
  have d1 := allLc c1 rfl
  unfold numsOf
  cases ha : (ws.all fun w => decide (w ∈ gt_FIGURES)) with
  | false =>
    rw [ha] at d1
    rw [if_neg Bool.false_ne_true]
    unfold f_numbers_in b_numbers_in
    generalize evB bAll (eaCons (evLc [1] (itVal (evVar 0)) (gN 1) ebYes (evOp oIn (evVar 1) (evC (.tup (gt_FIGURES.map .str))))) eaNil) = AL at d1 ⊢
    simp [d1]
    rfl
  | true =>
    rw [ha] at d1
    rw [if_pos rfl]
    rw [List.all_eq_true] at ha
    have c2 : evLc [1] (itVal (evVar 0)) (gN 1) ebYes (evIxG gt_FIGURES (eaCons (evVar 1) eaNil)) [some (.lst (ws.map .str)), none] st = .ok (.lst (ws.map fun w => dI (gt_FIGURES.idxOf w))) st :=
      evLc_map D.str _ ws (by simp) hl fun w hw' => ⟨[some (.lst (ws.map .str)), some (.str w)], rfl, by
        have hm := of_decide_eq_true (ha w hw')
        unfold evIxG
        have g : eaCons (evVar 1) eaNil [some (.lst (ws.map .str)), some (.str w)] st = .ok [.str w] st := rfl
        rw [g, R.bind_ok]
        exact if_pos hm⟩
    have d2 := tupLc c2
    have e : D.tup (ws.map fun w => dI (gt_FIGURES.idxOf w)) = dL (ws.map fun w => gt_FIGURES.idxOf w) := by
      unfold dL
      rw [List.map_map]
      rfl
    rw [e] at d2
    unfold f_numbers_in b_numbers_in
    generalize evB bAll (eaCons (evLc [1] (itVal (evVar 0)) (gN 1) ebYes (evOp oIn (evVar 1) (evC (.tup (gt_FIGURES.map .str))))) eaNil) = AL at d1 ⊢
    generalize evB bTuple (eaCons (evLc [1] (itVal (evVar 0)) (gN 1) ebYes (evIxG gt_FIGURES (eaCons (evVar 1) eaNil))) eaNil) = TL at d2 ⊢
    simp [d1, d2]
    rfl
end Lw
set_option Elab.async false
set_option linter.all false
set_option maxRecDepth 100000
set_option maxHeartbeats 4000000
namespace Lw
open PySem Ip Lots

def pi0 : Es := (sIf (ebNot (ebOf (evIs .str (evVar 0)))) (sCons (sExc "InvalidText") sNil) sNil)
def pi1 : Es := (sSet 1 (evLc [5] (itVal (evM1 kSplit (evVar 0) (evC (.str "\n")))) (gN 5) ebYes (evM1 kSplit (evVar 5) (evC (.str " ")))))
def pi2 : Es := (sSet 2 (evB bTuple (eaCons (evLc [6] (itVal (evSl (evVar 1) (eoSome (evC (.int 1))) eoNone)) (gN 6) ebYes (evCall 1 f_numbers_in (eaCons (evSl (evVar 6) (eoSome (evC (.int 1))) eoNone) eaNil))) eaNil)))
def pi3 : Es := (sSet 3 (evCall 1 f_numbers_in (eaCons (evSl (evOp oIx (evVar 1) (evC (.int 0))) (eoSome (evC (.int 1))) eoNone) eaNil)))
def pi4 : Es := (sIf (ebOr (ebOf (evOp oIs (evVar 3) (evC .non))) (ebOr (ebOf (evOp oNe (evB bLen (eaCons (evVar 3) eaNil)) (evC (.int 1)))) (ebOf (evOp oIn (evC .non) (evVar 2))))) (sCons (sExc "InvalidText") sNil) sNil)
def pi5 : Es := (sSet 4 (evTup (eaCons (evOp oIx (evVar 3) (evC (.int 0))) (eaCons (evVar 2) eaNil))))
def pi6 : Es := (sIf (ebOr (ebNot (ebOf (evCall 1 f_fits_plan (eaCons (evVar 4) eaNil)))) (ebOf (evOp oNe (evCall 1 f_as_text (eaCons (evVar 4) eaNil)) (evVar 0)))) (sCons (sExc "InvalidText") sNil) sNil)
def pi7 : Es := (sRet (evVar 4))
def pib : Es := (sCons pi0 (sCons pi1 (sCons pi2 (sCons pi3 (sCons pi4 (sCons pi5 (sCons pi6 (sCons pi7 sNil))))))))
theorem pieq : b_plan_in = pib := rfl
/-! ### split, join -/
theorem tl_len (x : Str) : (TL.tl x).length = x.length := by
  show x.cps.toList.length = _
  rw [Array.length_toList]
  rfl
theorem joinL_len {s : Nat} : ∀ {ps : List (List Nat)}, ps.length ≤ (TL.joinL [s] ps).length + 1
  | [] => Nat.zero_le _
  | [p] => by
    show 1 ≤ _
    omega
  | p :: q :: r => by
    have ih := joinL_len (s := s) (ps := q :: r)
    have e : TL.joinL [s] (p :: q :: r) = p ++ ([s] ++ TL.joinL [s] (q :: r)) := rfl
    rw [e, List.length_append, List.length_append, List.length_cons]
    have : [s].length = 1 := rfl
    omega
theorem joinL_mem_len {s : Nat} : ∀ {ps : List (List Nat)} {p : List Nat}, p ∈ ps → p.length ≤ (TL.joinL [s] ps).length
  | [p], q, h => by
    rw [List.mem_singleton.mp h]
    exact Nat.le_refl _
  | p :: q :: r, x, h => by
    have e : TL.joinL [s] (p :: q :: r) = p ++ ([s] ++ TL.joinL [s] (q :: r)) := rfl
    rw [e, List.length_append, List.length_append]
    rcases List.mem_cons.mp h with rfl | h
    · omega
    · have := joinL_mem_len (s := s) h
      omega
theorem joinL_sub {s : Nat} : ∀ {ps : List (List Nat)} {p : List Nat} {c : Nat}, p ∈ ps → c ∈ p → c ∈ TL.joinL [s] ps
  | [p], q, c, h, hc => by
    rw [List.mem_singleton.mp h] at hc
    exact hc
  | p :: q :: r, x, c, h, hc => by
    have e : TL.joinL [s] (p :: q :: r) = p ++ ([s] ++ TL.joinL [s] (q :: r)) := rfl
    rw [e]
    rcases List.mem_cons.mp h with rfl | h
    · exact List.mem_append_left _ hc
    · exact List.mem_append_right _ (List.mem_append_right _ (joinL_sub h hc))
theorem joinL_all {S : List Nat} {P : Nat → Prop} (hS : ∀ c ∈ S, P c) : ∀ {ps : List (List Nat)}, (∀ p ∈ ps, ∀ c ∈ p, P c) → ∀ c ∈ TL.joinL S ps, P c
  | [], _, c, h => nomatch h
  | [p], hp, c, h => hp p (List.mem_singleton.mpr rfl) c h
  | p :: q :: r, hp, c, h => by
    have e : TL.joinL S (p :: q :: r) = p ++ (S ++ TL.joinL S (q :: r)) := rfl
    rw [e] at h
    rcases List.mem_append.mp h with h | h
    · exact hp p (List.mem_cons_self ..) c h
    · rcases List.mem_append.mp h with h | h
      · exact hS c h
      · exact joinL_all hS (fun z hz => hp z (List.mem_cons_of_mem _ hz)) c h
section
variable {y : Str} {s : Nat} (hy : TL.tl y = [s])
include hy
theorem tl_split (t : Str) : TL.tl t = TL.joinL [s] ((Txt.split t y).map TL.tl) := by
  have := StrLaws.join_split t y
  conv => lhs; rw [← this]
  rw [TL.tl_join, hy]
theorem split_len (t : Str) : (Txt.split t y).length ≤ t.length + 1 := by
  have h := joinL_len (s := s) (ps := (Txt.split t y).map TL.tl)
  rw [← tl_split hy, tl_len, List.length_map] at h
  exact h
theorem split_mem_len {t p : Str} (h : p ∈ Txt.split t y) : p.length ≤ t.length := by
  have h := joinL_mem_len (s := s) (ps := (Txt.split t y).map TL.tl) (List.mem_map.mpr ⟨p, h, rfl⟩)
  rw [← tl_split hy, tl_len, tl_len] at h
  exact h
theorem split_sub {t p : Str} (h : p ∈ Txt.split t y) {c : Nat} (hc : c ∈ TL.tl p) : c ∈ TL.tl t := by
  rw [tl_split hy]
  exact joinL_sub (List.mem_map.mpr ⟨p, h, rfl⟩) hc
end
theorem strOk_tl {x : Str} : PyData.strOk x = true ↔ ∀ c ∈ TL.tl x, c < 0x110000 := by
  show x.cps.all (· < 0x110000) = true ↔ _
  rw [← Array.all_toList, List.all_eq_true]
  exact ⟨fun h c hc => of_decide_eq_true (h c hc), fun h c hc => decide_eq_true (h c hc)⟩
theorem split_ok {y t p : Str} {s : Nat} (hy : TL.tl y = [s]) (ht : PyData.strOk t = true) (h : p ∈ Txt.split t y) : PyData.strOk p = true :=
  strOk_tl.mpr fun c hc => strOk_tl.mp ht c (split_sub hy h hc)
theorem split_ne (t y : Str) : Txt.split t y ≠ [] := by
  unfold Txt.split
  split
  · exact fun h => nomatch h
  · split
    · exact fun h => nomatch h
    · rw [StrLaws.partsBetween_eq]
      obtain ⟨p, q, e⟩ := StrLaws.partsFrom_ne t y.length 0 (Builtin.Str.occurrences t y 0 t.length (t.length + 1))
      rw [e]
      exact fun h => nomatch h
theorem tl_nl : TL.tl "\n" = [10] := by decide +kernel
theorem tl_sp : TL.tl " " = [32] := by decide +kernel
theorem join_ok {y : Str} {ps : List Str} (hy : PyData.strOk y = true) (h : ∀ p ∈ ps, PyData.strOk p = true) : PyData.strOk (Txt.join y ps) = true := by
  rw [TL.join_eq, strOk_tl, TL.tl_join]
  refine joinL_all (strOk_tl.mp hy) fun p hp => ?_
  obtain ⟨q, hq, rfl⟩ := List.mem_map.mp hp
  exact strOk_tl.mp (h q hq)
theorem app_ok {a b : Str} (ha : PyData.strOk a = true) (hb : PyData.strOk b = true) : PyData.strOk (a ++ b) = true := by
  rw [strOk_tl, TL.tl_append]
  intro c hc
  rcases List.mem_append.mp hc with h | h
  · exact strOk_tl.mp ha c h
  · exact strOk_tl.mp hb c h
theorem ts_ok : ∀ n, n < 11 → PyData.strOk (ts n) = true := by decide +kernel
theorem lotT_ok {l : List Nat} (h : ∀ x ∈ l, x < 11) : PyData.strOk (lotT l) = true := join_ok (by decide +kernel) fun p hp => by
  rcases List.mem_cons.mp hp with rfl | hp
  · decide +kernel
  · obtain ⟨x, hx, rfl⟩ := List.mem_map.mp hp
    exact ts_ok x (h x hx)
theorem textOf_ok {p : Pl} (h : OkP p) : PyData.strOk (textOf p) = true := join_ok (by decide +kernel) fun q hq => by
  rcases List.mem_cons.mp hq with rfl | hq
  · exact app_ok (by decide +kernel) (ts_ok _ (by have := h.ten; omega))
  · obtain ⟨l, hl, rfl⟩ := List.mem_map.mp hq
    exact lotT_ok (asc_lt h.ten (h.asc l hl))
/-! ### a text, read -/
def rowsOf (t : Str) : List (List Str) := (Txt.split t "\n").map fun line => Txt.split line " "
def readP (t : Str) : Option Pl := match rowsOf t with
  | [] => none
  | r :: rs => match numsOf r.tail with
    | some [m] => if (rs.all fun w => (numsOf w.tail).isSome) = true then (if okQ (m, rs.map fun w => (numsOf w.tail).getD []) = true ∧ textOf (m, rs.map fun w => (numsOf w.tail).getD []) = t then some (m, rs.map fun w => (numsOf w.tail).getD []) else none) else none
    | _ => none
theorem kSplit_ok {st : Sto} {a : Str} {b : Str} (hb : (b.length == 0) = false) (ha : a.length ≤ 100000) : kSplit st a (.str b) = some (.lst ((Txt.split a b).map .str)) := by
  have e : kSplit st a (.str b) = if (b.length == 0) = false ∧ a.length + 2 ≤ 1000000 then some (.lst ((Txt.split a b).map .str)) else none := rfl
  rw [e, if_pos ⟨hb, by omega⟩]
theorem rows_ok {t : Str} (ht : t.length ≤ 100000) {ρ : Sl} {st : Sto} (h0 : ρ[0]? = some (some (.str t))) (h5 : 5 < ρ.length) (hw : wipeS ρ [5] = ρ.set 5 none) :
    evLc [5] (itVal (evM1 kSplit (evVar 0) (evC (.str "\n")))) (gN 5) ebYes (evM1 kSplit (evVar 5) (evC (.str " "))) ρ st = .ok (.lst ((rowsOf t).map fun r => .lst (r.map .str))) st := by
  have v0 : evVar 0 ρ st = .ok (.str t) st := by
    unfold evVar
    rw [h0]
  have it : itVal (evM1 kSplit (evVar 0) (evC (.str "\n"))) ρ st = .ok ((Txt.split t "\n").map D.str) st := by
    rw [itVal_ap, evM1_ap v0 rfl, kSplit_ok (by decide) ht, R.lift_some, R.bind_ok]
    rfl
  have c := evLc_map (vs := [5]) (g := gN 5) (e := evM1 kSplit (evVar 5) (evC (.str " "))) D.str (fun line => .lst ((Txt.split line " ").map .str)) (Txt.split t "\n") it (by have := split_len tl_nl t; omega) fun line hl => ⟨(wipeS ρ [5]).set 5 (some (.str line)), rfl, by
    have v5 : evVar 5 ((wipeS ρ [5]).set 5 (some (.str line))) st = .ok (.str line) st := by
      unfold evVar
      rw [hw, List.set_set, List.getElem?_set_self h5]
    rw [evM1_ap v5 rfl, kSplit_ok (by decide) (Nat.le_trans (split_mem_len tl_nl hl) ht), R.lift_some]⟩
  rw [c]
  unfold rowsOf
  rw [List.map_map]
  rfl
theorem rows_strOk {t : Str} (hs : PyData.strOk t = true) {r : List Str} (hr : r ∈ rowsOf t) : ∀ w ∈ r, PyData.strOk w = true := fun w hw => by
  obtain ⟨line, hl, rfl⟩ := List.mem_map.mp hr
  exact split_ok tl_sp (split_ok tl_nl hs hl) hw
theorem rows_len' {t : Str} {r : List Str} (hr : r ∈ rowsOf t) : r.length ≤ t.length + 1 := by
  obtain ⟨line, hl, rfl⟩ := List.mem_map.mp hr
  have := split_len tl_sp line
  have := split_mem_len tl_nl hl
  omega
theorem rowsOf_len (t : Str) : (rowsOf t).length ≤ t.length + 1 := by
  unfold rowsOf
  rw [List.length_map]
  exact split_len tl_nl t
theorem rowsOf_ne (t : Str) : rowsOf t ≠ [] := fun h => split_ne t "\n" (List.map_eq_nil_iff.mp h)
theorem nums_len {ws : List Str} {l : List Nat} (h : numsOf ws = some l) : l.length = ws.length := by
  unfold numsOf at h
  split at h
  · cases h
    rw [List.length_map]
  · cases h
end Lw
set_option Elab.async false
set_option linter.all false
set_option maxRecDepth 100000
set_option maxHeartbeats 4000000
namespace Lw
open PySem Ip Lots

theorem evSl1 {i : Nat} {xs : List D} {ρ : Sl} {st : Sto} (h : ρ[i]? = some (some (.lst xs))) : evSl (evVar i) (eoSome (evC (.int 1))) eoNone ρ st = .ok (.lst xs.tail) st := by
  have v : evVar i ρ st = .ok (.lst xs) st := by
    unfold evVar
    rw [h]
  have e : oSl st (.lst xs) (some 1) none = some (.lst xs.tail) := by
    show some (D.lst (cutD xs (some 1) none)) = _
    rw [cut_tail]
  simp [v, e]
theorem okS_num (o : Option (List Nat)) : okS (encNum o) = true := by
  cases o with
  | none => rfl
  | some l => exact okS_dL
theorem eqD_num (o : Option (List Nat)) : eqD (encNum o) .non = decide (o = none) := by
  cases o with
  | none => rfl
  | some l =>
    show PyData.eqv (.tuple (pys (l.map dI))) .none = _
    simp [PyData.eqv]
theorem none_in {st : Sto} (os : List (Option (List Nat))) : oIn st .non (.tup (os.map encNum)) = some (.bl (os.any fun o => decide (o = none))) := by
  unfold oIn
  have e : items st (.tup (os.map encNum)) = some (os.map encNum) := rfl
  rw [e]
  dsimp only
  rw [if_pos ⟨rfl, okSs_map fun o _ => okS_num o⟩]
  congr 2
  unfold inD
  rw [List.any_map]
  congr 1
  funext o
  exact eqD_num o
theorem oNe_strs {st : Sto} {a b : Str} (ha : PyData.strOk a = true) (hb : PyData.strOk b = true) : oNe st (.str a) (.str b) = some (.bl (!decide (a = b))) := by
  have e : oNe st (.str a) (.str b) = if okD (.str a) = true ∧ okD (.str b) = true then some (.bl (!eqD (.str a) (.str b))) else none := rfl
  rw [e, if_pos ⟨okD_str ha, okD_str hb⟩, str_eqv]
theorem oIs_num {st : Sto} (o : Option (List Nat)) : oIs st (encNum o) .non = some (.bl (decide (o = none))) := by
  cases o <;> rfl
/-- what plan_in gives -/
def encP (st : Sto) : Option Pl → R D
  | some p => .ok (dP p) st
  | none => .exc "InvalidText" st
theorem plan_in_ok {t : Str} (ht : t.length ≤ 100000) (hs : PyData.strOk t = true) (st : Sto) : f_plan_in [.str t] st = encP st (readP t) := by
  have z0 : slots0 7 [.str t] = [some (.str t), none, none, none, none, none, none] := rfl
  have i0 : isD .str (.str t) = some true := Eq.trans rfl rfl
  have s0 : pi0 [some (.str t), none, none, none, none, none, none] st = .nx [some (.str t), none, none, none, none, none, none] st := by
    simp [pi0, i0]
  have c1 := rows_ok ht (ρ := [some (.str t), none, none, none, none, none, none]) (st := st) rfl (by show 5 < 7; decide) rfl
  have hne := rowsOf_ne t
  have hlen := rowsOf_len t
  have hok : ∀ r ∈ rowsOf t, ∀ w ∈ r, PyData.strOk w = true := fun r hr => rows_strOk hs hr
  have hrl : ∀ r ∈ rowsOf t, r.length ≤ 100001 := fun r hr => by have := rows_len' hr; omega
  unfold readP
  generalize rowsOf t = rw0 at *
  match rw0, hne with
  | r :: rs, _ =>
  have s1 : pi1 [some (.str t), none, none, none, none, none, none] st = .nx [some (.str t), some (.lst ((r :: rs).map fun r => .lst (r.map .str))), none, none, none, none, none] st := by
    unfold pi1
    rw [sSet_ap, c1, R.stm_ok, kSet_0]
    rfl
  generalize hR : (r :: rs).map (fun r => D.lst (r.map .str)) = RR at s1
  have hT : RR.tail = rs.map fun r => D.lst (r.map .str) := by rw [← hR]; rfl
  have hH : RR[0]? = some (.lst (r.map .str)) := by rw [← hR]; rfl
  have c2 : evLc [6] (itVal (evSl (evVar 1) (eoSome (evC (.int 1))) eoNone)) (gN 6) ebYes (evCall 1 f_numbers_in (eaCons (evSl (evVar 6) (eoSome (evC (.int 1))) eoNone) eaNil)) [some (.str t), some (.lst RR), none, none, none, none, none] st = .ok (.lst (rs.map fun w => encNum (numsOf w.tail))) st := by
    refine evLc_map (fun w : List Str => D.lst (w.map .str)) (fun w => encNum (numsOf w.tail)) rs ?_ (by rw [List.length_cons] at hlen; omega) fun w hw => ⟨[some (.str t), some (.lst RR), none, none, none, none, some (.lst (w.map .str))], rfl, ?_⟩
    · have := evSl1 (i := 1) (xs := RR) (ρ := [some (.str t), some (.lst RR), none, none, none, none, none]) (st := st) rfl
      rw [itVal_ap, this, R.bind_ok, hT]
      rfl
    · have h6 := evSl1 (i := 6) (xs := w.map D.str) (ρ := [some (.str t), some (.lst RR), none, none, none, none, some (.lst (w.map .str))]) (st := st) rfl
      have e : (w.map D.str).tail = w.tail.map D.str := List.map_tail.symm
      rw [e] at h6
      have ni := numbers_in_ok (ws := w.tail) (fun x hx => hok w (List.mem_cons_of_mem _ hw) x (List.mem_of_mem_tail hx)) (by have := hrl w (List.mem_cons_of_mem _ hw); rw [List.length_tail]; omega) st
      generalize evSl (evVar 6) (eoSome (evC (.int 1))) eoNone = SL at h6 ⊢
      generalize w.tail.map D.str = WT at h6 ni
      simp [h6, ni]
  have s2 : pi2 [some (.str t), some (.lst RR), none, none, none, none, none] st = .nx [some (.str t), some (.lst RR), some (.tup (rs.map fun w => encNum (numsOf w.tail))), none, none, none, none] st := by
    unfold pi2
    rw [sSet_ap, tupLc c2, R.stm_ok, kSet_0]
    rfl
  have c3 : evCall 1 f_numbers_in (eaCons (evSl (evOp oIx (evVar 1) (evC (.int 0))) (eoSome (evC (.int 1))) eoNone) eaNil) [some (.str t), some (.lst RR), some (.tup (rs.map fun w => encNum (numsOf w.tail))), none, none, none, none] st = .ok (encNum (numsOf r.tail)) st := by
    have ni := numbers_in_ok (ws := r.tail) (fun x hx => hok r (List.mem_cons_self ..) x (List.mem_of_mem_tail hx)) (by have := hrl r (List.mem_cons_self ..); rw [List.length_tail]; omega) st
    have ix : evOp oIx (evVar 1) (evC (.int 0)) [some (.str t), some (.lst RR), some (.tup (rs.map fun w => encNum (numsOf w.tail))), none, none, none, none] st = .ok (.lst (r.map .str)) st := by
      simp [oIx, hH]
    have e2 : oSl st (.lst (r.map .str)) (some 1) none = some (.lst (r.tail.map .str)) := by
      show some (D.lst (cutD (r.map D.str) (some 1) none)) = _
      rw [cut_tail, List.map_tail]
    generalize evOp oIx (evVar 1) (evC (.int 0)) = IX at ix ⊢
    generalize r.tail.map D.str = RT at e2 ni
    simp [ix, e2, ni]
  have s3 : pi3 [some (.str t), some (.lst RR), some (.tup (rs.map fun w => encNum (numsOf w.tail))), none, none, none, none] st = .nx [some (.str t), some (.lst RR), some (.tup (rs.map fun w => encNum (numsOf w.tail))), some (encNum (numsOf r.tail)), none, none, none] st := by
    unfold pi3
    rw [sSet_ap, c3, R.stm_ok, kSet_0]
    rfl
  have ni := none_in (st := st) (rs.map fun w => numsOf w.tail)
  rw [List.map_map] at ni
  have ni : oIn st .non (.tup (rs.map fun w => encNum (numsOf w.tail))) = some (.bl ((rs.map fun w => numsOf w.tail).any fun o => decide (o = none))) := ni
  have go : f_plan_in [.str t] st = fnEnd false st.length ((sCons pi4 (sCons pi5 (sCons pi6 (sCons pi7 sNil)))) [some (.str t), some (.lst RR), some (.tup (rs.map fun w => encNum (numsOf w.tail))), some (encNum (numsOf r.tail)), none, none, none] st) := by
    unfold f_plan_in
    rw [pieq, fnRun_ap, z0, pib, sCons_ap, s0, RS.seq_nx, sCons_ap, s1, RS.seq_nx, sCons_ap, s2, RS.seq_nx, sCons_ap, s3, RS.seq_nx]
  rw [go]
  have isn := oIs_num (st := st) (numsOf r.tail)
  have ex4 : ∀ {b : Bool}, (ebOr (ebOf (evOp oIs (evVar 3) (evC .non))) (ebOr (ebOf (evOp oNe (evB bLen (eaCons (evVar 3) eaNil)) (evC (.int 1)))) (ebOf (evOp oIn (evC .non) (evVar 2))))) [some (.str t), some (.lst RR), some (.tup (rs.map fun w => encNum (numsOf w.tail))), some (encNum (numsOf r.tail)), none, none, none] st = .ok true st →
      fnEnd false st.length ((sCons pi4 (sCons pi5 (sCons pi6 (sCons pi7 sNil)))) [some (.str t), some (.lst RR), some (.tup (rs.map fun w => encNum (numsOf w.tail))), some (encNum (numsOf r.tail)), none, none, none] st) = .exc "InvalidText" st := fun {b} h => by
    have : pi4 [some (.str t), some (.lst RR), some (.tup (rs.map fun w => encNum (numsOf w.tail))), some (encNum (numsOf r.tail)), none, none, none] st = .exc "InvalidText" [some (.str t), some (.lst RR), some (.tup (rs.map fun w => encNum (numsOf w.tail))), some (encNum (numsOf r.tail)), none, none, none] st := by
      unfold pi4
      rw [sIf_ap, h, R.stm_ok, kSIf_0]
      rfl
    rw [sCons_ap, this]
    exact fnEnd_exc
  dsimp only
  cases hn : numsOf r.tail with
  | none =>
    rw [hn] at ex4 isn
    rw [ex4 (b := true) (by
      have isn : oIs st (encNum none) .non = some (.bl true) := isn
      generalize encNum none = EN at isn ⊢
      simp [isn])]
    rfl
  | some l =>
    rw [hn] at ex4 isn
    have isn : oIs st (dL l) .non = some (.bl false) := isn
    by_cases hl1 : l.length = 1
    · obtain ⟨m, rfl⟩ := List.length_eq_one_iff.mp hl1
      by_cases hall : (rs.all fun w => (numsOf w.tail).isSome) = true
      · have hany : ((rs.map fun w => numsOf w.tail).any fun o => decide (o = none)) = false := by
          rw [List.any_map, Bool.eq_false_iff]
          intro h
          obtain ⟨w, hw, e⟩ := List.any_eq_true.mp h
          have := List.all_eq_true.mp hall w hw
          have e : numsOf w.tail = none := of_decide_eq_true e
          rw [e] at this
          cases this
        rw [hany] at ni
        have lots : (rs.map fun w => encNum (numsOf w.tail)) = ((rs.map fun w => (numsOf w.tail).getD []).map dL) := by
          rw [List.map_map]
          refine List.map_congr_left fun w hw => ?_
          have := List.all_eq_true.mp hall w hw
          show encNum (numsOf w.tail) = dL ((numsOf w.tail).getD [])
          cases e : numsOf w.tail with
          | none => rw [e] at this; cases this
          | some l => rfl
        rw [lots] at ni ⊢
        dsimp only
        rw [if_pos hall]
        have hll : ∀ l ∈ (rs.map fun w => (numsOf w.tail).getD []), l.length ≤ 500000 := fun l hl => by
          obtain ⟨w, hw, rfl⟩ := List.mem_map.mp hl
          have h2 := hrl w (List.mem_cons_of_mem _ hw)
          cases e : numsOf w.tail with
          | none => exact Nat.zero_le _
          | some l =>
            have := nums_len e
            rw [List.length_tail] at this
            show l.length ≤ _
            omega
        have hl2 : (rs.map fun w => (numsOf w.tail).getD []).length ≤ 500000 := by
          rw [List.length_map]
          rw [List.length_cons] at hlen
          omega
        generalize (rs.map fun w => (numsOf w.tail).getD []) = ls at *
        have fp := fits_plan_nat (p := (m, ls)) hll hl2 st
        have s4 : pi4 [some (.str t), some (.lst RR), some (.tup (ls.map dL)), some (dL [m]), none, none, none] st = .nx [some (.str t), some (.lst RR), some (.tup (ls.map dL)), some (dL [m]), none, none, none] st := by
          simp [pi4, isn, ni]
        have s5 : pi5 [some (.str t), some (.lst RR), some (.tup (ls.map dL)), some (dL [m]), none, none, none] st = .nx [some (.str t), some (.lst RR), some (.tup (ls.map dL)), some (dL [m]), some (dP (m, ls)), none, none] st := by
          have ix : oIx st (dL [m]) (.int 0) = some (dI m) := by simp [oIx, dL]
          simp [pi5, ix]
          rfl
        show fnEnd false st.length ((sCons pi4 (sCons pi5 (sCons pi6 (sCons pi7 sNil)))) [some (.str t), some (.lst RR), some (.tup (ls.map dL)), some (dL [m]), none, none, none] st) = _
        rw [sCons_ap, s4, RS.seq_nx, sCons_ap, s5, RS.seq_nx]
        cases hq : okQ (m, ls) with
        | false =>
          rw [hq] at fp
          have s6 : pi6 [some (.str t), some (.lst RR), some (.tup (ls.map dL)), some (dL [m]), some (dP (m, ls)), none, none] st = .exc "InvalidText" [some (.str t), some (.lst RR), some (.tup (ls.map dL)), some (dL [m]), some (dP (m, ls)), none, none] st := by
            simp [pi6, fp]
          rw [sCons_ap, s6, if_neg (fun z => Bool.false_ne_true z.1)]
          exact fnEnd_exc
        | true =>
          rw [hq] at fp
          have op := okQ_ok.mp hq
          have at' := as_text_ok op st
          have nq := oNe_strs (st := st) (textOf_ok op) hs
          by_cases ht' : textOf (m, ls) = t
          · rw [if_pos ⟨rfl, ht'⟩]
            rw [ht'] at nq at'
            have s6 : pi6 [some (.str t), some (.lst RR), some (.tup (ls.map dL)), some (dL [m]), some (dP (m, ls)), none, none] st = .nx [some (.str t), some (.lst RR), some (.tup (ls.map dL)), some (dL [m]), some (dP (m, ls)), none, none] st := by
              simp [pi6, fp, at', nq]
            have s7 : pi7 [some (.str t), some (.lst RR), some (.tup (ls.map dL)), some (dL [m]), some (dP (m, ls)), none, none] st = .rt (dP (m, ls)) st := by
              simp [pi7]
            rw [sCons_ap, s6, RS.seq_nx, sCons_ap, s7, RS.seq_rt]
            exact fnEnd_rt
          · rw [if_neg fun z => ht' z.2]
            have s6 : pi6 [some (.str t), some (.lst RR), some (.tup (ls.map dL)), some (dL [m]), some (dP (m, ls)), none, none] st = .exc "InvalidText" [some (.str t), some (.lst RR), some (.tup (ls.map dL)), some (dL [m]), some (dP (m, ls)), none, none] st := by
              simp [pi6, fp, at', nq, ht']
            rw [sCons_ap, s6]
            exact fnEnd_exc
      · have hany : ((rs.map fun w => numsOf w.tail).any fun o => decide (o = none)) = true := by
          rw [List.any_map, List.any_eq_true]
          have h := Bool.eq_false_iff.mpr hall
          rw [List.all_eq_false] at h
          obtain ⟨w, hw, e⟩ := h
          refine ⟨w, hw, decide_eq_true ?_⟩
          show numsOf w.tail = none
          cases e2 : numsOf w.tail with
          | none => rfl
          | some l => rw [e2] at e; exact absurd rfl e
        rw [hany] at ni
        dsimp only
        rw [if_neg hall]
        rw [ex4 (b := true) (by
          show (ebOr _ _) [some (.str t), some (.lst RR), some (.tup (rs.map fun w => encNum (numsOf w.tail))), some (dL [m]), none, none, none] st = _
          generalize (rs.map fun w => encNum (numsOf w.tail)) = LL at ni ⊢
          simp [isn, ni])]
        rfl
    · have e1 : decide ((l.length : Int) = 1) = false := decide_eq_false (by omega)
      rw [ex4 (b := true) (by
        show (ebOr _ _) [some (.str t), some (.lst RR), some (.tup (rs.map fun w => encNum (numsOf w.tail))), some (dL l), none, none, none] st = _
        simp [isn, e1, hl1])]
      match l, hl1 with
      | [], _ => rfl
      | [x], h => exact absurd rfl h
      | x :: y :: r, _ => rfl
end Lw
set_option Elab.async false
set_option linter.all false
set_option maxRecDepth 100000
set_option maxHeartbeats 4000000
namespace Lw
open PySem Ip Lots

/-- sorted(set(..)) beside the list itself -/
theorem rise_set {m : Nat} {l : List Nat} (h : ∀ x ∈ l, x < m) : riseB m l = decide (uniqS (l.map fun (n : Nat) => (n : Int)) = l.map fun (n : Nat) => (n : Int)) := by
  rw [Bool.eq_iff_iff, riseB_iff, decide_eq_true_eq]
  constructor
  · intro ha
    refine ltI_unique (uniqS_lt _) ?_ fun x => uniqS_mem
    rw [List.pairwise_map]
    exact ha.1.imp fun h => by omega
  · intro e
    refine ⟨?_, h⟩
    have := uniqS_lt (l.map fun (n : Nat) => (n : Int))
    rw [e, List.pairwise_map] at this
    exact this.imp fun h => by omega
theorem dedup_len {l : List Nat} {m : Nat} (h : ∀ x ∈ l, x < m) : (dedupI (l.map fun (n : Nat) => (n : Int))).length ≤ m := by
  have sb : dedupI (l.map fun (n : Nat) => (n : Int)) ⊆ (List.range m).map fun (n : Nat) => (n : Int) := fun x hx => by
    obtain ⟨y, hy, rfl⟩ := List.mem_map.mp (dedupI_mem.mp hx)
    exact List.mem_map.mpr ⟨y, List.mem_range.mpr (h y hy), rfl⟩
  have := (dedupI_nodup (l.map fun (n : Nat) => (n : Int))).length_le_of_subset sb
  rw [List.length_map, List.length_range] at this
  exact this
theorem kSS_ints {l : List Nat} {m : Nat} (h : ∀ x ∈ l, x < m) (hm : m ≤ 60) (hl : l.length ≤ 4000) : kSS (dL l) = some (.lst ((uniqS (l.map fun (n : Nat) => (n : Int))).map .int)) := by
  have e : intsOf (l.map dI) = some (l.map fun (n : Nat) => (n : Int)) := intsOf_nat
  show (match intsOf (l.map dI) with
    | some ns => if ns.length ≤ 4000 ∧ (dedupI ns).length ≤ 60 then some (D.lst ((uniqS ns).map .int)) else none
    | none => none) = _
  rw [e]
  dsimp only
  rw [if_pos ⟨by rw [List.length_map]; exact hl, Nat.le_trans (dedup_len h) hm⟩]
theorem eqvAll_intsZ : ∀ {a b : List Int}, PyData.eqvAll (pys (a.map D.int)) (pys (b.map D.int)) = decide (a = b)
  | [], [] => by simp [pys, PyData.eqvAll]
  | [], _ :: _ => by simp [pys, PyData.eqvAll]
  | _ :: _, [] => by simp [pys, PyData.eqvAll]
  | x :: a, y :: b => by
    have ih := eqvAll_intsZ (a := a) (b := b)
    simp only [List.map_cons, pys, py, PyData.eqvAll, PyData.eqv, ih]
    by_cases h : x = y
    · subst h; simp
    · have : (x == y) = false := beq_eq_false_iff_ne.mpr h
      rw [this]
      simp [h]
theorem oNe_intsZ {st : Sto} {a b : List Int} : oNe st (.lst (a.map D.int)) (.lst (b.map D.int)) = some (.bl (!decide (a = b))) := by
  have ok : ∀ c : List Int, okD (.lst (c.map D.int)) = true := fun c => okD_lst (okSs_map fun _ _ => rfl) fun x hx => by
    obtain ⟨n, _, rfl⟩ := List.mem_map.mp hx
    show (PyData.int n).depth ≤ 60
    simp [PyData.depth]
  have e : oNe st (.lst (a.map D.int)) (.lst (b.map D.int)) = if okD (.lst (a.map D.int)) = true ∧ okD (.lst (b.map D.int)) = true then some (.bl (!eqD (.lst (a.map D.int)) (.lst (b.map D.int)))) else none := rfl
  have f : eqD (.lst (a.map D.int)) (.lst (b.map D.int)) = decide (a = b) := by
    show PyData.eqv (.list (pys (a.map D.int))) (.list (pys (b.map D.int))) = _
    rw [PyData.eqv, eqvAll_intsZ]
  rw [e, if_pos ⟨ok a, ok b⟩, f]
theorem oEq_intsZ {st : Sto} {a b : List Int} : oEq st (.lst (a.map D.int)) (.lst (b.map D.int)) = some (.bl (decide (a = b))) := by
  have ok : ∀ c : List Int, okD (.lst (c.map D.int)) = true := fun c => okD_lst (okSs_map fun _ _ => rfl) fun x hx => by
    obtain ⟨n, _, rfl⟩ := List.mem_map.mp hx
    show (PyData.int n).depth ≤ 60
    simp [PyData.depth]
  have e : oEq st (.lst (a.map D.int)) (.lst (b.map D.int)) = if okD (.lst (a.map D.int)) = true ∧ okD (.lst (b.map D.int)) = true then some (.bl (eqD (.lst (a.map D.int)) (.lst (b.map D.int)))) else none := rfl
  have f : eqD (.lst (a.map D.int)) (.lst (b.map D.int)) = decide (a = b) := by
    show PyData.eqv (.list (pys (a.map D.int))) (.list (pys (b.map D.int))) = _
    rw [PyData.eqv, eqvAll_intsZ]
  rw [e, if_pos ⟨ok a, ok b⟩, f]
end Lw
set_option Elab.async false
set_option linter.all false
set_option maxRecDepth 100000
set_option maxHeartbeats 0
namespace K01
open PySem PySem.Spec PyProof.Rows L2 Ip Lots
noncomputable section
def top (i : Nat) : Stmt := PySem.Challenge.pw_testedlots_k01_plans_and_views_known.main.body.getD i (.Pass ⟨0, 0, 0, 0⟩)
abbrev cl_law_error : Nat := 6
abbrev cl_law_all_refused : Nat := 5
abbrev n_is_whole : List (Str × Nat × Nat × Fn) := []
def c_is_whole : Ip.Ctx := ⟨["value", "low", "high"], defScope (top 22), fun _ => true, 0, n_is_whole, [], [], [], [], [], [], false, none, none, [], []⟩
abbrev n_view_of : List (Str × Nat × Nat × Fn) := []
def c_view_of : Ip.Ctx := ⟨["plan", "case", "number", "lot", "thing"], defScope (top 29), fun _ => true, 0, n_view_of, [], [], [], [], [], [], false, none, none, [], []⟩
abbrev n_lots_of : List (Str × Nat × Nat × Fn) := []
def c_lots_of : Ip.Ctx := ⟨["plan", "thing", "number", "lot"], defScope (top 30), fun _ => true, 0, n_lots_of, [], [], [], [], [], [], false, none, none, [], []⟩
abbrev n_law_cell : List (Str × Nat × Nat × Fn) := []
def c_law_cell : Ip.Ctx := ⟨["script", "k"], defScope (top 36), fun _ => true, 0, n_law_cell, [], [], [], [], [], [], false, none, none, [], []⟩
abbrev n_law_take : List (Str × Nat × Nat × Fn) := []
def c_law_take : Ip.Ctx := ⟨["bag", "many", "draw"], defScope (top 39), fun _ => true, 0, n_law_take, [], [], [], [], [], [], false, none, none, [], []⟩
abbrev n_law_known : List (Str × Nat × Nat × Fn) := []
def c_law_known : Ip.Ctx := ⟨["some"], defScope (top 41), fun _ => true, 0, n_law_known, [], [], [], [], [], [], false, none, none, [], []⟩
abbrev n_law_view : List (Str × Nat × Nat × Fn) := []
def c_law_view : Ip.Ctx := ⟨["one", "case_so", "found", "number", "lot", "thing"], defScope (top 43), fun _ => true, 0, n_law_view, [], [], [], [], [], [], false, none, none, [], []⟩
abbrev n_law_suspects : List (Str × Nat × Nat × Fn) := []
def c_law_suspects : Ip.Ctx := ⟨["one", "view", "good", "number", "lot", "thing"], defScope (top 44), fun _ => true, 0, n_law_suspects, [], [], [], [], [], [], false, none, none, [], []⟩
abbrev n_law_whole : List (Str × Nat × Nat × Fn) := []
def c_law_whole : Ip.Ctx := ⟨["value", "low", "high"], defScope (top 45), fun _ => true, 0, n_law_whole, [], [], [], [], [], [], false, none, none, [], []⟩
abbrev n_law_truly : List (Str × Nat × Nat × Fn) := []
def c_law_truly : Ip.Ctx := ⟨["found", "due"], defScope (top 49), fun _ => true, 0, n_law_truly, [], [], [], [], [], [], false, none, none, [], []⟩
abbrev n_law_bad_plans : List (Str × Nat × Nat × Fn) := []
def c_law_bad_plans : Ip.Ctx := ⟨["some"], defScope (top 51), fun _ => true, 0, n_law_bad_plans, [], [], [], [], [], [], false, none, none, [], []⟩
abbrev n_law_bad_views : List (Str × Nat × Nat × Fn) := []
def c_law_bad_views : Ip.Ctx := ⟨["many"], defScope (top 52), fun _ => true, 0, n_law_bad_views, [], [], [], [], [], [], false, none, none, [], []⟩
abbrev n_is_rising : List (Str × Nat × Nat × Fn) := [("is_whole", 3, 1, f_is_whole)]
def c_is_rising : Ip.Ctx := ⟨["value", "many", "one", "other"], defScope (top 23), fun _ => true, 1, n_is_rising, [], [], [], [], [], [], false, none, none, [], []⟩
abbrev n_need_thing : List (Str × Nat × Nat × Fn) := [("is_whole", 3, 1, f_is_whole)]
def c_need_thing : Ip.Ctx := ⟨["value", "many"], defScope (top 28), fun _ => true, 1, n_need_thing, [], ["InvalidThing"], [], [], [], [], false, none, none, [], []⟩
abbrev n_law_draws : List (Str × Nat × Nat × Fn) := [("_law_cell", 2, 1, f_law_cell)]
def c_law_draws : Ip.Ctx := ⟨["script", "k", "many", "base", "primes", "cell", "rest", "row", "j", "mash"], defScope (top 37), fun _ => true, 1, n_law_draws, [], [], [], ["row"], [], [], false, none, none, [], []⟩
abbrev n_law_choice : List (Str × Nat × Nat × Fn) := [("_law_take", 2, 1, f_law_take)]
def c_law_choice : Ip.Ctx := ⟨["bag", "some"], defScope (top 40), fun _ => true, 1, n_law_choice, [], [], [], [], [], [], false, none, none, [], []⟩
abbrev n_law_rising : List (Str × Nat × Nat × Fn) := [("_law_whole", 3, 1, f_law_whole)]
def c_law_rising : Ip.Ctx := ⟨["value", "many", "one"], defScope (top 46), fun _ => true, 1, n_law_rising, [], [], [], [], [], [], false, none, none, [], []⟩
abbrev n_fits_plan : List (Str × Nat × Nat × Fn) := [("is_rising", 2, 2, f_is_rising), ("is_whole", 3, 1, f_is_whole)]
def c_fits_plan : Ip.Ctx := ⟨["value", "lot"], defScope (top 24), fun _ => true, 2, n_fits_plan, [("LOTS", 10), ("THINGS", 10)], [], [], [], [], [], false, none, none, [], []⟩
abbrev n_need_case : List (Str × Nat × Nat × Fn) := [("is_rising", 2, 2, f_is_rising)]
def c_need_case : Ip.Ctx := ⟨["plan", "value"], defScope (top 26), fun _ => true, 2, n_need_case, [], ["InvalidCase"], [], [], [], [], false, none, none, [], []⟩
abbrev n_need_view : List (Str × Nat × Nat × Fn) := [("is_rising", 2, 2, f_is_rising)]
def c_need_view : Ip.Ctx := ⟨["many", "value"], defScope (top 27), fun _ => true, 2, n_need_view, [], ["InvalidView"], [], [], [], [], false, none, none, [], []⟩
abbrev n_law_bag : List (Str × Nat × Nat × Fn) := [("_law_draws", 4, 2, f_law_draws)]
def c_law_bag : Ip.Ctx := ⟨["script", "k"], defScope (top 38), fun _ => true, 2, n_law_bag, [], [], [], [], [], [], false, none, none, [], []⟩
abbrev n_law_plan : List (Str × Nat × Nat × Fn) := [("_law_take", 2, 1, f_law_take), ("_law_choice", 2, 2, f_law_choice)]
def c_law_plan : Ip.Ctx := ⟨["bag", "things", "lots_so", "many", "found", "few", "turn", "thing"], defScope (top 42), fun _ => true, 2, n_law_plan, [], [], [], [], [], [], false, none, none, [], []⟩
abbrev n_law_good_plan : List (Str × Nat × Nat × Fn) := [("_law_rising", 2, 2, f_law_rising), ("_law_whole", 3, 1, f_law_whole)]
def c_law_good_plan : Ip.Ctx := ⟨["value", "lot"], defScope (top 53), fun _ => true, 2, n_law_good_plan, [], [], [], [], [], [], false, none, none, [], []⟩
abbrev n_need_plan : List (Str × Nat × Nat × Fn) := [("fits_plan", 1, 3, f_fits_plan)]
def c_need_plan : Ip.Ctx := ⟨["value"], defScope (top 25), fun _ => true, 3, n_need_plan, [], ["InvalidPlan"], [], [], [], [], false, none, none, [], []⟩
abbrev n_is_plan : List (Str × Nat × Nat × Fn) := [("fits_plan", 1, 3, f_fits_plan)]
def c_is_plan : Ip.Ctx := ⟨["value"], defScope (top 31), fun _ => true, 3, n_is_plan, [], [], [], [], [], [], false, none, none, [], []⟩
abbrev n_shown : List (Str × Nat × Nat × Fn) := [("view_of", 2, 1, f_view_of), ("need_case", 2, 3, f_need_case), ("need_plan", 1, 4, f_need_plan)]
def c_shown : Ip.Ctx := ⟨["plan", "case"], defScope (top 32), fun _ => true, 4, n_shown, [], [], [], [], [], [], false, none, none, [], []⟩
abbrev n_suspects : List (Str × Nat × Nat × Fn) := [("lots_of", 2, 1, f_lots_of), ("need_view", 2, 3, f_need_view), ("need_plan", 1, 4, f_need_plan)]
def c_suspects : Ip.Ctx := ⟨["plan", "view", "thing", "number"], defScope (top 33), fun _ => true, 4, n_suspects, [], [], [], [], [], [], false, none, none, [], []⟩
abbrev n_lots_with : List (Str × Nat × Nat × Fn) := [("lots_of", 2, 1, f_lots_of), ("need_thing", 2, 2, f_need_thing), ("need_plan", 1, 4, f_need_plan)]
def c_lots_with : Ip.Ctx := ⟨["plan", "thing"], defScope (top 34), fun _ => true, 4, n_lots_with, [], [], [], [], [], [], false, none, none, [], []⟩
abbrev n_law_error : List (Str × Nat × Nat × Fn) := []
def c_law_error (d : Ip.D) (g : Fn) : Ip.Ctx := ⟨["call", "e"], defScope (top 48), fun _ => true, 7, n_law_error, [], [], [], [], [⟨d, 0, cl_law_error + 1, g⟩], [], false, none, (some 1), ers0, []⟩
def b_law_error (d : Ip.D) (g : Fn) : Es := (sCons (sTry (sCons (sExp (evCallV 0 [⟨d, 0, cl_law_error + 1, g⟩] n_law_error eaNil)) sNil) (ersOf ers0 sufA)) (sCons (sRet (evC (.str ""))) sNil))
abbrev n_law_all_refused : List (Str × Nat × Nat × Fn) := []
def c_law_all_refused (d : Ip.D) (g : Fn) : Ip.Ctx := ⟨["call", "odds", "name", "odd"], defScope (top 50), fun _ => true, 8, n_law_all_refused, [], [], [], [], [⟨d, 1, cl_law_all_refused + 1, g⟩], [⟨"_law_error", 0, 0, cl_law_error, 8, F_law_error⟩], true, none, none, [], []⟩
def b_law_all_refused (d : Ip.D) (g : Fn) : Es := (sCons (sRet (evOp oEq (evLc [3] (itVal (evVar 1)) (gN 3) (ebOf (evOp oNe (evLam F_law_error (evCallV 0 (([⟨d, 1, cl_law_all_refused + 1, g⟩] : List Cal).filter fun c => decide (c.lv ≤ cl_law_error)) (n_law_all_refused.filter fun q => decide (q.2.2.1 ≤ cl_law_error)) (eaCons (evVar 1) eaNil)) ["call", "odd"] [0, 3] 0 eaNil) (evVar 2))) (evVar 3)) (evL (elDisp eaNil)))) sNil)
abbrev n_law_refused : List (Str × Nat × Nat × Fn) := [("lots_with", 2, 5, f_lots_with), ("_law_bad_views", 1, 1, f_law_bad_views), ("suspects", 2, 5, f_suspects), ("shown", 2, 5, f_shown), ("_law_bad_plans", 0, 1, f_law_bad_plans)]
def c_law_refused : Ip.Ctx := ⟨["one", "call"], defScope (top 55), fun _ => true, 9, n_law_refused, [], [], [], [], [], [⟨"_law_all_refused", 2, 1, cl_law_all_refused, 9, F_law_all_refused⟩], true, none, none, [], []⟩
def b_law_refused : Es := (sCons (sFor (itVal (evTup (eaCons (evC (.glo "shown")) (eaCons (evC (.glo "suspects")) (eaCons (evC (.glo "lots_with")) eaNil))))) (gN 1) (sCons (sIf (ebNot (ebOf (evLam F_law_all_refused (evCallV 1 [] (n_law_refused.filter fun q => decide (q.2.2.1 ≤ cl_law_all_refused)) (eaCons (evVar 0) (eaCons (evC .non) eaNil))) ["odd", "call"] [1] 2 (eaCons (evCall 0 f_law_bad_plans eaNil) (eaCons (evC (.str "plan")) eaNil))))) (sCons (sRet (evC (.bl false))) sNil) sNil) sNil)) (sCons (sIf (ebNot (ebOf (evLam F_law_all_refused (evCall 2 f_shown (eaCons (evVar 1) (eaCons (evVar 0) eaNil))) ["odd", "one"] [0] 2 (eaCons (evCall 1 f_law_bad_views (eaCons (evOp oIx (evVar 0) (evC (.int 0))) eaNil)) (eaCons (evC (.str "case")) eaNil))))) (sCons (sRet (evC (.bl false))) sNil) sNil) (sCons (sIf (ebNot (ebOf (evLam F_law_all_refused (evCall 2 f_suspects (eaCons (evVar 1) (eaCons (evVar 0) eaNil))) ["odd", "one"] [0] 2 (eaCons (evCall 1 f_law_bad_views (eaCons (evB bLen (eaCons (evOp oIx (evVar 0) (evC (.int 1))) eaNil)) eaNil)) (eaCons (evC (.str "view")) eaNil))))) (sCons (sRet (evC (.bl false))) sNil) sNil) (sCons (sRet (evLam F_law_all_refused (evCall 2 f_lots_with (eaCons (evVar 1) (eaCons (evVar 0) eaNil))) ["odd", "one"] [0] 2 (eaCons (evL (elDisp (eaCons (evC .non) (eaCons (evNeg (evC (.int 1))) (eaCons (evOp oIx (evVar 0) (evC (.int 0))) (eaCons (evC (.bl true)) (eaCons (evC (.str "0")) (eaCons (evTup (eaCons (evC (.int 0)) eaNil)) eaNil)))))))) (eaCons (evC (.str "thing")) eaNil)))) sNil))))
def f_law_refused : Fn := fnRun false 2 b_law_refused
abbrev n_law_bent (lv : Nat) (g : Fn) : List (Str × Nat × Nat × Fn) := [("_law_bent", 2, lv, g), ("_law_take", 2, 1, f_law_take), ("_law_choice", 2, 2, f_law_choice)]
def c_law_bent (lv : Nat) (g : Fn) : Ip.Ctx := ⟨["bag", "value", "at", "way", "some"], defScope (top 54), fun _ => true, lv, (n_law_bent lv g), [], [], [], [], [], [], false, none, none, [], []⟩
def b_law_bent (g : Fn) : Es := (sCons (sIf (ebAnd (ebOf (evIs .int (evVar 1))) (ebAnd (ebNot (ebOf (evIs .bool (evVar 1)))) (ebOf (evOp oGt (evCall 2 f_law_take (eaCons (evVar 0) (eaCons (evC (.int 3)) eaNil))) (evC (.int 0)))))) (sCons (sRet (evCall 2 f_law_choice (eaCons (evVar 0) (eaCons (evL (elDisp (eaCons (evOp oAdd (evVar 1) (evC (.int 1))) (eaCons (evOp oSub (evVar 1) (evC (.int 1))) (eaCons (evNeg (evVar 1)) (eaCons (evC (.bl true)) (eaCons (evC (.int 10)) (eaCons (evC (.int 11)) (eaCons (evB bStr (eaCons (evVar 1) eaNil)) eaNil))))))))) eaNil)))) sNil) sNil) (sCons (sIf (ebOr (ebNot (ebOf (evIs .tuple (evVar 1)))) (ebOr (ebOf (evOp oEq (evVar 1) (evTup eaNil))) (ebOf (evOp oEq (evCall 2 f_law_take (eaCons (evVar 0) (eaCons (evC (.int 6)) eaNil))) (evC (.int 0)))))) (sCons (sSet 4 (evL (elDisp (eaCons (evC .non) (eaCons (evC (.int 0)) (eaCons (evC (.int 1)) (eaCons (evNeg (evC (.int 1))) (eaCons (evC (.int 2)) (eaCons (evC (.bl true)) (eaCons (evC (.str "")) (eaCons (evC (.str "01")) (eaCons (evTup eaNil) (eaCons (evTup (eaCons (evC (.int 0)) (eaCons (evC (.int 1)) eaNil))) (eaCons (evTup (eaCons (evC (.int 1)) (eaCons (evC (.int 0)) eaNil))) (eaCons (evTup (eaCons (evTup (eaCons (evC (.int 0)) eaNil)) eaNil)) (eaCons (evL (elDisp eaNil)) eaNil)))))))))))))))) (sCons (sRet (evCall 2 f_law_choice (eaCons (evVar 0) (eaCons (evVar 4) eaNil)))) sNil)) sNil) (sCons (sPar 2 3 (eaCons (evCall 2 f_law_take (eaCons (evVar 0) (eaCons (evB bLen (eaCons (evVar 1) eaNil)) eaNil))) (eaCons (evCall 2 f_law_take (eaCons (evVar 0) (eaCons (evC (.int 8)) eaNil))) eaNil))) (sCons (sIf (ebOf (evOp oEq (evVar 3) (evC (.int 0)))) (sCons (sRet (evOp oAdd (evSl (evVar 1) eoNone (eoSome (evVar 2))) (evSl (evVar 1) (eoSome (evOp oAdd (evVar 2) (evC (.int 1)))) eoNone))) sNil) sNil) (sCons (sIf (ebOf (evOp oEq (evVar 3) (evC (.int 1)))) (sCons (sRet (evOp oAdd (evOp oAdd (evSl (evVar 1) eoNone (eoSome (evVar 2))) (evSl (evVar 1) (eoSome (evVar 2)) (eoSome (evOp oAdd (evVar 2) (evC (.int 1)))))) (evSl (evVar 1) (eoSome (evVar 2)) eoNone))) sNil) sNil) (sCons (sIf (ebOf (evOp oEq (evVar 3) (evC (.int 2)))) (sCons (sRet (evRevL (evVar 1))) sNil) sNil) (sCons (sIf (ebOf (evOp oEq (evVar 3) (evC (.int 3)))) (sCons (sRet (evB bList (eaCons (evVar 1) eaNil))) sNil) sNil) (sCons (sRet (evOp oAdd (evOp oAdd (evSl (evVar 1) eoNone (eoSome (evVar 2))) (evTup (eaCons (evCall 2 g (eaCons (evVar 0) (eaCons (evOp oIx (evVar 1) (evVar 2)) eaNil))) eaNil))) (evSl (evVar 1) (eoSome (evOp oAdd (evVar 2) (evC (.int 1)))) eoNone))) sNil))))))))
def fR_law_bent : Nat → Fn
  | 0 => fun _ _ => .bad
  | k + 1 => fnRun false 5 (b_law_bent (fR_law_bent k))
def f_law_bent : Fn := fR_law_bent 16
abbrev n_law : List (Str × Nat × Nat × Fn) := [("shown", 2, 5, f_shown), ("suspects", 2, 5, f_suspects), ("lots_with", 2, 5, f_lots_with), ("_law_known", 0, 1, f_law_known), ("is_plan", 1, 4, f_is_plan), ("_law_bad_plans", 0, 1, f_law_bad_plans), ("_law_refused", 1, 10, f_law_refused), ("_law_bent", 2, 18, f_law_bent), ("_law_rising", 2, 2, f_law_rising), ("_law_truly", 2, 1, f_law_truly), ("_law_good_plan", 1, 3, f_law_good_plan), ("_law_view", 2, 1, f_law_view), ("_law_suspects", 2, 1, f_law_suspects), ("_law_take", 2, 1, f_law_take), ("_law_plan", 3, 3, f_law_plan), ("_law_bag", 2, 3, f_law_bag)]
def c_law : Ip.Ctx := ⟨["script", "k", "first", "second", "third", "fourth", "bag", "one", "case_so", "view", "thing", "value", "turn", "due", "number", "lot"], defScope (top 56), fun _ => true, 18, n_law, [], [], [], [], [], [⟨"_law_error", 0, 0, cl_law_error, 8, F_law_error⟩], true, none, none, [], []⟩
def b_law : Es := (sCons (sFor (itR1 (eaCons (evC (.int 8)) eaNil)) (gN 1) (sCons (sSet 6 (evCall 2 f_law_bag (eaCons (evVar 0) (eaCons (evVar 1) eaNil)))) (sCons (sSet 7 (evCall 3 f_law_plan (eaCons (evVar 6) (eaCons (evC (.int 10)) (eaCons (evC (.int 10)) eaNil))))) (sCons (sSet 8 (evB bTuple (eaCons (evLc [10] (itR1 (eaCons (evOp oIx (evVar 7) (evC (.int 0))) eaNil)) (gN 10) (ebOf (evOp oEq (evCall 2 f_law_take (eaCons (evVar 6) (eaCons (evC (.int 4)) eaNil))) (evC (.int 0)))) (evVar 10)) eaNil))) (sCons (sSet 9 (evB bTuple (eaCons (evLc [14] (itR1 (eaCons (evB bLen (eaCons (evOp oIx (evVar 7) (evC (.int 1))) eaNil)) eaNil)) (gN 14) (ebOf (evOp oGt (evCall 2 f_law_take (eaCons (evVar 6) (eaCons (evC (.int 3)) eaNil))) (evC (.int 0)))) (evVar 14)) eaNil))) (sCons (sIf (ebOr (ebOf (evOp oNe (evCall 2 f_shown (eaCons (evVar 7) (eaCons (evVar 8) eaNil))) (evCall 2 f_law_view (eaCons (evVar 7) (eaCons (evVar 8) eaNil))))) (ebOf (evOp oNe (evCall 2 f_suspects (eaCons (evVar 7) (eaCons (evVar 9) eaNil))) (evCall 2 f_law_suspects (eaCons (evVar 7) (eaCons (evVar 9) eaNil)))))) (sCons (sRet (evC (.bl false))) sNil) sNil) (sCons (sFor (itR1 (eaCons (evOp oIx (evVar 7) (evC (.int 0))) eaNil)) (gN 10) (sCons (sIf (ebOf (evOp oNe (evCall 2 f_lots_with (eaCons (evVar 7) (eaCons (evVar 10) eaNil))) (evB bTuple (eaCons (evLc [14, 15] (itEn (eaCons (evOp oIx (evVar 7) (evC (.int 1))) eaNil)) (gT 2 (gsCons (gN 14) (gsCons (gN 15) gsNil))) (ebOf (evOp oIn (evVar 10) (evVar 15))) (evVar 14)) eaNil)))) (sCons (sRet (evC (.bl false))) sNil) sNil) sNil)) (sCons (sFor (itVal (evL (elDisp (eaCons (evVar 7) (eaCons (evVar 7) (eaCons (evVar 8) eaNil)))))) (gN 11) (sCons (sFor (itR1 (eaCons (evC (.int 6)) eaNil)) (gN 12) (sCons (sIf (ebNot (ebOf (evCall 2 f_law_truly (eaCons (evCall 1 f_is_plan (eaCons (evVar 11) eaNil)) (eaCons (evCall 1 f_law_good_plan (eaCons (evVar 11) eaNil)) eaNil))))) (sCons (sRet (evC (.bl false))) sNil) sNil) (sCons (sSet 13 (evIf (ebOf (evCall 2 f_law_rising (eaCons (evVar 11) (eaCons (evOp oIx (evVar 7) (evC (.int 0))) eaNil)))) (evC (.str "")) (evC (.str "case")))) (sCons (sIf (ebOf (evOp oNe (evLam F_law_error (evCall 2 f_shown (eaCons (evVar 0) (eaCons (evVar 1) eaNil))) ["one", "value"] [7, 11] 0 eaNil) (evVar 13))) (sCons (sRet (evC (.bl false))) sNil) sNil) (sCons (sSet 11 (evCall 2 f_law_bent (eaCons (evVar 6) (eaCons (evVar 11) eaNil)))) sNil))))) sNil)) (sCons (sIf (ebNot (ebOf (evCall 1 f_law_refused (eaCons (evVar 7) eaNil)))) (sCons (sRet (evC (.bl false))) sNil) sNil) sNil))))))))) (sCons (sIf (ebOf (evOp oNe (evLc [7] (itVal (evCall 0 f_law_bad_plans eaNil)) (gN 7) (ebOf (evOp oIsNot (evCall 1 f_is_plan (eaCons (evVar 7) eaNil)) (evC (.bl false)))) (evVar 7)) (evL (elDisp eaNil)))) (sCons (sRet (evC (.bl false))) sNil) sNil) (sCons (sIf (ebOr (ebOf (evOp oNe (evLc [7] (itVal (evCall 0 f_law_known eaNil)) (gN 7) (ebOf (evOp oIsNot (evCall 1 f_is_plan (eaCons (evVar 7) eaNil)) (evC (.bl true)))) (evVar 7)) (evL (elDisp eaNil)))) (ebOf (evOp oIsNot (evCall 1 f_is_plan (eaCons (evTup (eaCons (evC (.int 2)) (eaCons (evTup (eaCons (evTup eaNil) eaNil)) eaNil))) eaNil)) (evC (.bl true))))) (sCons (sRet (evC (.bl false))) sNil) sNil) (sCons (sAsg (gT 4 (gsCons (gN 2) (gsCons (gN 3) (gsCons (gN 4) (gsCons (gN 5) gsNil))))) (evCall 0 f_law_known eaNil)) (sCons (sIf (ebOr (ebOf (evOp oNe (evCall 2 f_shown (eaCons (evVar 2) (eaCons (evTup (eaCons (evC (.int 0)) (eaCons (evC (.int 3)) eaNil))) eaNil))) (evTup (eaCons (evC (.int 0)) (eaCons (evC (.int 1)) (eaCons (evC (.int 2)) (eaCons (evC (.int 4)) (eaCons (evC (.int 5)) eaNil)))))))) (ebOr (ebOf (evOp oNe (evCall 2 f_shown (eaCons (evVar 3) (eaCons (evTup (eaCons (evC (.int 0)) (eaCons (evC (.int 2)) eaNil))) eaNil))) (evTup (eaCons (evC (.int 0)) (eaCons (evC (.int 1)) eaNil))))) (ebOf (evOp oNe (evCall 2 f_suspects (eaCons (evVar 2) (eaCons (evTup (eaCons (evC (.int 0)) (eaCons (evC (.int 1)) (eaCons (evC (.int 2)) eaNil)))) eaNil))) (evTup (eaCons (evC (.int 0)) eaNil)))))) (sCons (sRet (evC (.bl false))) sNil) sNil) (sCons (sIf (ebOr (ebOf (evOp oNe (evCall 2 f_suspects (eaCons (evVar 3) (eaCons (evTup (eaCons (evC (.int 0)) eaNil)) eaNil))) (evTup (eaCons (evC (.int 0)) eaNil)))) (ebOr (ebOf (evOp oNe (evCall 2 f_suspects (eaCons (evVar 4) (eaCons (evTup eaNil) eaNil))) (evTup (eaCons (evC (.int 0)) (eaCons (evC (.int 1)) eaNil))))) (ebOf (evOp oNe (evCall 2 f_lots_with (eaCons (evVar 3) (eaCons (evC (.int 1)) eaNil))) (evTup (eaCons (evC (.int 0)) (eaCons (evC (.int 1)) eaNil))))))) (sCons (sRet (evC (.bl false))) sNil) sNil) (sCons (sRet (evAnd (evOp oEq (evCall 2 f_shown (eaCons (evTup (eaCons (evC (.int 2)) (eaCons (evTup (eaCons (evTup (eaCons (evC (.int 0)) eaNil)) (eaCons (evTup (eaCons (evC (.int 0)) eaNil)) (eaCons (evTup eaNil) eaNil)))) eaNil))) (eaCons (evTup (eaCons (evC (.int 0)) eaNil)) eaNil))) (evTup (eaCons (evC (.int 0)) (eaCons (evC (.int 1)) eaNil)))) (evOp oEq (evCall 2 f_suspects (eaCons (evTup (eaCons (evC (.int 2)) (eaCons (evTup (eaCons (evTup (eaCons (evC (.int 0)) eaNil)) (eaCons (evTup eaNil) eaNil))) eaNil))) (eaCons (evTup (eaCons (evC (.int 0)) eaNil)) eaNil))) (evTup (eaCons (evC (.int 0)) (eaCons (evC (.int 1)) eaNil)))))) sNil)))))))
def f_law : Fn := fnRun false 16 b_law
def c_ner (a : Addr) (c : Str) : Ip.Ctx := ⟨nN, defScope (top 47), fun _ => true, 0, [], [], [], nX, [], [], [], false, some (a, c), none, [], []⟩
end
/-! the readings are what the reader reads -/
theorem s_ner (a : Addr) (c : Str) : semOf 60 (c_ner a c) (defBody (top 47)) = some (b_ner a c) := by kernel_rfl
theorem s_is_whole : semOf 60 c_is_whole (defBody (top 22)) = some b_is_whole := by kernel_rfl
theorem s_view_of : semOf 60 c_view_of (defBody (top 29)) = some b_view_of := by kernel_rfl
theorem s_lots_of : semOf 60 c_lots_of (defBody (top 30)) = some b_lots_of := by kernel_rfl
theorem s_law_cell : semOf 60 c_law_cell (defBody (top 36)) = some b_law_cell := by kernel_rfl
theorem s_law_take : semOf 60 c_law_take (defBody (top 39)) = some b_law_take := by kernel_rfl
theorem s_law_known : semOf 60 c_law_known (defBody (top 41)) = some b_law_known := by kernel_rfl
theorem s_law_view : semOf 60 c_law_view (defBody (top 43)) = some b_law_view := by kernel_rfl
theorem s_law_suspects : semOf 60 c_law_suspects (defBody (top 44)) = some b_law_suspects := by kernel_rfl
theorem s_law_whole : semOf 60 c_law_whole (defBody (top 45)) = some b_law_whole := by kernel_rfl
theorem s_law_truly : semOf 60 c_law_truly (defBody (top 49)) = some b_law_truly := by kernel_rfl
theorem s_law_bad_plans : semOf 60 c_law_bad_plans (defBody (top 51)) = some b_law_bad_plans := by kernel_rfl
theorem s_law_bad_views : semOf 60 c_law_bad_views (defBody (top 52)) = some b_law_bad_views := by kernel_rfl
theorem s_is_rising : semOf 60 c_is_rising (defBody (top 23)) = some b_is_rising := by kernel_rfl
theorem s_need_thing : semOf 60 c_need_thing (defBody (top 28)) = some b_need_thing := by kernel_rfl
theorem s_law_draws : semOf 60 c_law_draws (defBody (top 37)) = some b_law_draws := by kernel_rfl
theorem s_law_choice : semOf 60 c_law_choice (defBody (top 40)) = some b_law_choice := by kernel_rfl
theorem s_law_rising : semOf 60 c_law_rising (defBody (top 46)) = some b_law_rising := by kernel_rfl
theorem s_fits_plan : semOf 60 c_fits_plan (defBody (top 24)) = some b_fits_plan := by kernel_rfl
theorem s_need_case : semOf 60 c_need_case (defBody (top 26)) = some b_need_case := by kernel_rfl
theorem s_need_view : semOf 60 c_need_view (defBody (top 27)) = some b_need_view := by kernel_rfl
theorem s_law_bag : semOf 60 c_law_bag (defBody (top 38)) = some b_law_bag := by kernel_rfl
theorem s_law_plan : semOf 60 c_law_plan (defBody (top 42)) = some b_law_plan := by kernel_rfl
theorem s_law_good_plan : semOf 60 c_law_good_plan (defBody (top 53)) = some b_law_good_plan := by kernel_rfl
theorem s_need_plan : semOf 60 c_need_plan (defBody (top 25)) = some b_need_plan := by kernel_rfl
theorem s_is_plan : semOf 60 c_is_plan (defBody (top 31)) = some b_is_plan := by kernel_rfl
theorem s_shown : semOf 60 c_shown (defBody (top 32)) = some b_shown := by kernel_rfl
theorem s_suspects : semOf 60 c_suspects (defBody (top 33)) = some b_suspects := by kernel_rfl
theorem s_lots_with : semOf 60 c_lots_with (defBody (top 34)) = some b_lots_with := by kernel_rfl
theorem eq_law_error : ∀ (d : Ip.D) (g : Fn) (ds : List Ip.D) (st : Sto), ds.length = 0 → fnRun false 2 (b_law_error d g) (d :: ds) st = F_law_error g ds st := fun d g ds st h => error_eq d g ds st h
theorem s_law_error (d : Ip.D) (g : Fn) : semOf 60 (c_law_error d g) (defBody (top 48)) = some (b_law_error d g) := by kernel_rfl
theorem eq_law_all_refused : ∀ (d : Ip.D) (g : Fn) (ds : List Ip.D) (st : Sto), ds.length = 2 → fnRun false 4 (b_law_all_refused d g) (d :: ds) st = F_law_all_refused g ds st := fun d g ds st h => all_refused_eq (by decide) d g ds st h
theorem s_law_all_refused (d : Ip.D) (g : Fn) : semOf 60 (c_law_all_refused d g) (defBody (top 50)) = some (b_law_all_refused d g) := by kernel_rfl
theorem s_law_refused : semOf 60 c_law_refused (defBody (top 55)) = some b_law_refused := by kernel_rfl
theorem s_law_bent (lv : Nat) (g : Fn) : semOf 60 (c_law_bent lv g) (defBody (top 54)) = some (b_law_bent g) := by kernel_rfl
theorem s_law : semOf 60 c_law (defBody (top 56)) = some b_law := by kernel_rfl
end K01
set_option Elab.async false
set_option linter.all false
set_option maxRecDepth 100000
set_option maxHeartbeats 0
namespace K01
open PySem PySem.Spec PyProof.Rows L2 Ip Lots
def mkD (x : Str) (i : Nat) : He.DefD := ⟨(x, none), x, x, defArgs (top i), defBody (top i), defScope (top i), [], []⟩
def fn0 : List He.DefD := [mkD "is_whole" 22, mkD "is_rising" 23, mkD "fits_plan" 24, mkD "need_plan" 25, mkD "need_case" 26, mkD "need_view" 27, mkD "need_thing" 28, mkD "view_of" 29, mkD "lots_of" 30, mkD "is_plan" 31, mkD "shown" 32, mkD "suspects" 33, mkD "lots_with" 34, mkD "_law_cell" 36, mkD "_law_draws" 37]
def fn1 : List He.DefD := [mkD "_law_bag" 38, mkD "_law_take" 39, mkD "_law_choice" 40, mkD "_law_known" 41, mkD "_law_plan" 42, mkD "_law_view" 43, mkD "_law_suspects" 44, mkD "_law_whole" 45, mkD "_law_rising" 46, mkD "_law_named_error" 47, mkD "_law_error" 48, mkD "_law_truly" 49, mkD "_law_all_refused" 50, mkD "_law_bad_plans" 51, mkD "_law_bad_views" 52]
def fn2 : List He.DefD := [mkD "_law_good_plan" 53, mkD "_law_bent" 54, mkD "_law_refused" 55, mkD "law" 56]
def fn : List He.DefD := fn0 ++ fn1 ++ fn2
def fa0 : List He.Fa := [.glo "is_whole", .glo "is_rising", .glo "fits_plan", .glo "need_plan", .glo "need_case", .glo "need_view", .glo "need_thing", .glo "view_of", .glo "lots_of", .glo "is_plan", .glo "shown", .glo "suspects", .glo "lots_with", .glo "_law_cell", .glo "_law_draws"]
def fa1 : List He.Fa := [.glo "_law_bag", .glo "_law_take", .glo "_law_choice", .glo "_law_known", .glo "_law_plan", .glo "_law_view", .glo "_law_suspects", .glo "_law_whole", .glo "_law_rising", .glo "_law_named_error", .glo "_law_error", .glo "_law_truly", .glo "_law_all_refused", .glo "_law_bad_plans", .glo "_law_bad_views"]
def fa2 : List He.Fa := [.glo "_law_good_plan", .glo "_law_bent", .glo "_law_refused", .glo "law", .free "len", .free "all", .free "any", .free "sum", .free "max", .free "min", .free "sorted", .free "tuple", .free "list", .free "int", .free "bool"]
def fa3 : List He.Fa := [.free "range", .free "enumerate", .free "zip", .free "isinstance", .free "str", .free "ValueError", .free "set", .int "LOTS" 10, .int "THINGS" 10, .exc "InvalidCase", .glo "InvalidCase", .exc "InvalidPlan", .glo "InvalidPlan", .exc "InvalidThing", .glo "InvalidThing"]
def fa4 : List He.Fa := [.exc "InvalidView", .glo "InvalidView", .glo "InvalidThings", .glo "InvalidNumber", .glo "InvalidWay", .glo "InvalidWords", .glo "InvalidSigns", .glo "InvalidSights", .glo "InvalidIndex", .glo "InvalidLot", .glo "InvalidTruth", .glo "InvalidText", .glo "Unlike", .glo "NothingToUndo", .glo "TooMany"]
def fa5 : List He.Fa := [.glo "LotError"]
def fa : List He.Fa := fa0 ++ fa1 ++ fa2 ++ fa3 ++ fa4 ++ fa5
def lo0 : List PySem.Str := ["LotError", "InvalidPlan", "InvalidCase", "InvalidView", "InvalidThing", "InvalidThings", "InvalidNumber", "InvalidWay", "InvalidWords", "InvalidSigns", "InvalidSights", "InvalidIndex", "InvalidLot", "InvalidTruth", "InvalidText"]
def lo1 : List PySem.Str := ["Unlike", "NothingToUndo", "TooMany", "THINGS", "LOTS", "is_whole", "is_rising", "fits_plan", "need_plan", "need_case", "need_view", "need_thing", "view_of", "lots_of", "is_plan"]
def lo2 : List PySem.Str := ["shown", "suspects", "lots_with", "_law_cell", "_law_draws", "_law_bag", "_law_take", "_law_choice", "_law_known", "_law_plan", "_law_view", "_law_suspects", "_law_whole", "_law_rising", "_law_named_error"]
def lo3 : List PySem.Str := ["_law_error", "_law_truly", "_law_all_refused", "_law_bad_plans", "_law_bad_views", "_law_good_plan", "_law_bent", "_law_refused"]
def lo : List PySem.Str := lo0 ++ lo1 ++ lo2 ++ lo3
def tf : List He.Defn := Ip.lams.map fun x => (x, none)
def oneB (K : PySem.W.Frag) : Bool := Ip.lams.all fun x => Ip.lams.all fun y => !decide ((He.cT K (y, none)).2 = (He.cT K (x, none)).2) || decide (y = x)
def gtX (K : PySem.W.Frag) : Bool := true
def exB (K : PySem.W.Frag) : Bool := oneB K && (ers0.all (errB K) && gtX K)
abbrev R : PySem.W.OpenRow := PySem.W.OpenLaw.row PySem.Challenge.rw_testedlots_k01_plans_and_views_known
abbrev hk : PySem.W.Hook := He.hookX 4 fa fn [] tf exB
def ob (s : PySem.W.SharedT) : He.AlX := He.obsX 4 fa fn [] tf exB (HandSHeadRun.getT s)
theorem ob_eq (s : PySem.W.SharedT) : ob s = hk.obs s.abs := He.obsX_eq (HandSHeadRun.getT_eq s)
theorem run (w : World) : HandSHeadRun.RunEq R (PySem.W.view R.prog [56]) hk ob 8000 lo w := by
  intro os
  kernel_rfl
section
variable {P : Program} {w : World} {K : PySem.W.Frag} {mg : Str → Option Value} {base h : Heap}
/-- what the head tells -/
structure Md (K : PySem.W.Frag) (mg : Str → Option Value) (h base : Heap) : Prop where
  x : K.In h
  g : h.Ns mainGlobals mg
  c : He.SaysD fa fn K
  e : exB K = true
  t : ∀ x ∈ Ip.lams, LamX.TabB base mg (He.cT K (x, none)).1 (He.cT K (x, none)).2
theorem mk_ok (M : Md K mg h base) {x : Str} (hx : x ∈ Ip.lams) : MkOk K mg base x := by
  have o : oneB K = true := (Bool.and_eq_true_iff.mp M.e).1
  refine ⟨M.t x hx, hx, fun y hy e => ?_⟩
  have z := List.all_eq_true.mp (List.all_eq_true.mp o x hx) y hy
  rw [decide_eq_true e] at z
  exact of_decide_eq_true z
theorem blts (M : Md K mg h base) : ∀ q ∈ bltn, mg q = none := by
  unfold bltn
  exact all_cons (He.free_ok M.x M.g (M.c.fact 34 (f := .free "len") rfl)) (all_cons (He.free_ok M.x M.g (M.c.fact 35 (f := .free "all") rfl)) (all_cons (He.free_ok M.x M.g (M.c.fact 36 (f := .free "any") rfl)) (all_cons (He.free_ok M.x M.g (M.c.fact 37 (f := .free "sum") rfl)) (all_cons (He.free_ok M.x M.g (M.c.fact 38 (f := .free "max") rfl)) (all_cons (He.free_ok M.x M.g (M.c.fact 39 (f := .free "min") rfl)) (all_cons (He.free_ok M.x M.g (M.c.fact 40 (f := .free "sorted") rfl)) (all_cons (He.free_ok M.x M.g (M.c.fact 41 (f := .free "tuple") rfl)) (all_cons (He.free_ok M.x M.g (M.c.fact 42 (f := .free "list") rfl)) (all_cons (He.free_ok M.x M.g (M.c.fact 43 (f := .free "int") rfl)) (all_cons (He.free_ok M.x M.g (M.c.fact 44 (f := .free "bool") rfl)) (all_cons (He.free_ok M.x M.g (M.c.fact 45 (f := .free "range") rfl)) (all_cons (He.free_ok M.x M.g (M.c.fact 46 (f := .free "enumerate") rfl)) (all_cons (He.free_ok M.x M.g (M.c.fact 47 (f := .free "zip") rfl)) (all_cons (He.free_ok M.x M.g (M.c.fact 48 (f := .free "isinstance") rfl)) (all_cons (He.free_ok M.x M.g (M.c.fact 49 (f := .free "str") rfl)) (all_cons (He.free_ok M.x M.g (M.c.fact 50 (f := .free "ValueError") rfl)) (all_cons (He.free_ok M.x M.g (M.c.fact 51 (f := .free "set") rfl)) (all_nil))))))))))))))))))
theorem ers_ok (M : Md K mg h base) : ∀ c ∈ ers0, ErrOk K c := fun c hc => errB_ok (List.all_eq_true.mp (Bool.and_eq_true_iff.mp (Bool.and_eq_true_iff.mp M.e).2).1 c hc)
theorem has_ner (M : Md K mg h base) : NerAt P w K mg base 1 := by
  obtain ⟨fd, F⟩ := M.c.def_ 24 (d := mkD "_law_named_error" 47) rfl
  exact ner_mk (lv := 0) (ps := ["e"]) (Γ := c_ner) F (He.glo_ok M.x M.g (M.c.fact 24 (f := .glo "_law_named_error") rfl)) (fun _ _ => show C8.scC nN _ _ = true from by decide +kernel) (fun _ _ => rfl) (fun _ _ => rfl) (fun _ _ => rfl) (fun _ _ => ⟨rfl, rfl, rfl, rfl, rfl, rfl, rfl, rfl, rfl⟩) s_ner (fun _ _ => rfl) rfl (fun a c => all_cons (He.glo_ok M.x M.g (M.c.fact 74 (f := .glo "TooMany") rfl)) (all_cons (He.glo_ok M.x M.g (M.c.fact 73 (f := .glo "NothingToUndo") rfl)) (all_cons (He.glo_ok M.x M.g (M.c.fact 72 (f := .glo "Unlike") rfl)) (all_cons (He.glo_ok M.x M.g (M.c.fact 71 (f := .glo "InvalidText") rfl)) (all_cons (He.glo_ok M.x M.g (M.c.fact 70 (f := .glo "InvalidTruth") rfl)) (all_cons (He.glo_ok M.x M.g (M.c.fact 69 (f := .glo "InvalidLot") rfl)) (all_cons (He.glo_ok M.x M.g (M.c.fact 68 (f := .glo "InvalidIndex") rfl)) (all_cons (He.glo_ok M.x M.g (M.c.fact 67 (f := .glo "InvalidSights") rfl)) (all_cons (He.glo_ok M.x M.g (M.c.fact 66 (f := .glo "InvalidSigns") rfl)) (all_cons (He.glo_ok M.x M.g (M.c.fact 65 (f := .glo "InvalidWords") rfl)) (all_cons (He.glo_ok M.x M.g (M.c.fact 64 (f := .glo "InvalidWay") rfl)) (all_cons (He.glo_ok M.x M.g (M.c.fact 63 (f := .glo "InvalidNumber") rfl)) (all_cons (He.glo_ok M.x M.g (M.c.fact 62 (f := .glo "InvalidThings") rfl)) (all_cons (He.glo_ok M.x M.g (M.c.fact 59 (f := .glo "InvalidThing") rfl)) (all_cons (He.glo_ok M.x M.g (M.c.fact 61 (f := .glo "InvalidView") rfl)) (all_cons (He.glo_ok M.x M.g (M.c.fact 55 (f := .glo "InvalidCase") rfl)) (all_cons (He.glo_ok M.x M.g (M.c.fact 57 (f := .glo "InvalidPlan") rfl)) (all_nil)))))))))))))))))) (blts M) (fun _ _ _ _ _ _ us hl => match us, hl with | [_], _ => rfl) ner_eq
theorem fx_is_whole (M : Md K mg h base) : Facts P w K mg base (c_is_whole) := ⟨all_nil, all_nil, all_nil, all_nil, blts M, all_nil, (fun k e => by cases e), all_nil, all_nil⟩
theorem has_is_whole (M : Md K mg h base) : HasW P w K mg base "is_whole" 3 1 f_is_whole := by
  obtain ⟨fd, F⟩ := M.c.def_ 0 (d := mkD "is_whole" 22) rfl
  exact has_mk (ps := ["value", "low", "high"]) (Γ := c_is_whole) F (fun _ => rfl) (He.glo_ok M.x M.g (M.c.fact 0 (f := .glo "is_whole") rfl)) (by decide +kernel) rfl rfl rfl rfl s_is_whole rfl rfl rfl (fx_is_whole M) (fun z => nomatch z) fun _ _ _ _ _ _ us hl => match us, hl with | [_, _, _], _ => rfl
theorem fx_view_of (M : Md K mg h base) : Facts P w K mg base (c_view_of) := ⟨all_nil, all_nil, all_nil, all_nil, blts M, all_nil, (fun k e => by cases e), all_nil, all_nil⟩
theorem has_view_of (M : Md K mg h base) : HasW P w K mg base "view_of" 2 1 f_view_of := by
  obtain ⟨fd, F⟩ := M.c.def_ 7 (d := mkD "view_of" 29) rfl
  exact has_mk (ps := ["plan", "case"]) (Γ := c_view_of) F (fun _ => rfl) (He.glo_ok M.x M.g (M.c.fact 7 (f := .glo "view_of") rfl)) (by decide +kernel) rfl rfl rfl rfl s_view_of rfl rfl rfl (fx_view_of M) (fun z => nomatch z) fun _ _ _ _ _ _ us hl => match us, hl with | [_, _], _ => rfl
theorem fx_lots_of (M : Md K mg h base) : Facts P w K mg base (c_lots_of) := ⟨all_nil, all_nil, all_nil, all_nil, blts M, all_nil, (fun k e => by cases e), all_nil, all_nil⟩
theorem has_lots_of (M : Md K mg h base) : HasW P w K mg base "lots_of" 2 1 f_lots_of := by
  obtain ⟨fd, F⟩ := M.c.def_ 8 (d := mkD "lots_of" 30) rfl
  exact has_mk (ps := ["plan", "thing"]) (Γ := c_lots_of) F (fun _ => rfl) (He.glo_ok M.x M.g (M.c.fact 8 (f := .glo "lots_of") rfl)) (by decide +kernel) rfl rfl rfl rfl s_lots_of rfl rfl rfl (fx_lots_of M) (fun z => nomatch z) fun _ _ _ _ _ _ us hl => match us, hl with | [_, _], _ => rfl
theorem fx_law_cell (M : Md K mg h base) : Facts P w K mg base (c_law_cell) := ⟨all_nil, all_nil, all_nil, all_nil, blts M, all_nil, (fun k e => by cases e), all_nil, all_nil⟩
theorem has_law_cell (M : Md K mg h base) : HasW P w K mg base "_law_cell" 2 1 f_law_cell := by
  obtain ⟨fd, F⟩ := M.c.def_ 13 (d := mkD "_law_cell" 36) rfl
  exact has_mk (ps := ["script", "k"]) (Γ := c_law_cell) F (fun _ => rfl) (He.glo_ok M.x M.g (M.c.fact 13 (f := .glo "_law_cell") rfl)) (by decide +kernel) rfl rfl rfl rfl s_law_cell rfl rfl rfl (fx_law_cell M) (fun z => nomatch z) fun _ _ _ _ _ _ us hl => match us, hl with | [_, _], _ => rfl
theorem fx_law_take (M : Md K mg h base) : Facts P w K mg base (c_law_take) := ⟨all_nil, all_nil, all_nil, all_nil, blts M, all_nil, (fun k e => by cases e), all_nil, all_nil⟩
theorem has_law_take (M : Md K mg h base) : HasW P w K mg base "_law_take" 2 1 f_law_take := by
  obtain ⟨fd, F⟩ := M.c.def_ 16 (d := mkD "_law_take" 39) rfl
  exact has_mk (ps := ["bag", "many"]) (Γ := c_law_take) F (fun _ => rfl) (He.glo_ok M.x M.g (M.c.fact 16 (f := .glo "_law_take") rfl)) (by decide +kernel) rfl rfl rfl rfl s_law_take rfl rfl rfl (fx_law_take M) (fun z => nomatch z) fun _ _ _ _ _ _ us hl => match us, hl with | [_, _], _ => rfl
theorem fx_law_known (M : Md K mg h base) : Facts P w K mg base (c_law_known) := ⟨all_nil, all_nil, all_nil, all_nil, blts M, all_nil, (fun k e => by cases e), all_nil, all_nil⟩
theorem has_law_known (M : Md K mg h base) : HasW P w K mg base "_law_known" 0 1 f_law_known := by
  obtain ⟨fd, F⟩ := M.c.def_ 18 (d := mkD "_law_known" 41) rfl
  exact has_mk (ps := []) (Γ := c_law_known) F (fun _ => rfl) (He.glo_ok M.x M.g (M.c.fact 18 (f := .glo "_law_known") rfl)) (by decide +kernel) rfl rfl rfl rfl s_law_known rfl rfl rfl (fx_law_known M) (fun z => nomatch z) fun _ _ _ _ _ _ us hl => match us, hl with | [], _ => rfl
theorem fx_law_view (M : Md K mg h base) : Facts P w K mg base (c_law_view) := ⟨all_nil, all_nil, all_nil, all_nil, blts M, all_nil, (fun k e => by cases e), all_nil, all_nil⟩
theorem has_law_view (M : Md K mg h base) : HasW P w K mg base "_law_view" 2 1 f_law_view := by
  obtain ⟨fd, F⟩ := M.c.def_ 20 (d := mkD "_law_view" 43) rfl
  exact has_mk (ps := ["one", "case_so"]) (Γ := c_law_view) F (fun _ => rfl) (He.glo_ok M.x M.g (M.c.fact 20 (f := .glo "_law_view") rfl)) (by decide +kernel) rfl rfl rfl rfl s_law_view rfl rfl rfl (fx_law_view M) (fun z => nomatch z) fun _ _ _ _ _ _ us hl => match us, hl with | [_, _], _ => rfl
theorem fx_law_suspects (M : Md K mg h base) : Facts P w K mg base (c_law_suspects) := ⟨all_nil, all_nil, all_nil, all_nil, blts M, all_nil, (fun k e => by cases e), all_nil, all_nil⟩
theorem has_law_suspects (M : Md K mg h base) : HasW P w K mg base "_law_suspects" 2 1 f_law_suspects := by
  obtain ⟨fd, F⟩ := M.c.def_ 21 (d := mkD "_law_suspects" 44) rfl
  exact has_mk (ps := ["one", "view"]) (Γ := c_law_suspects) F (fun _ => rfl) (He.glo_ok M.x M.g (M.c.fact 21 (f := .glo "_law_suspects") rfl)) (by decide +kernel) rfl rfl rfl rfl s_law_suspects rfl rfl rfl (fx_law_suspects M) (fun z => nomatch z) fun _ _ _ _ _ _ us hl => match us, hl with | [_, _], _ => rfl
theorem fx_law_whole (M : Md K mg h base) : Facts P w K mg base (c_law_whole) := ⟨all_nil, all_nil, all_nil, all_nil, blts M, all_nil, (fun k e => by cases e), all_nil, all_nil⟩
theorem has_law_whole (M : Md K mg h base) : HasW P w K mg base "_law_whole" 3 1 f_law_whole := by
  obtain ⟨fd, F⟩ := M.c.def_ 22 (d := mkD "_law_whole" 45) rfl
  exact has_mk (ps := ["value", "low", "high"]) (Γ := c_law_whole) F (fun _ => rfl) (He.glo_ok M.x M.g (M.c.fact 22 (f := .glo "_law_whole") rfl)) (by decide +kernel) rfl rfl rfl rfl s_law_whole rfl rfl rfl (fx_law_whole M) (fun z => nomatch z) fun _ _ _ _ _ _ us hl => match us, hl with | [_, _, _], _ => rfl
theorem fx_law_truly (M : Md K mg h base) : Facts P w K mg base (c_law_truly) := ⟨all_nil, all_nil, all_nil, all_nil, blts M, all_nil, (fun k e => by cases e), all_nil, all_nil⟩
theorem has_law_truly (M : Md K mg h base) : HasW P w K mg base "_law_truly" 2 1 f_law_truly := by
  obtain ⟨fd, F⟩ := M.c.def_ 26 (d := mkD "_law_truly" 49) rfl
  exact has_mk (ps := ["found", "due"]) (Γ := c_law_truly) F (fun _ => rfl) (He.glo_ok M.x M.g (M.c.fact 26 (f := .glo "_law_truly") rfl)) (by decide +kernel) rfl rfl rfl rfl s_law_truly rfl rfl rfl (fx_law_truly M) (fun z => nomatch z) fun _ _ _ _ _ _ us hl => match us, hl with | [_, _], _ => rfl
theorem fx_law_bad_plans (M : Md K mg h base) : Facts P w K mg base (c_law_bad_plans) := ⟨all_nil, all_nil, all_nil, all_nil, blts M, all_nil, (fun k e => by cases e), all_nil, all_nil⟩
theorem has_law_bad_plans (M : Md K mg h base) : HasW P w K mg base "_law_bad_plans" 0 1 f_law_bad_plans := by
  obtain ⟨fd, F⟩ := M.c.def_ 28 (d := mkD "_law_bad_plans" 51) rfl
  exact has_mk (ps := []) (Γ := c_law_bad_plans) F (fun _ => rfl) (He.glo_ok M.x M.g (M.c.fact 28 (f := .glo "_law_bad_plans") rfl)) (by decide +kernel) rfl rfl rfl rfl s_law_bad_plans rfl rfl rfl (fx_law_bad_plans M) (fun z => nomatch z) fun _ _ _ _ _ _ us hl => match us, hl with | [], _ => rfl
theorem fx_law_bad_views (M : Md K mg h base) : Facts P w K mg base (c_law_bad_views) := ⟨all_nil, all_nil, all_nil, all_nil, blts M, all_nil, (fun k e => by cases e), all_nil, all_nil⟩
theorem has_law_bad_views (M : Md K mg h base) : HasW P w K mg base "_law_bad_views" 1 1 f_law_bad_views := by
  obtain ⟨fd, F⟩ := M.c.def_ 29 (d := mkD "_law_bad_views" 52) rfl
  exact has_mk (ps := ["many"]) (Γ := c_law_bad_views) F (fun _ => rfl) (He.glo_ok M.x M.g (M.c.fact 29 (f := .glo "_law_bad_views") rfl)) (by decide +kernel) rfl rfl rfl rfl s_law_bad_views rfl rfl rfl (fx_law_bad_views M) (fun z => nomatch z) fun _ _ _ _ _ _ us hl => match us, hl with | [_], _ => rfl
theorem fx_is_rising (M : Md K mg h base) : Facts P w K mg base (c_is_rising) := ⟨all_cons ⟨has_is_whole M, (He.glo_ok M.x M.g (M.c.fact 0 (f := .glo "is_whole") rfl)), show (1 : Nat) ≤ 1 from by decide⟩ (all_nil), all_nil, all_nil, all_nil, blts M, all_nil, (fun k e => by cases e), all_nil, all_nil⟩
theorem has_is_rising (M : Md K mg h base) : HasW P w K mg base "is_rising" 2 2 f_is_rising := by
  obtain ⟨fd, F⟩ := M.c.def_ 1 (d := mkD "is_rising" 23) rfl
  exact has_mk (ps := ["value", "many"]) (Γ := c_is_rising) F (fun _ => rfl) (He.glo_ok M.x M.g (M.c.fact 1 (f := .glo "is_rising") rfl)) (by decide +kernel) rfl rfl rfl rfl s_is_rising rfl rfl rfl (fx_is_rising M) (fun z => nomatch z) fun _ _ _ _ _ _ us hl => match us, hl with | [_, _], _ => rfl
theorem fx_need_thing (M : Md K mg h base) : Facts P w K mg base (c_need_thing) := ⟨all_cons ⟨has_is_whole M, (He.glo_ok M.x M.g (M.c.fact 0 (f := .glo "is_whole") rfl)), show (1 : Nat) ≤ 1 from by decide⟩ (all_nil), all_nil, all_cons ⟨M.c.fact 58 (f := .exc "InvalidThing") rfl, (He.glo_ok M.x M.g (M.c.fact 59 (f := .glo "InvalidThing") rfl))⟩ (all_nil), all_nil, blts M, all_nil, (fun k e => by cases e), all_nil, all_nil⟩
theorem has_need_thing (M : Md K mg h base) : HasW P w K mg base "need_thing" 2 2 f_need_thing := by
  obtain ⟨fd, F⟩ := M.c.def_ 6 (d := mkD "need_thing" 28) rfl
  exact has_mk (ps := ["value", "many"]) (Γ := c_need_thing) F (fun _ => rfl) (He.glo_ok M.x M.g (M.c.fact 6 (f := .glo "need_thing") rfl)) (by decide +kernel) rfl rfl rfl rfl s_need_thing rfl rfl rfl (fx_need_thing M) (fun z => nomatch z) fun _ _ _ _ _ _ us hl => match us, hl with | [_, _], _ => rfl
theorem fx_law_draws (M : Md K mg h base) : Facts P w K mg base (c_law_draws) := ⟨all_cons ⟨has_law_cell M, (He.glo_ok M.x M.g (M.c.fact 13 (f := .glo "_law_cell") rfl)), show (1 : Nat) ≤ 1 from by decide⟩ (all_nil), all_nil, all_nil, all_nil, blts M, all_nil, (fun k e => by cases e), all_nil, all_nil⟩
theorem has_law_draws (M : Md K mg h base) : HasW P w K mg base "_law_draws" 4 2 f_law_draws := by
  obtain ⟨fd, F⟩ := M.c.def_ 14 (d := mkD "_law_draws" 37) rfl
  exact has_mk (ps := ["script", "k", "many", "base"]) (Γ := c_law_draws) F (fun _ => rfl) (He.glo_ok M.x M.g (M.c.fact 14 (f := .glo "_law_draws") rfl)) (by decide +kernel) rfl rfl rfl rfl s_law_draws rfl rfl rfl (fx_law_draws M) (fun z => nomatch z) fun _ _ _ _ _ _ us hl => match us, hl with | [_, _, _, _], _ => rfl
theorem fx_law_choice (M : Md K mg h base) : Facts P w K mg base (c_law_choice) := ⟨all_cons ⟨has_law_take M, (He.glo_ok M.x M.g (M.c.fact 16 (f := .glo "_law_take") rfl)), show (1 : Nat) ≤ 1 from by decide⟩ (all_nil), all_nil, all_nil, all_nil, blts M, all_nil, (fun k e => by cases e), all_nil, all_nil⟩
theorem has_law_choice (M : Md K mg h base) : HasW P w K mg base "_law_choice" 2 2 f_law_choice := by
  obtain ⟨fd, F⟩ := M.c.def_ 17 (d := mkD "_law_choice" 40) rfl
  exact has_mk (ps := ["bag", "some"]) (Γ := c_law_choice) F (fun _ => rfl) (He.glo_ok M.x M.g (M.c.fact 17 (f := .glo "_law_choice") rfl)) (by decide +kernel) rfl rfl rfl rfl s_law_choice rfl rfl rfl (fx_law_choice M) (fun z => nomatch z) fun _ _ _ _ _ _ us hl => match us, hl with | [_, _], _ => rfl
theorem fx_law_rising (M : Md K mg h base) : Facts P w K mg base (c_law_rising) := ⟨all_cons ⟨has_law_whole M, (He.glo_ok M.x M.g (M.c.fact 22 (f := .glo "_law_whole") rfl)), show (1 : Nat) ≤ 1 from by decide⟩ (all_nil), all_nil, all_nil, all_nil, blts M, all_nil, (fun k e => by cases e), all_nil, all_nil⟩
theorem has_law_rising (M : Md K mg h base) : HasW P w K mg base "_law_rising" 2 2 f_law_rising := by
  obtain ⟨fd, F⟩ := M.c.def_ 23 (d := mkD "_law_rising" 46) rfl
  exact has_mk (ps := ["value", "many"]) (Γ := c_law_rising) F (fun _ => rfl) (He.glo_ok M.x M.g (M.c.fact 23 (f := .glo "_law_rising") rfl)) (by decide +kernel) rfl rfl rfl rfl s_law_rising rfl rfl rfl (fx_law_rising M) (fun z => nomatch z) fun _ _ _ _ _ _ us hl => match us, hl with | [_, _], _ => rfl
theorem fx_fits_plan (M : Md K mg h base) : Facts P w K mg base (c_fits_plan) := ⟨all_cons ⟨has_is_rising M, (He.glo_ok M.x M.g (M.c.fact 1 (f := .glo "is_rising") rfl)), show (2 : Nat) ≤ 2 from by decide⟩ (all_cons ⟨has_is_whole M, (He.glo_ok M.x M.g (M.c.fact 0 (f := .glo "is_whole") rfl)), show (1 : Nat) ≤ 2 from by decide⟩ (all_nil)), all_cons (He.int_ok M.x M.g (M.c.fact 52 (f := .int "LOTS" 10) rfl)) (all_cons (He.int_ok M.x M.g (M.c.fact 53 (f := .int "THINGS" 10) rfl)) (all_nil)), all_nil, all_nil, blts M, all_nil, (fun k e => by cases e), all_nil, all_nil⟩
theorem has_fits_plan (M : Md K mg h base) : HasW P w K mg base "fits_plan" 1 3 f_fits_plan := by
  obtain ⟨fd, F⟩ := M.c.def_ 2 (d := mkD "fits_plan" 24) rfl
  exact has_mk (ps := ["value"]) (Γ := c_fits_plan) F (fun _ => rfl) (He.glo_ok M.x M.g (M.c.fact 2 (f := .glo "fits_plan") rfl)) (by decide +kernel) rfl rfl rfl rfl s_fits_plan rfl rfl rfl (fx_fits_plan M) (fun z => nomatch z) fun _ _ _ _ _ _ us hl => match us, hl with | [_], _ => rfl
theorem fx_need_case (M : Md K mg h base) : Facts P w K mg base (c_need_case) := ⟨all_cons ⟨has_is_rising M, (He.glo_ok M.x M.g (M.c.fact 1 (f := .glo "is_rising") rfl)), show (2 : Nat) ≤ 2 from by decide⟩ (all_nil), all_nil, all_cons ⟨M.c.fact 54 (f := .exc "InvalidCase") rfl, (He.glo_ok M.x M.g (M.c.fact 55 (f := .glo "InvalidCase") rfl))⟩ (all_nil), all_nil, blts M, all_nil, (fun k e => by cases e), all_nil, all_nil⟩
theorem has_need_case (M : Md K mg h base) : HasW P w K mg base "need_case" 2 3 f_need_case := by
  obtain ⟨fd, F⟩ := M.c.def_ 4 (d := mkD "need_case" 26) rfl
  exact has_mk (ps := ["plan", "value"]) (Γ := c_need_case) F (fun _ => rfl) (He.glo_ok M.x M.g (M.c.fact 4 (f := .glo "need_case") rfl)) (by decide +kernel) rfl rfl rfl rfl s_need_case rfl rfl rfl (fx_need_case M) (fun z => nomatch z) fun _ _ _ _ _ _ us hl => match us, hl with | [_, _], _ => rfl
theorem fx_need_view (M : Md K mg h base) : Facts P w K mg base (c_need_view) := ⟨all_cons ⟨has_is_rising M, (He.glo_ok M.x M.g (M.c.fact 1 (f := .glo "is_rising") rfl)), show (2 : Nat) ≤ 2 from by decide⟩ (all_nil), all_nil, all_cons ⟨M.c.fact 60 (f := .exc "InvalidView") rfl, (He.glo_ok M.x M.g (M.c.fact 61 (f := .glo "InvalidView") rfl))⟩ (all_nil), all_nil, blts M, all_nil, (fun k e => by cases e), all_nil, all_nil⟩
theorem has_need_view (M : Md K mg h base) : HasW P w K mg base "need_view" 2 3 f_need_view := by
  obtain ⟨fd, F⟩ := M.c.def_ 5 (d := mkD "need_view" 27) rfl
  exact has_mk (ps := ["many", "value"]) (Γ := c_need_view) F (fun _ => rfl) (He.glo_ok M.x M.g (M.c.fact 5 (f := .glo "need_view") rfl)) (by decide +kernel) rfl rfl rfl rfl s_need_view rfl rfl rfl (fx_need_view M) (fun z => nomatch z) fun _ _ _ _ _ _ us hl => match us, hl with | [_, _], _ => rfl
theorem fx_law_bag (M : Md K mg h base) : Facts P w K mg base (c_law_bag) := ⟨all_cons ⟨has_law_draws M, (He.glo_ok M.x M.g (M.c.fact 14 (f := .glo "_law_draws") rfl)), show (2 : Nat) ≤ 2 from by decide⟩ (all_nil), all_nil, all_nil, all_nil, blts M, all_nil, (fun k e => by cases e), all_nil, all_nil⟩
theorem has_law_bag (M : Md K mg h base) : HasW P w K mg base "_law_bag" 2 3 f_law_bag := by
  obtain ⟨fd, F⟩ := M.c.def_ 15 (d := mkD "_law_bag" 38) rfl
  exact has_mk (ps := ["script", "k"]) (Γ := c_law_bag) F (fun _ => rfl) (He.glo_ok M.x M.g (M.c.fact 15 (f := .glo "_law_bag") rfl)) (by decide +kernel) rfl rfl rfl rfl s_law_bag rfl rfl rfl (fx_law_bag M) (fun z => nomatch z) fun _ _ _ _ _ _ us hl => match us, hl with | [_, _], _ => rfl
theorem fx_law_plan (M : Md K mg h base) : Facts P w K mg base (c_law_plan) := ⟨all_cons ⟨has_law_take M, (He.glo_ok M.x M.g (M.c.fact 16 (f := .glo "_law_take") rfl)), show (1 : Nat) ≤ 2 from by decide⟩ (all_cons ⟨has_law_choice M, (He.glo_ok M.x M.g (M.c.fact 17 (f := .glo "_law_choice") rfl)), show (2 : Nat) ≤ 2 from by decide⟩ (all_nil)), all_nil, all_nil, all_nil, blts M, all_nil, (fun k e => by cases e), all_nil, all_nil⟩
theorem has_law_plan (M : Md K mg h base) : HasW P w K mg base "_law_plan" 3 3 f_law_plan := by
  obtain ⟨fd, F⟩ := M.c.def_ 19 (d := mkD "_law_plan" 42) rfl
  exact has_mk (ps := ["bag", "things", "lots_so"]) (Γ := c_law_plan) F (fun _ => rfl) (He.glo_ok M.x M.g (M.c.fact 19 (f := .glo "_law_plan") rfl)) (by decide +kernel) rfl rfl rfl rfl s_law_plan rfl rfl rfl (fx_law_plan M) (fun z => nomatch z) fun _ _ _ _ _ _ us hl => match us, hl with | [_, _, _], _ => rfl
theorem fx_law_good_plan (M : Md K mg h base) : Facts P w K mg base (c_law_good_plan) := ⟨all_cons ⟨has_law_rising M, (He.glo_ok M.x M.g (M.c.fact 23 (f := .glo "_law_rising") rfl)), show (2 : Nat) ≤ 2 from by decide⟩ (all_cons ⟨has_law_whole M, (He.glo_ok M.x M.g (M.c.fact 22 (f := .glo "_law_whole") rfl)), show (1 : Nat) ≤ 2 from by decide⟩ (all_nil)), all_nil, all_nil, all_nil, blts M, all_nil, (fun k e => by cases e), all_nil, all_nil⟩
theorem has_law_good_plan (M : Md K mg h base) : HasW P w K mg base "_law_good_plan" 1 3 f_law_good_plan := by
  obtain ⟨fd, F⟩ := M.c.def_ 30 (d := mkD "_law_good_plan" 53) rfl
  exact has_mk (ps := ["value"]) (Γ := c_law_good_plan) F (fun _ => rfl) (He.glo_ok M.x M.g (M.c.fact 30 (f := .glo "_law_good_plan") rfl)) (by decide +kernel) rfl rfl rfl rfl s_law_good_plan rfl rfl rfl (fx_law_good_plan M) (fun z => nomatch z) fun _ _ _ _ _ _ us hl => match us, hl with | [_], _ => rfl
theorem fx_need_plan (M : Md K mg h base) : Facts P w K mg base (c_need_plan) := ⟨all_cons ⟨has_fits_plan M, (He.glo_ok M.x M.g (M.c.fact 2 (f := .glo "fits_plan") rfl)), show (3 : Nat) ≤ 3 from by decide⟩ (all_nil), all_nil, all_cons ⟨M.c.fact 56 (f := .exc "InvalidPlan") rfl, (He.glo_ok M.x M.g (M.c.fact 57 (f := .glo "InvalidPlan") rfl))⟩ (all_nil), all_nil, blts M, all_nil, (fun k e => by cases e), all_nil, all_nil⟩
theorem has_need_plan (M : Md K mg h base) : HasW P w K mg base "need_plan" 1 4 f_need_plan := by
  obtain ⟨fd, F⟩ := M.c.def_ 3 (d := mkD "need_plan" 25) rfl
  exact has_mk (ps := ["value"]) (Γ := c_need_plan) F (fun _ => rfl) (He.glo_ok M.x M.g (M.c.fact 3 (f := .glo "need_plan") rfl)) (by decide +kernel) rfl rfl rfl rfl s_need_plan rfl rfl rfl (fx_need_plan M) (fun z => nomatch z) fun _ _ _ _ _ _ us hl => match us, hl with | [_], _ => rfl
theorem fx_is_plan (M : Md K mg h base) : Facts P w K mg base (c_is_plan) := ⟨all_cons ⟨has_fits_plan M, (He.glo_ok M.x M.g (M.c.fact 2 (f := .glo "fits_plan") rfl)), show (3 : Nat) ≤ 3 from by decide⟩ (all_nil), all_nil, all_nil, all_nil, blts M, all_nil, (fun k e => by cases e), all_nil, all_nil⟩
theorem has_is_plan (M : Md K mg h base) : HasW P w K mg base "is_plan" 1 4 f_is_plan := by
  obtain ⟨fd, F⟩ := M.c.def_ 9 (d := mkD "is_plan" 31) rfl
  exact has_mk (ps := ["value"]) (Γ := c_is_plan) F (fun _ => rfl) (He.glo_ok M.x M.g (M.c.fact 9 (f := .glo "is_plan") rfl)) (by decide +kernel) rfl rfl rfl rfl s_is_plan rfl rfl rfl (fx_is_plan M) (fun z => nomatch z) fun _ _ _ _ _ _ us hl => match us, hl with | [_], _ => rfl
theorem fx_shown (M : Md K mg h base) : Facts P w K mg base (c_shown) := ⟨all_cons ⟨has_view_of M, (He.glo_ok M.x M.g (M.c.fact 7 (f := .glo "view_of") rfl)), show (1 : Nat) ≤ 4 from by decide⟩ (all_cons ⟨has_need_case M, (He.glo_ok M.x M.g (M.c.fact 4 (f := .glo "need_case") rfl)), show (3 : Nat) ≤ 4 from by decide⟩ (all_cons ⟨has_need_plan M, (He.glo_ok M.x M.g (M.c.fact 3 (f := .glo "need_plan") rfl)), show (4 : Nat) ≤ 4 from by decide⟩ (all_nil))), all_nil, all_nil, all_nil, blts M, all_nil, (fun k e => by cases e), all_nil, all_nil⟩
theorem has_shown (M : Md K mg h base) : HasW P w K mg base "shown" 2 5 f_shown := by
  obtain ⟨fd, F⟩ := M.c.def_ 10 (d := mkD "shown" 32) rfl
  exact has_mk (ps := ["plan", "case"]) (Γ := c_shown) F (fun _ => rfl) (He.glo_ok M.x M.g (M.c.fact 10 (f := .glo "shown") rfl)) (by decide +kernel) rfl rfl rfl rfl s_shown rfl rfl rfl (fx_shown M) (fun z => nomatch z) fun _ _ _ _ _ _ us hl => match us, hl with | [_, _], _ => rfl
theorem fx_suspects (M : Md K mg h base) : Facts P w K mg base (c_suspects) := ⟨all_cons ⟨has_lots_of M, (He.glo_ok M.x M.g (M.c.fact 8 (f := .glo "lots_of") rfl)), show (1 : Nat) ≤ 4 from by decide⟩ (all_cons ⟨has_need_view M, (He.glo_ok M.x M.g (M.c.fact 5 (f := .glo "need_view") rfl)), show (3 : Nat) ≤ 4 from by decide⟩ (all_cons ⟨has_need_plan M, (He.glo_ok M.x M.g (M.c.fact 3 (f := .glo "need_plan") rfl)), show (4 : Nat) ≤ 4 from by decide⟩ (all_nil))), all_nil, all_nil, all_nil, blts M, all_nil, (fun k e => by cases e), all_nil, all_nil⟩
theorem has_suspects (M : Md K mg h base) : HasW P w K mg base "suspects" 2 5 f_suspects := by
  obtain ⟨fd, F⟩ := M.c.def_ 11 (d := mkD "suspects" 33) rfl
  exact has_mk (ps := ["plan", "view"]) (Γ := c_suspects) F (fun _ => rfl) (He.glo_ok M.x M.g (M.c.fact 11 (f := .glo "suspects") rfl)) (by decide +kernel) rfl rfl rfl rfl s_suspects rfl rfl rfl (fx_suspects M) (fun z => nomatch z) fun _ _ _ _ _ _ us hl => match us, hl with | [_, _], _ => rfl
theorem fx_lots_with (M : Md K mg h base) : Facts P w K mg base (c_lots_with) := ⟨all_cons ⟨has_lots_of M, (He.glo_ok M.x M.g (M.c.fact 8 (f := .glo "lots_of") rfl)), show (1 : Nat) ≤ 4 from by decide⟩ (all_cons ⟨has_need_thing M, (He.glo_ok M.x M.g (M.c.fact 6 (f := .glo "need_thing") rfl)), show (2 : Nat) ≤ 4 from by decide⟩ (all_cons ⟨has_need_plan M, (He.glo_ok M.x M.g (M.c.fact 3 (f := .glo "need_plan") rfl)), show (4 : Nat) ≤ 4 from by decide⟩ (all_nil))), all_nil, all_nil, all_nil, blts M, all_nil, (fun k e => by cases e), all_nil, all_nil⟩
theorem has_lots_with (M : Md K mg h base) : HasW P w K mg base "lots_with" 2 5 f_lots_with := by
  obtain ⟨fd, F⟩ := M.c.def_ 12 (d := mkD "lots_with" 34) rfl
  exact has_mk (ps := ["plan", "thing"]) (Γ := c_lots_with) F (fun _ => rfl) (He.glo_ok M.x M.g (M.c.fact 12 (f := .glo "lots_with") rfl)) (by decide +kernel) rfl rfl rfl rfl s_lots_with rfl rfl rfl (fx_lots_with M) (fun z => nomatch z) fun _ _ _ _ _ _ us hl => match us, hl with | [_, _], _ => rfl
theorem fx_law_error (M : Md K mg h base) (d : Ip.D) (g : Fn) : Facts P w K mg base (c_law_error d g) := ⟨all_nil, all_nil, all_nil, all_nil, blts M, all_nil, (fun k e => by cases e; exact ⟨has_ner M, show (1 : Nat) ≤ 7 from by decide, (He.glo_ok M.x M.g (M.c.fact 75 (f := .glo "LotError") rfl))⟩), ers_ok M, all_nil⟩
theorem has_law_error (M : Md K mg h base) : HasH P w K mg base "_law_error" 0 0 (cl_law_error + 1) 8 F_law_error := by
  obtain ⟨fd, F⟩ := M.c.def_ 25 (d := mkD "_law_error" 48) rfl
  exact hasH_mk (ps := ["call"]) (Γ := c_law_error) F rfl (He.glo_ok M.x M.g (M.c.fact 25 (f := .glo "_law_error") rfl)) (fun _ _ => show C8.scC ["call", "e"] _ _ = true from by decide +kernel) (fun _ _ => rfl) (fun _ _ => rfl) (fun _ _ => rfl) (fun _ _ => rfl) (fun _ _ => show cl_law_error + 1 ≤ 7 from by decide) s_law_error (fun _ _ => rfl) rfl (fun _ _ => rfl) (fx_law_error M) (fun _ _ => (fun z => nomatch z)) (fun _ _ _ _ _ _ us hl => match us, hl with | [_], _ => rfl) eq_law_error
theorem fx_law_all_refused (M : Md K mg h base) (d : Ip.D) (g : Fn) : Facts P w K mg base (c_law_all_refused d g) := ⟨all_nil, all_nil, all_nil, all_nil, blts M, all_cons ⟨has_law_error M, show (8 : Nat) ≤ 8 from by decide⟩ (all_nil), (fun k e => by cases e), all_nil, all_nil⟩
theorem has_law_all_refused (M : Md K mg h base) : HasH P w K mg base "_law_all_refused" 2 1 (cl_law_all_refused + 1) 9 F_law_all_refused := by
  obtain ⟨fd, F⟩ := M.c.def_ 27 (d := mkD "_law_all_refused" 50) rfl
  exact hasH_mk (ps := ["call", "odds", "name"]) (Γ := c_law_all_refused) F rfl (He.glo_ok M.x M.g (M.c.fact 27 (f := .glo "_law_all_refused") rfl)) (fun _ _ => show C8.scC ["call", "odds", "name", "odd"] _ _ = true from by decide +kernel) (fun _ _ => rfl) (fun _ _ => rfl) (fun _ _ => rfl) (fun _ _ => rfl) (fun _ _ => show cl_law_all_refused + 1 ≤ 8 from by decide) s_law_all_refused (fun _ _ => rfl) rfl (fun _ _ => rfl) (fx_law_all_refused M) (fun _ _ => (fun _ => mk_ok M (by decide +kernel))) (fun _ _ _ _ _ _ us hl => match us, hl with | [_, _, _], _ => rfl) eq_law_all_refused
theorem fx_law_refused (M : Md K mg h base) : Facts P w K mg base (c_law_refused) := ⟨all_cons ⟨has_lots_with M, (He.glo_ok M.x M.g (M.c.fact 12 (f := .glo "lots_with") rfl)), show (5 : Nat) ≤ 9 from by decide⟩ (all_cons ⟨has_law_bad_views M, (He.glo_ok M.x M.g (M.c.fact 29 (f := .glo "_law_bad_views") rfl)), show (1 : Nat) ≤ 9 from by decide⟩ (all_cons ⟨has_suspects M, (He.glo_ok M.x M.g (M.c.fact 11 (f := .glo "suspects") rfl)), show (5 : Nat) ≤ 9 from by decide⟩ (all_cons ⟨has_shown M, (He.glo_ok M.x M.g (M.c.fact 10 (f := .glo "shown") rfl)), show (5 : Nat) ≤ 9 from by decide⟩ (all_cons ⟨has_law_bad_plans M, (He.glo_ok M.x M.g (M.c.fact 28 (f := .glo "_law_bad_plans") rfl)), show (1 : Nat) ≤ 9 from by decide⟩ (all_nil))))), all_nil, all_nil, all_nil, blts M, all_cons ⟨has_law_all_refused M, show (9 : Nat) ≤ 9 from by decide⟩ (all_nil), (fun k e => by cases e), all_nil, all_nil⟩
theorem has_law_refused (M : Md K mg h base) : HasW P w K mg base "_law_refused" 1 10 f_law_refused := by
  obtain ⟨fd, F⟩ := M.c.def_ 32 (d := mkD "_law_refused" 55) rfl
  exact has_mk (ps := ["one"]) (Γ := c_law_refused) F (fun _ => rfl) (He.glo_ok M.x M.g (M.c.fact 32 (f := .glo "_law_refused") rfl)) (by decide +kernel) rfl rfl rfl rfl s_law_refused rfl rfl rfl (fx_law_refused M) (fun _ => mk_ok M (by decide +kernel)) fun _ _ _ _ _ _ us hl => match us, hl with | [_], _ => rfl
theorem fx_law_bent (M : Md K mg h base) {lv : Nat} {g : Fn} (hg : HasW P w K mg base "_law_bent" 2 lv g) (hl : 2 ≤ lv) : Facts P w K mg base (c_law_bent lv g) := ⟨all_cons ⟨hg, (He.glo_ok M.x M.g (M.c.fact 31 (f := .glo "_law_bent") rfl)), Nat.le_refl _⟩ (all_cons ⟨has_law_take M, (He.glo_ok M.x M.g (M.c.fact 16 (f := .glo "_law_take") rfl)), Nat.le_trans (show (1 : Nat) ≤ 2 from by decide) hl⟩ (all_cons ⟨has_law_choice M, (He.glo_ok M.x M.g (M.c.fact 17 (f := .glo "_law_choice") rfl)), Nat.le_trans (show (2 : Nat) ≤ 2 from by decide) hl⟩ (all_nil))), all_nil, all_nil, all_nil, blts M, all_nil, (fun k e => by cases e), all_nil, all_nil⟩
theorem hasR_law_bent (M : Md K mg h base) : ∀ k : Nat, HasW P w K mg base "_law_bent" 2 (2 + k) (fR_law_bent k)
  | 0 => by
    obtain ⟨fd, F⟩ := M.c.def_ 31 (d := mkD "_law_bent" 54) rfl
    exact has_bad (ps := ["bag", "value"]) F (He.glo_ok M.x M.g (M.c.fact 31 (f := .glo "_law_bent") rfl)) rfl fun _ _ _ _ _ _ us hl => match us, hl with | [_, _], _ => rfl
  | k + 1 => by
    obtain ⟨fd, F⟩ := M.c.def_ 31 (d := mkD "_law_bent" 54) rfl
    exact has_mk (ps := ["bag", "value"]) (Γ := c_law_bent (2 + k) (fR_law_bent k)) F (fun z => nomatch z) (He.glo_ok M.x M.g (M.c.fact 31 (f := .glo "_law_bent") rfl)) (show C8.scC ["bag", "value", "at", "way", "some"] _ _ = true from by decide +kernel) rfl rfl rfl rfl (s_law_bent _ _) rfl rfl rfl (fx_law_bent M (hasR_law_bent M k) (Nat.le_add_right _ _)) (fun z => nomatch z) fun _ _ _ _ _ _ us hl => match us, hl with | [_, _], _ => rfl
theorem has_law_bent (M : Md K mg h base) : HasW P w K mg base "_law_bent" 2 18 f_law_bent := hasR_law_bent M 16
theorem fx_law (M : Md K mg h base) : Facts P w K mg base (c_law) := ⟨all_cons ⟨has_shown M, (He.glo_ok M.x M.g (M.c.fact 10 (f := .glo "shown") rfl)), show (5 : Nat) ≤ 18 from by decide⟩ (all_cons ⟨has_suspects M, (He.glo_ok M.x M.g (M.c.fact 11 (f := .glo "suspects") rfl)), show (5 : Nat) ≤ 18 from by decide⟩ (all_cons ⟨has_lots_with M, (He.glo_ok M.x M.g (M.c.fact 12 (f := .glo "lots_with") rfl)), show (5 : Nat) ≤ 18 from by decide⟩ (all_cons ⟨has_law_known M, (He.glo_ok M.x M.g (M.c.fact 18 (f := .glo "_law_known") rfl)), show (1 : Nat) ≤ 18 from by decide⟩ (all_cons ⟨has_is_plan M, (He.glo_ok M.x M.g (M.c.fact 9 (f := .glo "is_plan") rfl)), show (4 : Nat) ≤ 18 from by decide⟩ (all_cons ⟨has_law_bad_plans M, (He.glo_ok M.x M.g (M.c.fact 28 (f := .glo "_law_bad_plans") rfl)), show (1 : Nat) ≤ 18 from by decide⟩ (all_cons ⟨has_law_refused M, (He.glo_ok M.x M.g (M.c.fact 32 (f := .glo "_law_refused") rfl)), show (10 : Nat) ≤ 18 from by decide⟩ (all_cons ⟨has_law_bent M, (He.glo_ok M.x M.g (M.c.fact 31 (f := .glo "_law_bent") rfl)), show (18 : Nat) ≤ 18 from by decide⟩ (all_cons ⟨has_law_rising M, (He.glo_ok M.x M.g (M.c.fact 23 (f := .glo "_law_rising") rfl)), show (2 : Nat) ≤ 18 from by decide⟩ (all_cons ⟨has_law_truly M, (He.glo_ok M.x M.g (M.c.fact 26 (f := .glo "_law_truly") rfl)), show (1 : Nat) ≤ 18 from by decide⟩ (all_cons ⟨has_law_good_plan M, (He.glo_ok M.x M.g (M.c.fact 30 (f := .glo "_law_good_plan") rfl)), show (3 : Nat) ≤ 18 from by decide⟩ (all_cons ⟨has_law_view M, (He.glo_ok M.x M.g (M.c.fact 20 (f := .glo "_law_view") rfl)), show (1 : Nat) ≤ 18 from by decide⟩ (all_cons ⟨has_law_suspects M, (He.glo_ok M.x M.g (M.c.fact 21 (f := .glo "_law_suspects") rfl)), show (1 : Nat) ≤ 18 from by decide⟩ (all_cons ⟨has_law_take M, (He.glo_ok M.x M.g (M.c.fact 16 (f := .glo "_law_take") rfl)), show (1 : Nat) ≤ 18 from by decide⟩ (all_cons ⟨has_law_plan M, (He.glo_ok M.x M.g (M.c.fact 19 (f := .glo "_law_plan") rfl)), show (3 : Nat) ≤ 18 from by decide⟩ (all_cons ⟨has_law_bag M, (He.glo_ok M.x M.g (M.c.fact 15 (f := .glo "_law_bag") rfl)), show (3 : Nat) ≤ 18 from by decide⟩ (all_nil)))))))))))))))), all_nil, all_nil, all_nil, blts M, all_cons ⟨has_law_error M, show (8 : Nat) ≤ 18 from by decide⟩ (all_nil), (fun k e => by cases e), all_nil, all_nil⟩
theorem has_law (M : Md K mg h base) : HasW P w K mg base "law" 1 19 f_law := by
  obtain ⟨fd, F⟩ := M.c.def_ 33 (d := mkD "law" 56) rfl
  exact has_mk (ps := ["script"]) (Γ := c_law) F (fun _ => rfl) (He.glo_ok M.x M.g (M.c.fact 33 (f := .glo "law") rfl)) (by decide +kernel) rfl rfl rfl rfl s_law rfl rfl rfl (fx_law M) (fun _ => mk_ok M (by decide +kernel)) fun _ _ _ _ _ _ us hl => match us, hl with | [_], _ => rfl
end
end K01
set_option Elab.async false
set_option linter.all false
set_option maxRecDepth 100000
set_option maxHeartbeats 4000000
namespace K01
open PySem Ip Lots Lw

/-! ### any data: what both readings say of it -/
/-- data of the kinds that the law bends plans into: of a height, of bounded lengths -/
def da (L : Nat) : Nat → D → Bool
  | _, .non => true
  | _, .bl _ => true
  | _, .int v => decide (v.natAbs ≤ L)
  | _, .str s => decide (s.length ≤ 10) && PyData.strOk s
  | 0, .tup xs => decide (xs = [])
  | 0, .lst xs => decide (xs = [])
  | h + 1, .tup xs => decide (xs.length ≤ L) && xs.all (da L h)
  | h + 1, .lst xs => decide (xs.length ≤ L) && xs.all (da L h)
  | _, _ => false
def whB (lo hi : Int) : D → Bool
  | .int v => decide (lo ≤ v) && decide (v ≤ hi)
  | _ => false
theorem whole_any {L h : Nat} {d : D} (hd : da L h d = true) (lo hi : Int) (st : Sto) : f_is_whole [d, .int lo, .int hi] st = .ok (.bl (whB lo hi d)) st := by
  cases d with
  | int v => exact is_whole_int v lo hi st
  | bl b => exact wh_bl st
  | non => exact wh_odd rfl st
  | str s => exact wh_odd rfl st
  | tup xs => exact wh_odd rfl st
  | lst xs => exact wh_odd rfl st
  | _ => cases h <;> exact nomatch hd
theorem law_whole_any {L h : Nat} {d : D} (hd : da L h d = true) (lo hi : Int) (st : Sto) : f_law_whole [d, .int lo, .int hi] st = .ok (.bl (whB lo hi d)) st := whole_any hd lo hi st
theorem all_nat {m : Nat} : ∀ {xs : List D}, xs.all (whB 0 ((m : Int) - 1)) = true → ∃ l : List Nat, xs = l.map dI ∧ ∀ x ∈ l, x < m
  | [], _ => ⟨[], rfl, fun x hx => nomatch hx⟩
  | d :: xs, h => by
    rw [List.all_cons, Bool.and_eq_true] at h
    obtain ⟨l, rfl, hl⟩ := all_nat h.2
    cases d with
    | int v =>
      have h1 : (decide (0 ≤ v) && decide (v ≤ (m : Int) - 1)) = true := h.1
      rw [Bool.and_eq_true, decide_eq_true_eq, decide_eq_true_eq] at h1
      refine ⟨v.toNat :: l, ?_, fun x hx => ?_⟩
      · rw [List.map_cons]
        congr 2
        omega
      · rcases List.mem_cons.mp hx with rfl | hx
        · omega
        · exact hl x hx
    | _ => exact nomatch h.1
theorem okSs_all : ∀ {xs : List D}, (∀ x ∈ xs, okS x = true) → okSs xs = true
  | [], _ => rfl
  | x :: xs, h => by
    show (okS x && okSs xs) = true
    rw [h x (List.mem_cons_self ..), okSs_all fun y hy => h y (List.mem_cons_of_mem _ hy)]
    rfl
theorem da_seq {L h : Nat} {xs : List D} (hd : da L h (.tup xs) = true ∨ da L h (.lst xs) = true) : xs = [] ∨ ∃ k, h = k + 1 ∧ xs.length ≤ L ∧ ∀ x ∈ xs, da L k x = true := by
  cases h with
  | zero => exact .inl (by rcases hd with hd | hd <;> exact of_decide_eq_true hd)
  | succ k =>
    refine .inr ⟨k, rfl, ?_⟩
    have hd : (decide (xs.length ≤ L) && xs.all (da L k)) = true := by rcases hd with hd | hd <;> exact hd
    rw [Bool.and_eq_true, decide_eq_true_eq, List.all_eq_true] at hd
    exact hd
theorem da_ok {L : Nat} : ∀ {h : Nat} {d : D}, da L h d = true → okS d = true ∧ (py d).depth ≤ h + 1 := by
  intro h
  induction h with
  | zero =>
    intro d hd
    cases d with
    | tup xs => rcases da_seq (.inl hd) with rfl | ⟨k, e, _⟩
                · exact ⟨rfl, by decide⟩
                · exact nomatch e
    | lst xs => rcases da_seq (.inr hd) with rfl | ⟨k, e, _⟩
                · exact ⟨rfl, by decide⟩
                · exact nomatch e
    | str s =>
      have hd : (decide (s.length ≤ 10) && PyData.strOk s) = true := hd
      rw [Bool.and_eq_true] at hd
      exact ⟨hd.2, by show (PyData.str s).depth ≤ _; simp [PyData.depth]⟩
    | non => exact ⟨rfl, by decide⟩
    | bl b => exact ⟨rfl, by show (PyData.bool b).depth ≤ _; simp [PyData.depth]⟩
    | int v => exact ⟨rfl, by show (PyData.int v).depth ≤ _; simp [PyData.depth]⟩
    | _ => exact nomatch hd
  | succ k ih =>
    intro d hd
    have sq : ∀ xs : List D, (da L (k + 1) (.tup xs) = true ∨ da L (k + 1) (.lst xs) = true) → okSs xs = true ∧ PyData.depthAll (pys xs) ≤ k + 1 := fun xs h => by
      rcases da_seq h with rfl | ⟨j, e, _, hx⟩
      · exact ⟨rfl, by simp [pys, PyData.depthAll]⟩
      · cases e
        refine ⟨okSs_all fun x hx' => (ih (hx x hx')).1, ?_⟩
        rw [pys_map]
        exact depthAll_le fun y hy => by
          obtain ⟨x, hx', rfl⟩ := List.mem_map.mp hy
          exact (ih (hx x hx')).2
    cases d with
    | tup xs =>
      have z := sq xs (.inl hd)
      exact ⟨z.1, by show (PyData.tuple (pys xs)).depth ≤ _; rw [depth_tup]; omega⟩
    | lst xs =>
      have z := sq xs (.inr hd)
      exact ⟨z.1, by show (PyData.list (pys xs)).depth ≤ _; rw [depth_lst]; omega⟩
    | str s =>
      have hd : (decide (s.length ≤ 10) && PyData.strOk s) = true := hd
      rw [Bool.and_eq_true] at hd
      exact ⟨hd.2, by show (PyData.str s).depth ≤ _; simp [PyData.depth]⟩
    | non => exact ⟨rfl, by show (PyData.none).depth ≤ _; simp [PyData.depth]⟩
    | bl b => exact ⟨rfl, by show (PyData.bool b).depth ≤ _; simp [PyData.depth]⟩
    | int v => exact ⟨rfl, by show (PyData.int v).depth ≤ _; simp [PyData.depth]⟩
    | _ => exact nomatch hd
end K01
set_option Elab.async false
set_option linter.all false
set_option maxRecDepth 100000
set_option maxHeartbeats 4000000
namespace K01
open PySem Ip Lots Lw

def lg0 : Es := (sIf (ebNot (ebOf (evIs .tuple (evVar 0)))) (sCons (sRet (evC (.bl false))) sNil) sNil)
def lgc : Ev := (evLc [2] (itVal (evVar 0)) (gN 2) (ebNot (ebOf (evCall 3 f_law_whole (eaCons (evVar 2) (eaCons (evC (.int 0)) (eaCons (evOp oSub (evVar 1) (evC (.int 1))) eaNil)))))) (evVar 2))
def lg1 : Es := (sIf (ebOf (evOp oNe lgc (evL (elDisp eaNil)))) (sCons (sRet (evC (.bl false))) sNil) sNil)
def lg2 : Es := (sRet (evOp oEq (evB bList (eaCons (evVar 0) eaNil)) (evSS (evVar 0))))
def lgb : Es := (sCons lg0 (sCons lg1 (sCons lg2 sNil)))
theorem lgeq : b_law_rising = lgb := rfl
def risB (m : Nat) : D → Bool
  | .tup xs => xs.all (whB 0 ((m : Int) - 1)) && riseB m (xs.map fun d => match d with | .int v => v.toNat | _ => 0)
  | _ => false
theorem ris_nat {m : Nat} {l : List Nat} (h : ∀ x ∈ l, x < m) : risB m (dL l) = riseB m l := by
  show ((l.map dI).all (whB 0 ((m : Int) - 1)) && riseB m ((l.map dI).map fun d => match d with | .int v => v.toNat | _ => 0)) = _
  have e : (l.map dI).all (whB 0 ((m : Int) - 1)) = true := List.all_eq_true.mpr fun d hd => by
    obtain ⟨x, hx, rfl⟩ := List.mem_map.mp hd
    have := h x hx
    show (decide (0 ≤ (x : Int)) && decide ((x : Int) ≤ (m : Int) - 1)) = true
    rw [Bool.and_eq_true, decide_eq_true_eq, decide_eq_true_eq]
    omega
  rw [e, Bool.true_and, List.map_map]
  congr 1
  exact List.map_id'' (fun x => rfl) l
theorem rising_any {L h m : Nat} {d : D} (hd : da L h d = true) (hL : L ≤ 50) (st : Sto) : f_is_rising [d, dI m] st = .ok (.bl (risB m d)) st := by
  by_cases ht : ∃ xs, d = .tup xs
  · obtain ⟨xs, rfl⟩ := ht
    have hx : xs.length ≤ 50 ∧ ∀ x ∈ xs, ∃ k, da L k x = true := by
      rcases da_seq (.inl hd) with rfl | ⟨k, rfl, h1, h2⟩
      · exact ⟨by decide, fun x hx => nomatch hx⟩
      · exact ⟨by omega, fun x hx => ⟨k, h2 x hx⟩⟩
    by_cases hw : xs.all (whB 0 ((m : Int) - 1)) = true
    · obtain ⟨l, rfl, hl⟩ := all_nat hw
      have e := ris_nat hl
      rw [List.length_map] at hx
      show f_is_rising [dL l, dI m] st = .ok (.bl (risB m (dL l))) st
      rw [e]
      exact is_rising_nat (by omega) st
    · have e : risB m (.tup xs) = false := by
        show (xs.all (whB 0 ((m : Int) - 1)) && _) = false
        rw [Bool.eq_false_iff.mpr hw, Bool.false_and]
      rw [e]
      have f2 : ∀ ys : List D, (∀ x ∈ ys, ∃ k, da L k x = true) → F2 (fun d b => IW d 0 ((m : Int) - 1) b) ys (ys.map (whB 0 ((m : Int) - 1))) := fun ys => by
        induction ys with
        | nil => exact fun _ => .nil
        | cons y ys ih => exact fun h => .cons (fun st => let ⟨k, hk⟩ := h y (List.mem_cons_self ..); whole_any hk 0 _ st) (ih fun x hx => h x (List.mem_cons_of_mem _ hx))
      refine ir_wh (f2 xs hx.2) (by omega) ?_ st
      rw [List.all_map]
      exact Bool.eq_false_iff.mpr hw
  · have e : risB m d = false := by cases d <;> first | rfl | exact absurd ⟨_, rfl⟩ ht
    rw [e]
    refine ir_odd ?_ st
    cases d <;> first | rfl | exact absurd ⟨_, rfl⟩ ht | (cases h <;> exact nomatch hd)
end K01
set_option Elab.async false
set_option linter.all false
set_option maxRecDepth 100000
set_option maxHeartbeats 4000000
namespace K01
open PySem Ip Lots Lw

theorem law_rising_any {L h m : Nat} {d : D} (hd : da L h d = true) (hL : L ≤ 50) (hh : h ≤ 50) (hm : m ≤ 60) (st : Sto) : f_law_rising [d, dI m] st = .ok (.bl (risB m d)) st := by
  have z0 : slots0 3 [d, dI m] = [some d, some (dI m), none] := rfl
  by_cases ht : ∃ xs, d = .tup xs
  · obtain ⟨xs, rfl⟩ := ht
    have hx : xs.length ≤ 50 ∧ ∀ x ∈ xs, ∃ k, k ≤ h ∧ da L k x = true := by
      rcases da_seq (.inl hd) with rfl | ⟨k, rfl, h1, h2⟩
      · exact ⟨by decide, fun x hx => nomatch hx⟩
      · exact ⟨by omega, fun x hx => ⟨k, by omega, h2 x hx⟩⟩
    have s0 : lg0 [some (.tup xs), some (dI m), none] st = .nx [some (.tup xs), some (dI m), none] st := by
      simp [lg0]
    have c1 : lgc [some (.tup xs), some (dI m), none] st = .ok (.lst ((xs.filter fun x => !whB 0 ((m : Int) - 1) x).map id)) st :=
      evLc_enc id _ id xs (by simp) (by omega) fun x hxm => ⟨[some (.tup xs), some (dI m), some x], rfl, by
        obtain ⟨k, _, hk⟩ := hx.2 x hxm
        have := law_whole_any hk 0 ((m : Int) - 1) st
        simp [this], fun _ => rfl⟩
    rw [List.map_id] at c1
    have bad : ∀ x ∈ xs.filter fun x => !whB 0 ((m : Int) - 1) x, okS x = true ∧ (py x).depth ≤ 60 := fun x hf => by
      obtain ⟨k, h1, hk⟩ := hx.2 x (List.mem_filter.mp hf).1
      have := da_ok hk
      exact ⟨this.1, by omega⟩
    have n1 := oNe_nilr (st := st) (okSs_all fun x hf => (bad x hf).1) fun x hf => (bad x hf).2
    unfold f_law_rising
    rw [lgeq, fnRun_ap, z0, lgb, sCons_ap, s0, RS.seq_nx]
    by_cases hw : xs.all (whB 0 ((m : Int) - 1)) = true
    · have e0 : (xs.filter fun x => !whB 0 ((m : Int) - 1) x) = [] := List.filter_eq_nil_iff.mpr fun x hf => by
        rw [List.all_eq_true.mp hw x hf]
        decide
      rw [e0] at c1 n1
      obtain ⟨l, rfl, hl⟩ := all_nat hw
      have e := ris_nat hl
      rw [List.length_map] at hx
      have s1 : lg1 [some (.tup (l.map dI)), some (dI m), none] st = .nx [some (.tup (l.map dI)), some (dI m), none] st := by
        generalize l.map dI = LL at c1 ⊢
        simp [lg1, c1, n1]
      have ks := kSS_ints hl hm (by omega)
      have q := oEq_intsZ (st := st) (a := l.map fun (n : Nat) => (n : Int)) (b := uniqS (l.map fun (n : Nat) => (n : Int)))
      have e2 : (l.map fun (n : Nat) => (n : Int)).map D.int = l.map dI := by rw [List.map_map]; rfl
      rw [e2] at q
      have rs := rise_set hl
      have bl : bList st [.tup (l.map dI)] = some (.lst (l.map dI)) := rfl
      have ks : kSS (.tup (l.map dI)) = _ := ks
      have s2 : lg2 [some (.tup (l.map dI)), some (dI m), none] st = .rt (.bl (riseB m l)) st := by
        rw [rs, show decide (uniqS (l.map fun (n : Nat) => (n : Int)) = l.map fun (n : Nat) => (n : Int)) = decide (l.map (fun (n : Nat) => (n : Int)) = uniqS (l.map fun (n : Nat) => (n : Int))) from decide_eq_decide.mpr eq_comm]
        generalize (uniqS (l.map fun (n : Nat) => (n : Int))).map D.int = U at ks q
        generalize decide (l.map (fun (n : Nat) => (n : Int)) = uniqS (l.map fun (n : Nat) => (n : Int))) = B at q ⊢
        generalize l.map dI = LL at ks q bl ⊢
        unfold lg2
        have r : evSS (evVar 0) [some (.tup LL), some (dI m), none] st = .ok (.lst U) st := by
          show R.lift (kSS (.tup LL)) st = _
          rw [ks]
          rfl
        generalize evSS (evVar 0) = S at r ⊢
        simp [bl, r, q]
      rw [sCons_ap, s1, RS.seq_nx, sCons_ap, s2, RS.seq_rt, ← e]
      exact fnEnd_rt
    · have e : risB m (.tup xs) = false := by
        show (xs.all (whB 0 ((m : Int) - 1)) && _) = false
        rw [Bool.eq_false_iff.mpr hw, Bool.false_and]
      have ne : (xs.filter fun x => !whB 0 ((m : Int) - 1) x) ≠ [] := fun z => hw (List.all_eq_true.mpr fun x hxm => by
        have := List.filter_eq_nil_iff.mp z x hxm
        simpa using this)
      have s1 : lg1 [some (.tup xs), some (dI m), none] st = .rt (.bl false) st := by
        generalize (xs.filter fun x => !whB 0 ((m : Int) - 1) x) = F at c1 n1 ne
        rw [show decide (F = []) = false from decide_eq_false ne] at n1
        simp [lg1, c1, n1]
      rw [sCons_ap, s1, RS.seq_rt, e]
      exact fnEnd_rt
  · have e : risB m d = false := by cases d <;> first | rfl | exact absurd ⟨_, rfl⟩ ht
    have i : isD .tuple d = some false := by cases d <;> first | rfl | exact absurd ⟨_, rfl⟩ ht | (cases h <;> exact nomatch hd)
    have s0 : lg0 [some d, some (dI m), none] st = .rt (.bl false) st := by
      simp [lg0, i]
    unfold f_law_rising
    rw [lgeq, fnRun_ap, z0, lgb, sCons_ap, s0, RS.seq_rt, e]
    exact fnEnd_rt
end K01
set_option Elab.async false
set_option linter.all false
set_option maxRecDepth 100000
set_option maxHeartbeats 4000000
namespace K01
open PySem Ip Lots Lw

def gp0 : Es := (sIf (ebOr (ebNot (ebOf (evIs .tuple (evVar 0)))) (ebOr (ebOf (evOp oNe (evB bLen (eaCons (evVar 0) eaNil)) (evC (.int 2)))) (ebNot (ebOf (evCall 3 f_law_whole (eaCons (evOp oIx (evVar 0) (evC (.int 0))) (eaCons (evC (.int 1)) (eaCons (evC (.int 10)) eaNil)))))))) (sCons (sRet (evC (.bl false))) sNil) sNil)
def gp1 : Es := (sIf (ebOr (ebNot (ebOf (evIs .tuple (evOp oIx (evVar 0) (evC (.int 1)))))) (ebOf (evOp oGt (evB bLen (eaCons (evOp oIx (evVar 0) (evC (.int 1))) eaNil)) (evC (.int 10))))) (sCons (sRet (evC (.bl false))) sNil) sNil)
def gp2 : Es := (sRet (evOp oEq (evLc [1] (itVal (evOp oIx (evVar 0) (evC (.int 1)))) (gN 1) (ebNot (ebOf (evCall 2 f_law_rising (eaCons (evVar 1) (eaCons (evOp oIx (evVar 0) (evC (.int 0))) eaNil))))) (evVar 1)) (evL (elDisp eaNil))))
def gpb : Es := (sCons gp0 (sCons gp1 (sCons gp2 sNil)))
theorem gpeq : b_law_good_plan = gpb := rfl
def fp0 : Es := (sIf (ebOr (ebNot (ebOf (evIs .tuple (evVar 0)))) (ebOr (ebOf (evOp oNe (evB bLen (eaCons (evVar 0) eaNil)) (evC (.int 2)))) (ebNot (ebOf (evCall 3 f_is_whole (eaCons (evOp oIx (evVar 0) (evC (.int 0))) (eaCons (evC (.int 1)) (eaCons (evC (.int 10)) eaNil)))))))) (sCons (sRet (evC (.bl false))) sNil) sNil)
def fp1 : Es := (sIf (ebOr (ebNot (ebOf (evIs .tuple (evOp oIx (evVar 0) (evC (.int 1)))))) (ebOf (evOp oGt (evB bLen (eaCons (evOp oIx (evVar 0) (evC (.int 1))) eaNil)) (evC (.int 10))))) (sCons (sRet (evC (.bl false))) sNil) sNil)
def fp2 : Es := (sRet (evB bAll (eaCons (evLc [1] (itVal (evOp oIx (evVar 0) (evC (.int 1)))) (gN 1) ebYes (evCall 2 f_is_rising (eaCons (evVar 1) (eaCons (evOp oIx (evVar 0) (evC (.int 0))) eaNil)))) eaNil)))
def fpb : Es := (sCons fp0 (sCons fp1 (sCons fp2 sNil)))
theorem fpeq : b_fits_plan = fpb := rfl
theorem gp0_eq : gp0 = fp0 := rfl
theorem gp1_eq : gp1 = fp1 := rfl
theorem head0 {L h : Nat} {d : D} (hd : da L h d = true) (st : Sto) : fp0 [some d, none] st = .rt (.bl false) st ∨ ∃ (a x : D) (m : Nat), d = .tup [a, x] ∧ a = dI m ∧ 1 ≤ m ∧ m ≤ 10 ∧ fp0 [some d, none] st = .nx [some d, none] st := by
  by_cases ht : ∃ xs, d = .tup xs
  · obtain ⟨xs, rfl⟩ := ht
    by_cases h2 : xs.length = 2
    · match xs, h2 with
      | [a, x], _ =>
        obtain ⟨k, rfl, h1, hx⟩ : ∃ k, h = k + 1 ∧ _ := (da_seq (.inl hd)).resolve_left (fun z => nomatch z)
        have w := whole_any (hx a (List.mem_cons_self ..)) 1 10 st
        have e : oIx st (.tup [a, x]) (.int 0) = some a := Eq.trans rfl rfl
        by_cases hw : whB 1 10 a = true
        · refine .inr ?_
          cases a with
          | int v =>
            have hv : (decide (1 ≤ v) && decide (v ≤ 10)) = true := hw
            rw [Bool.and_eq_true, decide_eq_true_eq, decide_eq_true_eq] at hv
            refine ⟨.int v, x, v.toNat, rfl, by congr 1; omega, by omega, by omega, ?_⟩
            rw [hw] at w
            simp [fp0, e, w]
          | _ => exact nomatch hw
        · refine .inl ?_
          rw [Bool.eq_false_iff.mpr hw] at w
          simp [fp0, e, w]
    · refine .inl ?_
      have e : decide ((xs.length : Int) = 2) = false := decide_eq_false (by omega)
      simp [fp0, e]
  · refine .inl ?_
    have i : isD .tuple d = some false := by cases d <;> first | rfl | exact absurd ⟨_, rfl⟩ ht | (cases h <;> exact nomatch hd)
    simp [fp0, i]
theorem fits_any {L h : Nat} {d : D} (hd : da L h d = true) (hL : L ≤ 50) (hh : h ≤ 50) (st : Sto) : ∃ B, f_fits_plan [d] st = .ok (.bl B) st ∧ f_law_good_plan [d] st = .ok (.bl B) st := by
  have z0 : slots0 2 [d] = [some d, none] := rfl
  have go : ∀ r r', fpb [some d, none] st = r → gpb [some d, none] st = r' → f_fits_plan [d] st = fnEnd false st.length r ∧ f_law_good_plan [d] st = fnEnd false st.length r' := fun r r' h1 h2 => by
    unfold f_fits_plan f_law_good_plan
    rw [fpeq, gpeq, fnRun_ap, fnRun_ap, z0, h1, h2]
    exact ⟨rfl, rfl⟩
  have fin : ∀ B, fpb [some d, none] st = .rt (.bl B) st → gpb [some d, none] st = .rt (.bl B) st → ∃ B, f_fits_plan [d] st = .ok (.bl B) st ∧ f_law_good_plan [d] st = .ok (.bl B) st := fun B h1 h2 => by
    have z := go _ _ h1 h2
    exact ⟨B, z.1.trans fnEnd_rt, z.2.trans fnEnd_rt⟩
  rcases head0 hd st with s0 | ⟨a, x, m, rfl, rfl, m1, m10, s0⟩
  · exact fin false (by rw [fpb, sCons_ap, s0, RS.seq_rt]) (by rw [gpb, gp0_eq, sCons_ap, s0, RS.seq_rt])
  obtain ⟨k, rfl, h1, hx⟩ : ∃ k, h = k + 1 ∧ _ := (da_seq (.inl hd)).resolve_left (fun z => nomatch z)
  have e : oIx st (.tup [.int (m : Int), x]) (.int 0) = some (dI m) := Eq.trans rfl rfl
  have e2 : oIx st (.tup [.int (m : Int), x]) (.int 1) = some x := Eq.trans rfl rfl
  have hdx := hx x (by simp)
  by_cases ht : ∃ ls, x = .tup ls
  · obtain ⟨ls, rfl⟩ := ht
    by_cases hl : ls.length ≤ 10
    · have e3 : decide ((10 : Int) < (ls.length : Int)) = false := decide_eq_false (by omega)
      have s1 : fp1 [some (.tup [dI m, .tup ls]), none] st = .nx [some (.tup [dI m, .tup ls]), none] st := by
        simp [fp1, e2, e3]
      have hy : ∀ y ∈ ls, ∃ j, j ≤ 50 ∧ da L j y = true := fun y hy => by
        rcases da_seq (.inl hdx) with rfl | ⟨j, rfl, _, h2⟩
        · exact nomatch hy
        · exact ⟨j, by omega, h2 y hy⟩
      have c1 : evLc [1] (itVal (evOp oIx (evVar 0) (evC (.int 1)))) (gN 1) ebYes (evCall 2 f_is_rising (eaCons (evVar 1) (eaCons (evOp oIx (evVar 0) (evC (.int 0))) eaNil))) [some (.tup [dI m, .tup ls]), none] st = .ok (.lst (ls.map fun y => .bl (risB m y))) st := by
        have := evLc_map (vs := [1]) (it := itVal (evOp oIx (evVar 0) (evC (.int 1)))) (g := gN 1) (e := evCall 2 f_is_rising (eaCons (evVar 1) (eaCons (evOp oIx (evVar 0) (evC (.int 0))) eaNil))) (ρ := [some (.tup [dI m, .tup ls]), none]) (st := st) id (fun y => .bl (risB m y)) ls (by simp [e2]) (by omega) fun y hym => ⟨[some (.tup [dI m, .tup ls]), some y], rfl, by
          obtain ⟨j, _, hj⟩ := hy y hym
          have := rising_any (m := m) hj hL st
          simp [e, this]⟩
        exact this
      have d1 := allLc c1 rfl
      have c2 : evLc [1] (itVal (evOp oIx (evVar 0) (evC (.int 1)))) (gN 1) (ebNot (ebOf (evCall 2 f_law_rising (eaCons (evVar 1) (eaCons (evOp oIx (evVar 0) (evC (.int 0))) eaNil))))) (evVar 1) [some (.tup [dI m, .tup ls]), none] st = .ok (.lst ((ls.filter fun y => !risB m y).map id)) st :=
        evLc_enc id _ id ls (by simp [e2]) (by omega) fun y hym => ⟨[some (.tup [dI m, .tup ls]), some y], rfl, by
          obtain ⟨j, hj50, hj⟩ := hy y hym
          have := law_rising_any (m := m) hj hL hj50 (by omega) st
          simp [e, this], fun _ => rfl⟩
      rw [List.map_id] at c2
      have bad : ∀ y ∈ ls.filter fun y => !risB m y, okS y = true ∧ (py y).depth ≤ 60 := fun y hf => by
        obtain ⟨j, hj50, hj⟩ := hy y (List.mem_filter.mp hf).1
        have := da_ok hj
        exact ⟨this.1, by omega⟩
      have n1 := oNe_nilr (st := st) (okSs_all fun y hf => (bad y hf).1) fun y hf => (bad y hf).2
      have q1 : oEq st (.lst (ls.filter fun y => !risB m y)) (.lst []) = some (.bl (ls.all (risB m))) := by
        have ok : okD (.lst (ls.filter fun y => !risB m y)) = true := okD_lst (okSs_all fun y hf => (bad y hf).1) fun y hf => (bad y hf).2
        have e4 : oEq st (.lst (ls.filter fun y => !risB m y)) (.lst []) = if okD (.lst (ls.filter fun y => !risB m y)) = true ∧ okD (.lst []) = true then some (.bl (eqD (.lst (ls.filter fun y => !risB m y)) (.lst []))) else none := rfl
        rw [e4, if_pos ⟨ok, rfl⟩]
        congr 2
        cases hF : ls.filter fun y => !risB m y with
        | nil =>
          have : ls.all (risB m) = true := List.all_eq_true.mpr fun y hy => by
            have := List.filter_eq_nil_iff.mp hF y hy
            simpa using this
          rw [this]
          rfl
        | cons y r =>
          have : ls.all (risB m) = false := Bool.eq_false_iff.mpr fun z => by
            have hm : y ∈ ls.filter fun y => !risB m y := by rw [hF]; exact List.mem_cons_self ..
            have h2 := (List.mem_filter.mp hm).2
            rw [List.all_eq_true.mp z y (List.mem_filter.mp hm).1] at h2
            exact nomatch h2
          rw [this]
          show PyData.eqv (.list (py y :: pys r)) (.list []) = false
          simp [PyData.eqv, PyData.eqvAll]
      have t1 : fp2 [some (.tup [dI m, .tup ls]), none] st = .rt (.bl (ls.all (risB m))) st := by
        unfold fp2
        rw [sRet_ap, d1, R.stm_ok, kRet_0]
      have t2 : gp2 [some (.tup [dI m, .tup ls]), none] st = .rt (.bl (ls.all (risB m))) st := by
        unfold gp2
        generalize evLc [1] (itVal (evOp oIx (evVar 0) (evC (.int 1)))) (gN 1) (ebNot (ebOf (evCall 2 f_law_rising (eaCons (evVar 1) (eaCons (evOp oIx (evVar 0) (evC (.int 0))) eaNil))))) (evVar 1) = G at c2 ⊢
        generalize ls.filter (fun y => !risB m y) = F at c2 q1
        simp [c2, q1]
      exact fin _ (by rw [fpb, sCons_ap, s0, RS.seq_nx, sCons_ap, s1, RS.seq_nx, sCons_ap, t1, RS.seq_rt]) (by rw [gpb, gp0_eq, gp1_eq, sCons_ap, s0, RS.seq_nx, sCons_ap, s1, RS.seq_nx, sCons_ap, t2, RS.seq_rt])
    · have e3 : decide ((10 : Int) < (ls.length : Int)) = true := decide_eq_true (by omega)
      have s1 : fp1 [some (.tup [dI m, .tup ls]), none] st = .rt (.bl false) st := by
        simp [fp1, e2, e3]
      exact fin false (by rw [fpb, sCons_ap, s0, RS.seq_nx, sCons_ap, s1, RS.seq_rt]) (by rw [gpb, gp0_eq, gp1_eq, sCons_ap, s0, RS.seq_nx, sCons_ap, s1, RS.seq_rt])
  · have i : isD .tuple x = some false := by cases x <;> first | rfl | exact absurd ⟨_, rfl⟩ ht | (cases k <;> exact nomatch hdx)
    have s1 : fp1 [some (.tup [dI m, x]), none] st = .rt (.bl false) st := by
      simp [fp1, e2, i]
    exact fin false (by rw [fpb, sCons_ap, s0, RS.seq_nx, sCons_ap, s1, RS.seq_rt]) (by rw [gpb, gp0_eq, gp1_eq, sCons_ap, s0, RS.seq_nx, sCons_ap, s1, RS.seq_rt])
end K01
set_option Elab.async false
set_option linter.all false
set_option maxRecDepth 100000
set_option maxHeartbeats 4000000
namespace K01
open PySem Ip Lots Lw

theorem da_tup {L h : Nat} {xs : List D} (hl : xs.length ≤ L) (hx : ∀ x ∈ xs, da L h x = true) : da L (h + 1) (.tup xs) = true := by
  show (decide (xs.length ≤ L) && xs.all (da L h)) = true
  rw [Bool.and_eq_true, decide_eq_true_eq, List.all_eq_true]
  exact ⟨hl, hx⟩
theorem da_lst {L h : Nat} {xs : List D} (hl : xs.length ≤ L) (hx : ∀ x ∈ xs, da L h x = true) : da L (h + 1) (.lst xs) = true := da_tup hl hx
theorem da_mono {L L' : Nat} (hL : L ≤ L') : ∀ {h h' : Nat} {d : D}, h ≤ h' → da L h d = true → da L' h' d = true := by
  intro h
  induction h with
  | zero =>
    intro h' d _ hd
    cases d with
    | tup xs => rcases da_seq (.inl hd) with rfl | ⟨k, e, _⟩
                · cases h' <;> rfl
                · exact nomatch e
    | lst xs => rcases da_seq (.inr hd) with rfl | ⟨k, e, _⟩
                · cases h' <;> rfl
                · exact nomatch e
    | int v =>
      have hd : decide (v.natAbs ≤ L) = true := hd
      have hd := of_decide_eq_true hd
      have : decide (v.natAbs ≤ L') = true := decide_eq_true (by omega)
      cases h' <;> exact this
    | str s => cases h' <;> exact hd
    | non => cases h' <;> rfl
    | bl b => cases h' <;> rfl
    | _ => exact nomatch hd
  | succ k ih =>
    intro h' d hh hd
    obtain ⟨j, rfl⟩ : ∃ j, h' = j + 1 := ⟨h' - 1, by omega⟩
    cases d with
    | tup xs => rcases da_seq (.inl hd) with rfl | ⟨i, e, h1, h2⟩
                · exact da_tup (Nat.zero_le _) fun x hx => nomatch hx
                · cases e
                  exact da_tup (Nat.le_trans h1 hL) fun x hx => ih (by omega) (h2 x hx)
    | lst xs => rcases da_seq (.inr hd) with rfl | ⟨i, e, h1, h2⟩
                · exact da_lst (Nat.zero_le _) fun x hx => nomatch hx
                · cases e
                  exact da_lst (Nat.le_trans h1 hL) fun x hx => ih (by omega) (h2 x hx)
    | int v =>
      have hd : decide (v.natAbs ≤ L) = true := hd
      have hd := of_decide_eq_true hd
      exact (decide_eq_true (by omega) : decide (v.natAbs ≤ L') = true)
    | str s => exact hd
    | non => rfl
    | bl b => rfl
    | _ => exact nomatch hd
end K01
set_option Elab.async false
set_option linter.all false
set_option maxRecDepth 100000
set_option maxHeartbeats 4000000
namespace Lw
open PySem Ip Lots

/-! ### what several laws ask of refusals -/
theorem oEq_same {st : Sto} {d : D} (h : okD d = true) (hd : deref st d = d) : oEq st d d = some (.bl true) := by
  unfold oEq
  rw [hd, if_pos ⟨h, h⟩, eqD_refl (Bool.and_eq_true_iff.mp h).1]
theorem oNe_same {st : Sto} {d : D} (h : okD d = true) (hd : deref st d = d) : oNe st d d = some (.bl false) := by
  unfold oNe
  rw [hd, if_pos ⟨h, h⟩, eqD_refl (Bool.and_eq_true_iff.mp h).1]
  rfl
theorem okS_plan (p : Pl) : okS (dP p) = true := by
  show (okS (dI p.1) && (okS (.tup (p.2.map dL)) && true)) = true
  have : okS (.tup (p.2.map dL)) = true := okSs_map fun _ _ => okS_dL
  rw [this]
  rfl
theorem depth_plan (p : Pl) : (py (dP p)).depth ≤ 5 := by
  show (PyData.tuple [.int p.1, py (.tup (p.2.map dL))]).depth ≤ 5
  rw [depth_tup]
  have h : (py (.tup (p.2.map dL))).depth ≤ 2 := by
    show (PyData.tuple (pys (p.2.map dL))).depth ≤ 2
    rw [depth_tup, pys_map]
    have : PyData.depthAll ((p.2.map dL).map py) ≤ 1 := depthAll_le fun x hx => by
      obtain ⟨d, hd, rfl⟩ := List.mem_map.mp hx
      obtain ⟨l, _, rfl⟩ := List.mem_map.mp hd
      exact depth_dL
    omega
  simp [PyData.depthAll, PyData.depth]
  omega
theorem okD_plan (p : Pl) : okD (dP p) = true := okD_of (okS_plan p) (by have := depth_plan p; omega)
theorem okD_row (l : List Nat) : okD (dL l) = true := okD_of okS_dL (by have := depth_dL (l := l); omega)
theorem lamAp {F : Fn → Fn} {fb : Ev} {N : List Str} {js : List Nat} {n : Nat} {ga : Ea} {ρ : Sl} {st : Sto} {ds : List D} (h : ga ρ st = .ok ds st) (hn : ds.length = n) : evLam F fb N js n ga ρ st = F (fun es st => fb (slotsL N js es ρ) st) ds st := by
  unfold evLam
  rw [h, R.bind_ok, if_pos hn]
theorem callVg {i n : Nat} {x : Str} {f : Fn} {fns : List (Str × Nat × Nat × Fn)} {ga : Ea} {ρ : Sl} {st : Sto} {ds : List D} (h : ρ[i]? = some (some (.glo x))) (hc : calOf [] fns (.glo x) = some (n, f)) (hg : ga ρ st = .ok ds st) (hl : ds.length = n) : evCallV i [] fns ga ρ st = f ds st := by
  unfold evCallV evVar
  rw [h]
  show (match calOf [] fns (.glo x) with
    | some q => (ga ρ st).bind fun ds st2 => if ds.length = q.1 then q.2 ds st2 else .bad
    | none => .bad) = _
  rw [hc, hg]
  exact if_pos hl
theorem callEx {n : Nat} {f : Fn} {g : Ea} {ρ : Sl} {st : Sto} {ds : List D} {c : Str} (hg : g ρ st = .ok ds st) (hl : ds.length = n) (hf : f ds st = .exc c st) : evCall n f g ρ st = .exc c st := by
  rw [evCall_ap, hg, R.bind_ok, kCall_0 hl, hf]
/-! ### views that are none -/
def badVs (m : Nat) : List D := [.non, .tup [dI m], .tup [.int (-1)], .lst [.int 0], .str "0", .tup [.int 0, .int 0], .tup [.bl true], .tup [.str "0"], .int 0, .tup [.int 1, .int 0]]
theorem bad_vs (m : Nat) (st : Sto) : f_law_bad_views [dI m] st = .ok (.lst (badVs m)) st := by
  have e : b_law_bad_views [some (dI m)] st = .rt (.lst (badVs m)) st := by kernel_rfl
  unfold f_law_bad_views
  rw [fnRun_ap]
  have e0 : slots0 1 [dI m] = ([some (dI m)] : Sl) := rfl
  rw [e0, e, fnEnd_rt]
theorem irDown {m a b : Int} (h : b ≤ a) : IR (.tup [.int a, .int b]) m false := by
  by_cases ha : 0 ≤ a ∧ a ≤ m - 1
  · by_cases hb : 0 ≤ b ∧ b ≤ m - 1
    · exact ir_two ha hb h
    · refine ir_wh (.cons wh_int (.cons wh_int .nil)) (by show 2 ≤ 1000; decide) ?_
      have : (decide (0 ≤ b) && decide (b ≤ m - 1)) = false := by
        rw [Bool.and_eq_false_iff, decide_eq_false_iff_not, decide_eq_false_iff_not]
        omega
      rw [this]
      simp
  · refine ir_wh (.cons wh_int (.cons wh_int .nil)) (by show 2 ≤ 1000; decide) ?_
    have : (decide (0 ≤ a) && decide (a ≤ m - 1)) = false := by
      rw [Bool.and_eq_false_iff, decide_eq_false_iff_not, decide_eq_false_iff_not]
      omega
    rw [this]
    simp
theorem badVs_all (m : Nat) : ∀ d ∈ badVs m, IR d (m : Int) false := by
  intro d hd
  unfold badVs at hd
  simp only [List.mem_cons, List.not_mem_nil, or_false] at hd
  rcases hd with rfl | rfl | rfl | rfl | rfl | rfl | rfl | rfl | rfl | rfl
  · exact ir_odd rfl
  · refine ir_wh (.cons wh_int .nil) (by show 1 ≤ 1000; decide) ?_
    have : decide ((m : Int) ≤ (m : Int) - 1) = false := decide_eq_false (by omega)
    rw [this, Bool.and_false]
    rfl
  · refine ir_wh (.cons wh_int .nil) (by decide) ?_
    rfl
  · exact ir_odd rfl
  · exact ir_odd rfl
  · exact irDown (Int.le_refl _)
  · exact ir_wh (.cons wh_bl .nil) (by decide) rfl
  · exact ir_wh (.cons (wh_odd rfl) .nil) (by decide) rfl
  · exact ir_odd rfl
  · exact irDown (by decide)
theorem badV_view {m : Nat} {d : D} (h : IR d (m : Int) false) (st : Sto) : f_need_view [.int (m : Int), d] st = .exc "InvalidView" st := by
  have := h st
  simp [f_need_view, b_need_view, this]
theorem badV_case {p : Pl} {d : D} (h : IR d (p.1 : Int) false) (st : Sto) : f_need_case [dP p, d] st = .exc "InvalidCase" st := by
  have := h st
  have ix : oIx st (dP p) (.int 0) = some (.int (p.1 : Int)) := Eq.trans rfl rfl
  generalize dP p = P at ix ⊢
  simp [f_need_case, b_need_case, ix, this]
theorem e_plan : ("InvalidPlan" : Str) ∈ ers0 ∧ nameOf "InvalidPlan" = "plan" ∧ PyData.strOk (nameOf "InvalidPlan") = true := by decide +kernel
theorem e_numb : ("InvalidNumber" : Str) ∈ ers0 ∧ nameOf "InvalidNumber" = "number" ∧ PyData.strOk (nameOf "InvalidNumber") = true := by decide +kernel
theorem e_view : ("InvalidView" : Str) ∈ ers0 ∧ nameOf "InvalidView" = "view" ∧ PyData.strOk (nameOf "InvalidView") = true := by decide +kernel
theorem e_case : ("InvalidCase" : Str) ∈ ers0 ∧ nameOf "InvalidCase" = "case" ∧ PyData.strOk (nameOf "InvalidCase") = true := by decide +kernel
theorem e_thing : ("InvalidThing" : Str) ∈ ers0 ∧ nameOf "InvalidThing" = "thing" ∧ PyData.strOk (nameOf "InvalidThing") = true := by decide +kernel
theorem e_index : ("InvalidIndex" : Str) ∈ ers0 ∧ nameOf "InvalidIndex" = "index" ∧ PyData.strOk (nameOf "InvalidIndex") = true := by decide +kernel
theorem e_text : ("InvalidText" : Str) ∈ ers0 ∧ nameOf "InvalidText" = "text" ∧ PyData.strOk (nameOf "InvalidText") = true := by decide +kernel
theorem e_unlike : ("Unlike" : Str) ∈ ers0 ∧ nameOf "Unlike" = "unlike" ∧ PyData.strOk (nameOf "Unlike") = true := by decide +kernel
theorem refusedE {g : Fn} {st : Sto} {c nm : Str} {ds : List D} (e : c ∈ ers0 ∧ nameOf c = nm ∧ PyData.strOk (nameOf c) = true) (h : ∀ d ∈ ds, g [d] st = .exc c st) : F_law_all_refused g [.lst ds, .str nm] st = .ok (.bl true) st := refused_true e.1 e.2.2 e.2.1 h
theorem errorE {g : Fn} {ds : List D} {st : Sto} {c nm : Str} (e : c ∈ ers0 ∧ nameOf c = nm ∧ PyData.strOk (nameOf c) = true) (h : g [] st = .exc c st) : F_law_error g ds st = .ok (.str nm) st := by
  rw [error_exc h e.1, e.2.1]
/-! ### things that are none -/
def badTs (m : Nat) : List D := [.non, .int (-1), dI m, .bl true, .str "0", .tup [.int 0]]
theorem badTs_all (m : Nat) : ∀ d ∈ badTs m, IW d 0 ((m : Int) - 1) false := by
  intro d hd
  unfold badTs at hd
  simp only [List.mem_cons, List.not_mem_nil, or_false] at hd
  rcases hd with rfl | rfl | rfl | rfl | rfl | rfl
  · exact wh_odd rfl
  · have := wh_int (v := -1) (lo := 0) (hi := (m : Int) - 1)
    exact this
  · have := wh_int (v := (m : Int)) (lo := 0) (hi := (m : Int) - 1)
    rw [decide_eq_false (by omega : ¬ (m : Int) ≤ (m : Int) - 1), Bool.and_false] at this
    exact this
  · exact wh_bl
  · exact wh_odd rfl
  · exact wh_odd rfl
theorem badT_thing {m : Nat} {d : D} (h : IW d 0 ((m : Int) - 1) false) (st : Sto) : f_need_thing [d, .int (m : Int)] st = .exc "InvalidThing" st := by
  have := h st
  simp [f_need_thing, b_need_thing, this]
end Lw
set_option Elab.async false
set_option linter.all false
set_option maxRecDepth 100000
set_option maxHeartbeats 4000000
namespace K01
open PySem Ip Lots Lw

def bt0 : Es := (sIf (ebAnd (ebOf (evIs .int (evVar 1))) (ebAnd (ebNot (ebOf (evIs .bool (evVar 1)))) (ebOf (evOp oGt (evCall 2 f_law_take (eaCons (evVar 0) (eaCons (evC (.int 3)) eaNil))) (evC (.int 0)))))) (sCons (sRet (evCall 2 f_law_choice (eaCons (evVar 0) (eaCons (evL (elDisp (eaCons (evOp oAdd (evVar 1) (evC (.int 1))) (eaCons (evOp oSub (evVar 1) (evC (.int 1))) (eaCons (evNeg (evVar 1)) (eaCons (evC (.bl true)) (eaCons (evC (.int 10)) (eaCons (evC (.int 11)) (eaCons (evB bStr (eaCons (evVar 1) eaNil)) eaNil))))))))) eaNil)))) sNil) sNil)
def bt1 : Es := (sIf (ebOr (ebNot (ebOf (evIs .tuple (evVar 1)))) (ebOr (ebOf (evOp oEq (evVar 1) (evTup eaNil))) (ebOf (evOp oEq (evCall 2 f_law_take (eaCons (evVar 0) (eaCons (evC (.int 6)) eaNil))) (evC (.int 0)))))) (sCons (sSet 4 (evL (elDisp (eaCons (evC .non) (eaCons (evC (.int 0)) (eaCons (evC (.int 1)) (eaCons (evNeg (evC (.int 1))) (eaCons (evC (.int 2)) (eaCons (evC (.bl true)) (eaCons (evC (.str "")) (eaCons (evC (.str "01")) (eaCons (evTup eaNil) (eaCons (evTup (eaCons (evC (.int 0)) (eaCons (evC (.int 1)) eaNil))) (eaCons (evTup (eaCons (evC (.int 1)) (eaCons (evC (.int 0)) eaNil))) (eaCons (evTup (eaCons (evTup (eaCons (evC (.int 0)) eaNil)) eaNil)) (eaCons (evL (elDisp eaNil)) eaNil)))))))))))))))) (sCons (sRet (evCall 2 f_law_choice (eaCons (evVar 0) (eaCons (evVar 4) eaNil)))) sNil)) sNil)
def bt2 : Es := (sPar 2 3 (eaCons (evCall 2 f_law_take (eaCons (evVar 0) (eaCons (evB bLen (eaCons (evVar 1) eaNil)) eaNil))) (eaCons (evCall 2 f_law_take (eaCons (evVar 0) (eaCons (evC (.int 8)) eaNil))) eaNil)))
def bt3 : Es := (sIf (ebOf (evOp oEq (evVar 3) (evC (.int 0)))) (sCons (sRet (evOp oAdd (evSl (evVar 1) eoNone (eoSome (evVar 2))) (evSl (evVar 1) (eoSome (evOp oAdd (evVar 2) (evC (.int 1)))) eoNone))) sNil) sNil)
def bt4 : Es := (sIf (ebOf (evOp oEq (evVar 3) (evC (.int 1)))) (sCons (sRet (evOp oAdd (evOp oAdd (evSl (evVar 1) eoNone (eoSome (evVar 2))) (evSl (evVar 1) (eoSome (evVar 2)) (eoSome (evOp oAdd (evVar 2) (evC (.int 1)))))) (evSl (evVar 1) (eoSome (evVar 2)) eoNone))) sNil) sNil)
def bt5 : Es := (sIf (ebOf (evOp oEq (evVar 3) (evC (.int 2)))) (sCons (sRet (evRevL (evVar 1))) sNil) sNil)
def bt6 : Es := (sIf (ebOf (evOp oEq (evVar 3) (evC (.int 3)))) (sCons (sRet (evB bList (eaCons (evVar 1) eaNil))) sNil) sNil)
def bt7 (g : Fn) : Es := (sRet (evOp oAdd (evOp oAdd (evSl (evVar 1) eoNone (eoSome (evVar 2))) (evTup (eaCons (evCall 2 g (eaCons (evVar 0) (eaCons (evOp oIx (evVar 1) (evVar 2)) eaNil))) eaNil))) (evSl (evVar 1) (eoSome (evOp oAdd (evVar 2) (evC (.int 1)))) eoNone)))
def btb (g : Fn) : Es := (sCons bt0 (sCons bt1 (sCons bt2 (sCons bt3 (sCons bt4 (sCons bt5 (sCons bt6 (sCons (bt7 g) sNil))))))))
theorem bteq (g : Fn) : b_law_bent g = btb g := rfl
def odds : List D := [.non, .int 0, .int 1, .int (-1), .int 2, .bl true, .str "", .str "01", .tup [], .tup [.int 0, .int 1], .tup [.int 1, .int 0], .tup [.tup [.int 0]], .lst []]
theorem odds_da : ∀ x ∈ odds, da 11 2 x = true := by decide +kernel
def strI (v : Int) : Str := toString v
theorem strI_ok : ∀ n : Nat, n < 61 → ((strI (n : Int)).length ≤ 10 ∧ PyData.strOk (strI (n : Int)) = true) ∧ ((strI (-(n : Int))).length ≤ 10 ∧ PyData.strOk (strI (-(n : Int))) = true) := by decide +kernel
theorem strI_all {v : Int} (h : v.natAbs ≤ 60) : (strI v).length ≤ 10 ∧ PyData.strOk (strI v) = true := by
  have z := strI_ok v.natAbs (by omega)
  rcases Int.natAbs_eq v with e | e
  · rw [← e] at z; exact z.1
  · rw [← e] at z; exact z.2
theorem cut_lo {xs : List D} {k : Nat} : cutD xs none (some (k : Int)) = xs.take k := by
  unfold cutD
  rw [HT.sIx_none, HT.sIx_nat, List.drop_zero, Nat.sub_zero]
  by_cases h : k ≤ xs.length
  · rw [Nat.min_eq_left h]
  · rw [Nat.min_eq_right (by omega), List.take_of_length_le (Nat.le_refl _), List.take_of_length_le (by omega)]
theorem cut_hi {xs : List D} {k : Nat} : cutD xs (some (k : Int)) none = xs.drop k := by
  unfold cutD
  rw [HT.sIx_none, HT.sIx_nat]
  by_cases h : k ≤ xs.length
  · rw [Nat.min_eq_left h, List.take_of_length_le (by rw [List.length_drop]; exact Nat.le_refl _)]
  · rw [Nat.min_eq_right (by omega), List.drop_of_length_le (Nat.le_refl _), List.drop_of_length_le (by omega), List.take_nil]
theorem cut_mid {xs : List D} {k : Nat} (h : k < xs.length) : cutD xs (some (k : Int)) (some ((k : Int) + 1)) = (xs.drop k).take 1 := by
  have e : ((k : Int) + 1) = ((k + 1 : Nat) : Int) := by omega
  unfold cutD
  rw [e, HT.sIx_nat, HT.sIx_nat, Nat.min_eq_left (by omega), Nat.min_eq_left (by omega)]
  congr 1
  omega
theorem tup_add {st : Sto} {a b : List D} (h : a.length + b.length ≤ 1000000) : oAdd st (.tup a) (.tup b) = some (.tup (a ++ b)) := by
  have e : oAdd st (.tup a) (.tup b) = if a.length + b.length ≤ 1000000 then some (.tup (a ++ b)) else none := rfl
  rw [e, if_pos h]
section
variable {b : Nat} {st : Sto} {d : D} {L h : Nat} {x2 x3 x4 : Option D}
theorem bt0_nx (hd : da L h d = true) (hb : Bag b st) (hL : L ≤ 50) (h11 : 11 ≤ L) : (∃ d' st', bt0 [some (.ref b), some d, x2, x3, x4] st = .rt d' st' ∧ da (L + 1) (h + 2) d' = true ∧ Drw b st st') ∨ ∃ st', bt0 [some (.ref b), some d, x2, x3, x4] st = .nx [some (.ref b), some d, x2, x3, x4] st' ∧ Drw b st st' := by
  by_cases hi : ∃ v, d = .int v
  · obtain ⟨v, rfl⟩ := hi
    have hv : v.natAbs ≤ L := by cases h <;> exact of_decide_eq_true hd
    obtain ⟨t, st1, ht, d1, e1⟩ := law_take_ok (m := 3) hb (by decide)
    have e1 : f_law_take [.ref b, .int 3] st = .ok (dI t) st1 := e1
    by_cases h0 : t = 0
    · subst h0
      exact .inr ⟨st1, by simp [bt0, e1], d1⟩
    · have hp : decide ((0 : Int) < (t : Int)) = true := decide_eq_true (by omega)
      obtain ⟨i, st2, d', hi, d2, e2⟩ := law_choice_ok (xs := [.int (v + 1), .int (v - 1), .int (-v), .bl true, .int 10, .int 11, .str (strI v)]) (d1.bag hb) (by simp)
      have bs : bStr st1 [.int v] = some (.str (strI v)) := by
        have e : bStr st1 [.int v] = if v.natAbs < 2 ^ 1900 then some (.str (toString v)) else none := rfl
        rw [e, if_pos (Nat.lt_of_le_of_lt (by omega : v.natAbs ≤ 1000) (by decide))]
        rfl
      refine .inl ⟨d', st2, ?_, ?_, d1.trans d2⟩
      · generalize strI v = S at bs e2
        have hp2 : 0 < t := by omega
        simp [bt0, e1, hp, hp2, bs, e2]
      · have mem := List.mem_of_getElem? hi
        simp only [List.mem_cons, List.not_mem_nil, or_false] at mem
        have zi : ∀ w : Int, w.natAbs ≤ L + 1 → da (L + 1) (h + 2) (.int w) = true := fun w hw => (decide_eq_true hw : decide (w.natAbs ≤ L + 1) = true)
        rcases mem with rfl | rfl | rfl | rfl | rfl | rfl | rfl
        · exact zi _ (by omega)
        · exact zi _ (by omega)
        · exact zi _ (by omega)
        · rfl
        · exact zi _ (by omega)
        · exact zi _ (by omega)
        · have z := strI_all (v := v) (by omega)
          show (decide ((strI v).length ≤ 10) && PyData.strOk (strI v)) = true
          rw [decide_eq_true z.1, z.2]
          rfl
  · refine .inr ⟨st, ?_, hb.refl⟩
    cases d with
    | int v => exact absurd ⟨v, rfl⟩ hi
    | non =>
      have i : isD .int .non = some false := Eq.trans rfl rfl
      simp [bt0, i]
    | bl v => simp [bt0]
    | str v => simp [bt0]
    | tup v => simp [bt0]
    | lst v => simp [bt0]
    | _ => cases h <;> exact nomatch hd
theorem bt1_nx (hd : da L h d = true) (hb : Bag b st) (hL : L ≤ 50) (h11 : 11 ≤ L) (hh : h ≤ 50) : (∃ d' st', bt1 [some (.ref b), some d, x2, x3, x4] st = .rt d' st' ∧ da (L + 1) (h + 2) d' = true ∧ Drw b st st') ∨ ∃ xs st', d = .tup xs ∧ xs ≠ [] ∧ bt1 [some (.ref b), some d, x2, x3, x4] st = .nx [some (.ref b), some d, x2, x3, x4] st' ∧ Drw b st st' := by
  -- the choice among the odd values
  have ch : ∀ st1, Bag b st1 → ∃ d' st2, da (L + 1) (h + 2) d' = true ∧ Drw b st1 st2 ∧ (sCons (sSet 4 (evL (elDisp (eaCons (evC .non) (eaCons (evC (.int 0)) (eaCons (evC (.int 1)) (eaCons (evNeg (evC (.int 1))) (eaCons (evC (.int 2)) (eaCons (evC (.bl true)) (eaCons (evC (.str "")) (eaCons (evC (.str "01")) (eaCons (evTup eaNil) (eaCons (evTup (eaCons (evC (.int 0)) (eaCons (evC (.int 1)) eaNil))) (eaCons (evTup (eaCons (evC (.int 1)) (eaCons (evC (.int 0)) eaNil))) (eaCons (evTup (eaCons (evTup (eaCons (evC (.int 0)) eaNil)) eaNil)) (eaCons (evL (elDisp eaNil)) eaNil)))))))))))))))) (sCons (sRet (evCall 2 f_law_choice (eaCons (evVar 0) (eaCons (evVar 4) eaNil)))) sNil)) [some (.ref b), some d, x2, x3, x4] st1 = .rt d' st2 := fun st1 hb1 => by
    obtain ⟨i, st2, d', hi, d2, e2⟩ := law_choice_ok (xs := odds) hb1 (by decide)
    refine ⟨d', st2, da_mono (by omega) (by omega) (odds_da d' (List.mem_of_getElem? hi)), d2, ?_⟩
    have s : (sSet 4 (evL (elDisp (eaCons (evC .non) (eaCons (evC (.int 0)) (eaCons (evC (.int 1)) (eaCons (evNeg (evC (.int 1))) (eaCons (evC (.int 2)) (eaCons (evC (.bl true)) (eaCons (evC (.str "")) (eaCons (evC (.str "01")) (eaCons (evTup eaNil) (eaCons (evTup (eaCons (evC (.int 0)) (eaCons (evC (.int 1)) eaNil))) (eaCons (evTup (eaCons (evC (.int 1)) (eaCons (evC (.int 0)) eaNil))) (eaCons (evTup (eaCons (evTup (eaCons (evC (.int 0)) eaNil)) eaNil)) (eaCons (evL (elDisp eaNil)) eaNil)))))))))))))))) [some (.ref b), some d, x2, x3, x4] st1 = .nx [some (.ref b), some d, x2, x3, some (.lst odds)] st1 := by kernel_rfl
    rw [sCons_ap, s, RS.seq_nx]
    generalize odds = O at e2
    simp [e2]
  by_cases ht : ∃ xs, d = .tup xs
  · obtain ⟨xs, rfl⟩ := ht
    have z := da_ok hd
    have q : oEq st (.tup xs) (.tup []) = some (.bl (decide (xs = []))) := by
      have ok : okD (.tup xs) = true := okD_of z.1 (by omega)
      have e4 : oEq st (.tup xs) (.tup []) = if okD (.tup xs) = true ∧ okD (.tup []) = true then some (.bl (eqD (.tup xs) (.tup []))) else none := rfl
      rw [e4, if_pos ⟨ok, rfl⟩]
      congr 2
      cases xs with
      | nil => rfl
      | cons x r =>
        show PyData.eqv (.tuple (py x :: pys r)) (.tuple []) = _
        simp [PyData.eqv, PyData.eqvAll]
    by_cases he : xs = []
    · subst he
      obtain ⟨d', st2, k1, k2, k3⟩ := ch st hb
      refine .inl ⟨d', st2, ?_, k1, k2⟩
      unfold bt1
      rw [sIf_ap]
      have t : ebOr (ebNot (ebOf (evIs .tuple (evVar 1)))) (ebOr (ebOf (evOp oEq (evVar 1) (evTup eaNil))) (ebOf (evOp oEq (evCall 2 f_law_take (eaCons (evVar 0) (eaCons (evC (.int 6)) eaNil))) (evC (.int 0))))) [some (.ref b), some (.tup []), x2, x3, x4] st = .ok true st := by
        simp [q]
      rw [t, R.stm_ok, kSIf_0, k3]
    · obtain ⟨t, st1, ht, d1, e1⟩ := law_take_ok (m := 6) hb (by decide)
      have e1 : f_law_take [.ref b, .int 6] st = .ok (dI t) st1 := e1
      rw [decide_eq_false he] at q
      by_cases h0 : t = 0
      · subst h0
        obtain ⟨d', st2, k1, k2, k3⟩ := ch st1 (d1.bag hb)
        refine .inl ⟨d', st2, ?_, k1, d1.trans k2⟩
        unfold bt1
        rw [sIf_ap]
        have t : ebOr (ebNot (ebOf (evIs .tuple (evVar 1)))) (ebOr (ebOf (evOp oEq (evVar 1) (evTup eaNil))) (ebOf (evOp oEq (evCall 2 f_law_take (eaCons (evVar 0) (eaCons (evC (.int 6)) eaNil))) (evC (.int 0))))) [some (.ref b), some (.tup xs), x2, x3, x4] st = .ok true st1 := by
          simp [q, e1]
        rw [t, R.stm_ok, kSIf_0, k3]
      · refine .inr ⟨xs, st1, rfl, he, ?_, d1⟩
        unfold bt1
        rw [sIf_ap]
        have t : ebOr (ebNot (ebOf (evIs .tuple (evVar 1)))) (ebOr (ebOf (evOp oEq (evVar 1) (evTup eaNil))) (ebOf (evOp oEq (evCall 2 f_law_take (eaCons (evVar 0) (eaCons (evC (.int 6)) eaNil))) (evC (.int 0))))) [some (.ref b), some (.tup xs), x2, x3, x4] st = .ok false st1 := by
          have : decide ((t : Int) = 0) = false := decide_eq_false (by omega)
          simp [q, e1, this, h0]
        rw [t, R.stm_ok, kSIf_1, sNil_ap]
  · obtain ⟨d', st2, k1, k2, k3⟩ := ch st hb
    refine .inl ⟨d', st2, ?_, k1, k2⟩
    have i : isD .tuple d = some false := by cases d <;> first | rfl | exact absurd ⟨_, rfl⟩ ht | (cases h <;> exact nomatch hd)
    unfold bt1
    rw [sIf_ap]
    have t : ebOr (ebNot (ebOf (evIs .tuple (evVar 1)))) (ebOr (ebOf (evOp oEq (evVar 1) (evTup eaNil))) (ebOf (evOp oEq (evCall 2 f_law_take (eaCons (evVar 0) (eaCons (evC (.int 6)) eaNil))) (evC (.int 0))))) [some (.ref b), some d, x2, x3, x4] st = .ok true st := by
      simp [i]
    rw [t, R.stm_ok, kSIf_0, k3]
end
/-- a bent value is data of the like kind -/
theorem bent_any {b : Nat} : ∀ (k L h : Nat) {d : D} {st : Sto}, h < k → 11 ≤ L → L ≤ 50 → h ≤ 50 → Bag b st → da L h d = true → ∃ d' st', fR_law_bent k [.ref b, d] st = .ok d' st' ∧ da (L + 1) (h + 2) d' = true ∧ Drw b st st' := by
  intro k
  induction k with
  | zero => intro L h d st hk; exact absurd hk (Nat.not_lt_zero _)
  | succ k ih =>
    intro L h d st hk h11 hL hh hb hd
    have z0 : slots0 5 [.ref b, d] = [some (.ref b), some d, none, none, none] := rfl
    have fin : ∀ d' st', Drw b st st' → btb (fR_law_bent k) [some (.ref b), some d, none, none, none] st = .rt d' st' → fR_law_bent (k + 1) [.ref b, d] st = .ok d' st' := fun d' st' hD h1 => by
      show fnRun false 5 (b_law_bent (fR_law_bent k)) [.ref b, d] st = _
      rw [bteq, fnRun_ap, z0, h1]
      exact fnEnd_rt_of hD.len
    rcases bt0_nx (x2 := none) (x3 := none) (x4 := none) hd hb hL h11 with ⟨d', st1, e0, k1, k2⟩ | ⟨st1, e0, D1⟩
    · exact ⟨d', st1, fin d' st1 k2 (by rw [btb, sCons_ap, e0, RS.seq_rt]), k1, k2⟩
    have hb1 := D1.bag hb
    rcases bt1_nx (x2 := none) (x3 := none) (x4 := none) hd hb1 hL h11 hh with ⟨d', st2, e1, k1, k2⟩ | ⟨xs, st2, rfl, hne, e1, D2⟩
    · exact ⟨d', st2, fin d' st2 (D1.trans k2) (by rw [btb, sCons_ap, e0, RS.seq_nx, sCons_ap, e1, RS.seq_rt]), k1, D1.trans k2⟩
    have hb2 := D2.bag hb1
    obtain ⟨j, rfl, hxl, hx⟩ : ∃ j, h = j + 1 ∧ xs.length ≤ L ∧ ∀ x ∈ xs, da L j x = true := (da_seq (.inl hd)).resolve_left hne
    obtain ⟨a, st3, ha, D3, e3⟩ := law_take_ok (m := xs.length) hb2 (List.length_pos_iff.mpr hne)
    have e3 : f_law_take [.ref b, .int (xs.length : Int)] st2 = .ok (dI a) st3 := e3
    have hb3 := D3.bag hb2
    obtain ⟨w, st4, hw, D4, e4⟩ := law_take_ok (m := 8) hb3 (by decide)
    have e4 : f_law_take [.ref b, .int 8] st3 = .ok (dI w) st4 := e4
    have hb4 := D4.bag hb3
    have D14 := ((D1.trans D2).trans D3).trans D4
    have s2 : bt2 [some (.ref b), some (.tup xs), none, none, none] st2 = .nx [some (.ref b), some (.tup xs), some (dI a), some (dI w), none] st4 := by
      simp [bt2, e3, e4]
    have up : ∀ x ∈ xs, da (L + 1) (j + 2) x = true := fun x h => da_mono (by omega) (by omega) (hx x h)
    have hd1 : ∀ ys : List D, ys.length ≤ L + 1 → (∀ y ∈ ys, da (L + 1) (j + 2) y = true) → da (L + 1) (j + 1 + 2) (.tup ys) = true := fun ys h1 h2 => da_tup h1 h2
    have sl1 : ∀ st : Sto, oSl st (.tup xs) none (some (a : Int)) = some (.tup (xs.take a)) := fun st => by
      show some (D.tup (cutD xs none (some (a : Int)))) = _
      rw [cut_lo]
    have sl2 : ∀ st : Sto, oSl st (.tup xs) (some ((a : Int) + 1)) none = some (.tup (xs.drop (a + 1))) := fun st => by
      have e : ((a : Int) + 1) = ((a + 1 : Nat) : Int) := by omega
      show some (D.tup (cutD xs (some ((a : Int) + 1)) none)) = _
      rw [e, cut_hi]
    have sl3 : ∀ st : Sto, oSl st (.tup xs) (some (a : Int)) none = some (.tup (xs.drop a)) := fun st => by
      show some (D.tup (cutD xs (some (a : Int)) none)) = _
      rw [cut_hi]
    have sl4 : ∀ st : Sto, oSl st (.tup xs) (some (a : Int)) (some ((a : Int) + 1)) = some (.tup ((xs.drop a).take 1)) := fun st => by
      show some (D.tup (cutD xs (some (a : Int)) (some ((a : Int) + 1)))) = _
      rw [cut_mid ha]
    have go : ∀ r, sCons bt3 (sCons bt4 (sCons bt5 (sCons bt6 (sCons (bt7 (fR_law_bent k)) sNil)))) [some (.ref b), some (.tup xs), some (dI a), some (dI w), none] st4 = r → btb (fR_law_bent k) [some (.ref b), some (.tup xs), none, none, none] st = r := fun r h => by
      rw [btb, sCons_ap, e0, RS.seq_nx, sCons_ap, e1, RS.seq_nx, sCons_ap, s2, RS.seq_nx, h]
    have eq_ : ∀ n : Int, decide ((w : Int) = n) = true ∨ decide ((w : Int) = n) = false := fun n => by cases decide ((w : Int) = n) <;> simp
    by_cases h0 : w = 0
    · subst h0
      have ad : oAdd st4 (.tup (xs.take a)) (.tup (xs.drop (a + 1))) = some (.tup (xs.take a ++ xs.drop (a + 1))) := tup_add (by rw [List.length_take, List.length_drop]; omega)
      have s3 : bt3 [some (.ref b), some (.tup xs), some (dI a), some (dI 0), none] st4 = .rt (.tup (xs.take a ++ xs.drop (a + 1))) st4 := by
        generalize xs.take a ++ xs.drop (a + 1) = Z at ad ⊢
        simp [bt3, sl1, sl2, ad]
      refine ⟨_, st4, fin _ st4 D14 (go _ (by rw [sCons_ap, s3, RS.seq_rt])), hd1 _ (by rw [List.length_append, List.length_take, List.length_drop]; omega) fun y hy => ?_, D14⟩
      rcases List.mem_append.mp hy with hy | hy
      · exact up y (List.mem_of_mem_take hy)
      · exact up y (List.mem_of_mem_drop hy)
    have n0 : decide ((w : Int) = 0) = false := decide_eq_false (by omega)
    have s3 : bt3 [some (.ref b), some (.tup xs), some (dI a), some (dI w), none] st4 = .nx [some (.ref b), some (.tup xs), some (dI a), some (dI w), none] st4 := by
      simp [bt3, n0, h0]
      try omega
    by_cases h1 : w = 1
    · subst h1
      have ad : oAdd st4 (.tup (xs.take a)) (.tup ((xs.drop a).take 1)) = some (.tup (xs.take a ++ (xs.drop a).take 1)) := tup_add (by rw [List.length_take, List.length_take, List.length_drop]; omega)
      have ad2 : oAdd st4 (.tup (xs.take a ++ (xs.drop a).take 1)) (.tup (xs.drop a)) = some (.tup (xs.take a ++ (xs.drop a).take 1 ++ xs.drop a)) := tup_add (by rw [List.length_append, List.length_take, List.length_take, List.length_drop]; omega)
      have s4 : bt4 [some (.ref b), some (.tup xs), some (dI a), some (dI 1), none] st4 = .rt (.tup (xs.take a ++ (xs.drop a).take 1 ++ xs.drop a)) st4 := by
        generalize xs.take a ++ (xs.drop a).take 1 ++ xs.drop a = Z at ad2 ⊢
        generalize xs.take a ++ (xs.drop a).take 1 = Z2 at ad ad2
        simp [bt4, sl1, sl3, sl4, ad, ad2]
      refine ⟨_, st4, fin _ st4 D14 (go _ (by rw [sCons_ap, s3, RS.seq_nx, sCons_ap, s4, RS.seq_rt])), hd1 _ (by rw [List.length_append, List.length_append, List.length_take, List.length_take, List.length_drop]; omega) fun y hy => ?_, D14⟩
      rcases List.mem_append.mp hy with hy | hy
      · rcases List.mem_append.mp hy with hy | hy
        · exact up y (List.mem_of_mem_take hy)
        · exact up y (List.mem_of_mem_drop (List.mem_of_mem_take hy))
      · exact up y (List.mem_of_mem_drop hy)
    have n1 : decide ((w : Int) = 1) = false := decide_eq_false (by omega)
    have s4 : bt4 [some (.ref b), some (.tup xs), some (dI a), some (dI w), none] st4 = .nx [some (.ref b), some (.tup xs), some (dI a), some (dI w), none] st4 := by
      simp [bt4, n1, h1]
      try omega
    by_cases h2 : w = 2
    · subst h2
      have rv : revD st4 (.tup xs) = some (.tup xs.reverse) := rfl
      have s5 : bt5 [some (.ref b), some (.tup xs), some (dI a), some (dI 2), none] st4 = .rt (.tup xs.reverse) st4 := by
        simp [bt5, rv]
      exact ⟨_, st4, fin _ st4 D14 (go _ (by rw [sCons_ap, s3, RS.seq_nx, sCons_ap, s4, RS.seq_nx, sCons_ap, s5, RS.seq_rt])), hd1 _ (by rw [List.length_reverse]; omega) (fun y hy => up y (List.mem_reverse.mp hy)), D14⟩
    have n2 : decide ((w : Int) = 2) = false := decide_eq_false (by omega)
    have s5 : bt5 [some (.ref b), some (.tup xs), some (dI a), some (dI w), none] st4 = .nx [some (.ref b), some (.tup xs), some (dI a), some (dI w), none] st4 := by
      simp [bt5, n2, h2]
      try omega
    by_cases h3 : w = 3
    · subst h3
      have bl : bList st4 [.tup xs] = some (.lst xs) := rfl
      have s6 : bt6 [some (.ref b), some (.tup xs), some (dI a), some (dI 3), none] st4 = .rt (.lst xs) st4 := by
        simp [bt6, bl]
      exact ⟨_, st4, fin _ st4 D14 (go _ (by rw [sCons_ap, s3, RS.seq_nx, sCons_ap, s4, RS.seq_nx, sCons_ap, s5, RS.seq_nx, sCons_ap, s6, RS.seq_rt])), da_lst (by omega) up, D14⟩
    have n3 : decide ((w : Int) = 3) = false := decide_eq_false (by omega)
    have s6 : bt6 [some (.ref b), some (.tup xs), some (dI a), some (dI w), none] st4 = .nx [some (.ref b), some (.tup xs), some (dI a), some (dI w), none] st4 := by
      simp [bt6, n3, h3]
      try omega
    obtain ⟨d', st5, e7, k1, D5⟩ := ih L j (d := xs[a]) (st := st4) (by omega) h11 hL (by omega) hb4 (hx _ (List.getElem_mem ha))
    have ix : oIx st4 (.tup xs) (.int (a : Int)) = some xs[a] := by
      show (some xs).bind (fun ys => L2.atI ys (a : Int)) = _
      rw [Option.bind_some, atI_nat, List.getElem?_eq_getElem ha]
    have ad : oAdd st5 (.tup (xs.take a)) (.tup [d']) = some (.tup (xs.take a ++ [d'])) := tup_add (by rw [List.length_take, List.length_singleton]; omega)
    have ad2 : oAdd st5 (.tup (xs.take a ++ [d'])) (.tup (xs.drop (a + 1))) = some (.tup (xs.take a ++ [d'] ++ xs.drop (a + 1))) := tup_add (by rw [List.length_append, List.length_take, List.length_singleton, List.length_drop]; omega)
    have s7 : bt7 (fR_law_bent k) [some (.ref b), some (.tup xs), some (dI a), some (dI w), none] st4 = .rt (.tup (xs.take a ++ [d'] ++ xs.drop (a + 1))) st5 := by
      generalize xs.take a ++ [d'] ++ xs.drop (a + 1) = Z at ad2 ⊢
      generalize xs.take a ++ [d'] = Z2 at ad ad2
      generalize xs[a] = xa at ix e7
      generalize fR_law_bent k = G at e7 ⊢
      simp [bt7, sl1, sl2, ix, e7, ad, ad2]
    refine ⟨_, st5, fin _ st5 (D14.trans D5) (go _ (by rw [sCons_ap, s3, RS.seq_nx, sCons_ap, s4, RS.seq_nx, sCons_ap, s5, RS.seq_nx, sCons_ap, s6, RS.seq_nx, sCons_ap, s7, RS.seq_rt])), hd1 _ (by rw [List.length_append, List.length_append, List.length_take, List.length_singleton, List.length_drop]; omega) fun y hy => ?_, D14.trans D5⟩
    rcases List.mem_append.mp hy with hy | hy
    · rcases List.mem_append.mp hy with hy | hy
      · exact up y (List.mem_of_mem_take hy)
      · rw [List.mem_singleton.mp hy]
        exact k1
    · exact up y (List.mem_of_mem_drop hy)
end K01
set_option Elab.async false
set_option linter.all false
set_option maxRecDepth 100000
set_option maxHeartbeats 4000000
namespace K01
open PySem Ip Lots Lw

abbrev FN : List (Str × Nat × Nat × Fn) := n_law_refused.filter fun q => decide (q.2.2.1 ≤ cl_law_all_refused)
noncomputable def rf0_0 : Es := (sIf (ebNot (ebOf (evLam F_law_all_refused (evCallV 1 [] FN (eaCons (evVar 0) (eaCons (evC .non) eaNil))) ["odd" , "call"] [1] 2 (eaCons (evCall 0 f_law_bad_plans eaNil) (eaCons (evC (.str "plan")) eaNil))))) (sCons (sRet (evC (.bl false))) sNil) sNil)
noncomputable def rf0_b : Es := (sCons rf0_0 sNil)
noncomputable def rf0 : Es := sFor (itVal (evTup (eaCons (evC (.glo "shown")) (eaCons (evC (.glo "suspects")) (eaCons (evC (.glo "lots_with")) eaNil))))) (gN 1) rf0_b
noncomputable def rf1 : Es := (sIf (ebNot (ebOf (evLam F_law_all_refused (evCall 2 f_shown (eaCons (evVar 1) (eaCons (evVar 0) eaNil))) ["odd" , "one"] [0] 2 (eaCons (evCall 1 f_law_bad_views (eaCons (evOp oIx (evVar 0) (evC (.int 0))) eaNil)) (eaCons (evC (.str "case")) eaNil))))) (sCons (sRet (evC (.bl false))) sNil) sNil)
noncomputable def rf2 : Es := (sIf (ebNot (ebOf (evLam F_law_all_refused (evCall 2 f_suspects (eaCons (evVar 1) (eaCons (evVar 0) eaNil))) ["odd" , "one"] [0] 2 (eaCons (evCall 1 f_law_bad_views (eaCons (evB bLen (eaCons (evOp oIx (evVar 0) (evC (.int 1))) eaNil)) eaNil)) (eaCons (evC (.str "view")) eaNil))))) (sCons (sRet (evC (.bl false))) sNil) sNil)
noncomputable def rf3 : Es := (sRet (evLam F_law_all_refused (evCall 2 f_lots_with (eaCons (evVar 1) (eaCons (evVar 0) eaNil))) ["odd" , "one"] [0] 2 (eaCons (evL (elDisp (eaCons (evC .non) (eaCons (evNeg (evC (.int 1))) (eaCons (evOp oIx (evVar 0) (evC (.int 0))) (eaCons (evC (.bl true)) (eaCons (evC (.str "0")) (eaCons (evTup (eaCons (evC (.int 0)) eaNil)) eaNil)))))))) (eaCons (evC (.str "thing")) eaNil))))
noncomputable def rfb : Es := (sCons rf0 (sCons rf1 (sCons rf2 (sCons rf3 sNil))))
theorem rfeq : b_law_refused = rfb := rfl
section
variable {d x : D} {p : Pl} {st : Sto}
theorem bp_shown (h : BadP d) : f_shown [d, x] st = .exc "InvalidPlan" st := first_exc (es := [d]) rfl rfl (h.need st)
theorem bp_susp (h : BadP d) : f_suspects [d, x] st = .exc "InvalidPlan" st := first_exc (es := [d]) rfl rfl (h.need st)
theorem bp_with (h : BadP d) : f_lots_with [d, x] st = .exc "InvalidPlan" st := first_exc (es := [d]) rfl rfl (h.need st)
theorem bc_shown (hp : OkP p) (h : IR d (p.1 : Int) false) : f_shown [dP p, d] st = .exc "InvalidCase" st := by
  have := badV_case h st
  simp [f_shown, b_shown, need_plan_ok hp, this]
theorem bv_susp (hp : OkP p) (h : IR d (p.2.length : Int) false) : f_suspects [dP p, d] st = .exc "InvalidView" st := by
  have := badV_view h st
  simp [f_suspects, b_suspects, need_plan_ok hp, this]
theorem bt_with (hp : OkP p) (h : IW d 0 ((p.1 : Int) - 1) false) : f_lots_with [dP p, d] st = .exc "InvalidThing" st := by
  have := badT_thing h st
  simp [f_lots_with, b_lots_with, need_plan_ok hp, this]
theorem need_thing_ok {m t : Nat} (h : t < m) : f_need_thing [dI t, .int (m : Int)] st = .ok .non st := by
  have e : f_is_whole [.int (t : Int), .int 0, .int ((m : Int) - 1)] st = .ok (.bl true) st := by
    have := is_whole_int (t : Int) 0 ((m : Int) - 1) st
    rw [decide_eq_true (by omega), decide_eq_true (by omega)] at this
    exact this
  simp [f_need_thing, b_need_thing, e]
theorem lots_with_ok (hp : OkP p) {t : Nat} (h : t < p.1) : f_lots_with [dP p, dI t] st = .ok (dL (lotsOf p t)) st := by
  have e := need_thing_ok (st := st) h
  have lo := lots_of_ok hp t st
  simp [f_lots_with, b_lots_with, need_plan_ok hp, e, lo]
end
theorem c_shown' : calOf [] FN (.glo "shown") = some (2, f_shown) := by kernel_rfl
theorem c_susp' : calOf [] FN (.glo "suspects") = some (2, f_suspects) := by kernel_rfl
theorem c_with' : calOf [] FN (.glo "lots_with") = some (2, f_lots_with) := by kernel_rfl
theorem rf0_turn {x : Str} {f : Fn} {one : D} {st : Sto} (hc : calOf [] FN (.glo x) = some (2, f)) (hf : ∀ d st, BadP d → f [d, .non] st = .exc "InvalidPlan" st) : rf0_b [some one, some (.glo x)] st = .nx [some one, some (.glo x)] st := by
  have l : evLam F_law_all_refused (evCallV 1 [] FN (eaCons (evVar 0) (eaCons (evC .non) eaNil))) ["odd", "call"] [1] 2 (eaCons (evCall 0 f_law_bad_plans eaNil) (eaCons (evC (.str "plan")) eaNil)) [some one, some (.glo x)] st = .ok (.bl true) st := by
    rw [lamAp (n := 2) (ds := [.lst badPs, .str "plan"]) (by simp [bad_plans]) rfl]
    exact refusedE e_plan fun d hd => by
      rw [callVg (x := x) (ds := [d, .non]) rfl hc rfl rfl]
      exact hf d st (bad_all d hd)
  unfold rf0_b rf0_0
  generalize evLam F_law_all_refused (evCallV 1 [] FN (eaCons (evVar 0) (eaCons (evC .non) eaNil))) ["odd", "call"] [1] 2 (eaCons (evCall 0 f_law_bad_plans eaNil) (eaCons (evC (.str "plan")) eaNil)) = L at l ⊢
  simp [l]
theorem law_refused_ok {p : Pl} (h : OkP p) (st : Sto) : f_law_refused [dP p] st = .ok (.bl true) st := by
  have t1 : ∀ d ∈ [D.glo "shown", .glo "suspects", .glo "lots_with"], rf0_b [some (dP p), some d] st = .nx [some (dP p), some d] st := fun d hd => by
    simp only [List.mem_cons, List.not_mem_nil, or_false] at hd
    rcases hd with rfl | rfl | rfl
    · exact rf0_turn c_shown' fun d st hd => bp_shown hd
    · exact rf0_turn c_susp' fun d st hd => bp_susp hd
    · exact rf0_turn c_with' fun d st hd => bp_with hd
  obtain ⟨ρ1, e1, o1, rfl⟩ := forGo_acc (st := st) (g := gN 1) (b := rf0_b) (fun d : D => d) (fun _ => ()) (fun _ ρ => ∃ o, ρ = [some (dP p), o]) [.glo "shown", .glo "suspects", .glo "lots_with"] [some (dP p), none] ⟨none, rfl⟩ (fun pre x ρ hx _ _ hI => by
    obtain ⟨o, rfl⟩ := hI
    exact ⟨[some (dP p), some x], [some (dP p), some x], rfl, t1 x hx, some x, rfl⟩)
  have e1' : forGo (gN 1) rf0_b [.glo "shown", .glo "suspects", .glo "lots_with"] [some (dP p), none] st = .nx [some (dP p), o1] st := e1
  have s0 : rf0 [some (dP p), none] st = .nx [some (dP p), o1] st := by
    simp [rf0, e1']
  have ix : oIx st (dP p) (.int 0) = some (.int (p.1 : Int)) := Eq.trans rfl rfl
  have ix1 : oIx st (dP p) (.int 1) = some (.tup (p.2.map dL)) := Eq.trans rfl rfl
  have s1 : rf1 [some (dP p), o1] st = .nx [some (dP p), o1] st := by
    have bv : f_law_bad_views [.int (p.1 : Int)] st = .ok (.lst (badVs p.1)) st := bad_vs p.1 st
    have l : evLam F_law_all_refused (evCall 2 f_shown (eaCons (evVar 1) (eaCons (evVar 0) eaNil))) ["odd" , "one"] [0] 2 (eaCons (evCall 1 f_law_bad_views (eaCons (evOp oIx (evVar 0) (evC (.int 0))) eaNil)) (eaCons (evC (.str "case")) eaNil)) [some (dP p), o1] st = .ok (.bl true) st := by
      rw [lamAp (n := 2) (ds := [.lst (badVs p.1), .str "case"]) (by simp [ix, bv]) rfl]
      exact refusedE e_case fun d hd => callEx (ds := [dP p, d]) rfl rfl (bc_shown h (badVs_all _ d hd))
    unfold rf1
    generalize evLam F_law_all_refused (evCall 2 f_shown (eaCons (evVar 1) (eaCons (evVar 0) eaNil))) ["odd" , "one"] [0] 2 (eaCons (evCall 1 f_law_bad_views (eaCons (evOp oIx (evVar 0) (evC (.int 0))) eaNil)) (eaCons (evC (.str "case")) eaNil)) = L at l ⊢
    simp [l]
  have s2 : rf2 [some (dP p), o1] st = .nx [some (dP p), o1] st := by
    have bv : f_law_bad_views [.int (p.2.length : Int)] st = .ok (.lst (badVs p.2.length)) st := bad_vs p.2.length st
    have l : evLam F_law_all_refused (evCall 2 f_suspects (eaCons (evVar 1) (eaCons (evVar 0) eaNil))) ["odd" , "one"] [0] 2 (eaCons (evCall 1 f_law_bad_views (eaCons (evB bLen (eaCons (evOp oIx (evVar 0) (evC (.int 1))) eaNil)) eaNil)) (eaCons (evC (.str "view")) eaNil)) [some (dP p), o1] st = .ok (.bl true) st := by
      rw [lamAp (n := 2) (ds := [.lst (badVs p.2.length), .str "view"]) (by simp [ix1, bv]) rfl]
      exact refusedE e_view fun d hd => callEx (ds := [dP p, d]) rfl rfl (bv_susp h (badVs_all _ d hd))
    unfold rf2
    generalize evLam F_law_all_refused (evCall 2 f_suspects (eaCons (evVar 1) (eaCons (evVar 0) eaNil))) ["odd" , "one"] [0] 2 (eaCons (evCall 1 f_law_bad_views (eaCons (evB bLen (eaCons (evOp oIx (evVar 0) (evC (.int 1))) eaNil)) eaNil)) (eaCons (evC (.str "view")) eaNil)) = L at l ⊢
    simp [l]
  have s3 : rf3 [some (dP p), o1] st = .rt (.bl true) st := by
    have l : evLam F_law_all_refused (evCall 2 f_lots_with (eaCons (evVar 1) (eaCons (evVar 0) eaNil))) ["odd" , "one"] [0] 2 (eaCons (evL (elDisp (eaCons (evC .non) (eaCons (evNeg (evC (.int 1))) (eaCons (evOp oIx (evVar 0) (evC (.int 0))) (eaCons (evC (.bl true)) (eaCons (evC (.str "0")) (eaCons (evTup (eaCons (evC (.int 0)) eaNil)) eaNil)))))))) (eaCons (evC (.str "thing")) eaNil)) [some (dP p), o1] st = .ok (.bl true) st := by
      rw [lamAp (n := 2) (ds := [.lst (badTs p.1), .str "thing"]) (by simp [ix, badTs]) rfl]
      exact refusedE e_thing fun d hd => callEx (ds := [dP p, d]) rfl rfl (bt_with h (badTs_all _ d hd))
    unfold rf3
    rw [sRet_ap, l, R.stm_ok, kRet_0]
  unfold f_law_refused
  rw [rfeq, fnRun_ap]
  have z : slots0 2 [dP p] = [some (dP p), none] := rfl
  rw [z, rfb, sCons_ap, s0, RS.seq_nx, sCons_ap, s1, RS.seq_nx, sCons_ap, s2, RS.seq_nx, sCons_ap, s3, RS.seq_rt, fnEnd_rt]
end K01
set_option Elab.async false
set_option linter.all false
set_option maxRecDepth 100000
set_option maxHeartbeats 4000000
namespace K01
open PySem Ip Lots Lw

def lw0_0 : Es := (sSet 6 (evCall 2 f_law_bag (eaCons (evVar 0) (eaCons (evVar 1) eaNil))))
def lw0_1 : Es := (sSet 7 (evCall 3 f_law_plan (eaCons (evVar 6) (eaCons (evC (.int 10)) (eaCons (evC (.int 10)) eaNil)))))
def lw0_2 : Es := (sSet 8 (evB bTuple (eaCons (evLc [10] (itR1 (eaCons (evOp oIx (evVar 7) (evC (.int 0))) eaNil)) (gN 10) (ebOf (evOp oEq (evCall 2 f_law_take (eaCons (evVar 6) (eaCons (evC (.int 4)) eaNil))) (evC (.int 0)))) (evVar 10)) eaNil)))
def lw0_3 : Es := (sSet 9 (evB bTuple (eaCons (evLc [14] (itR1 (eaCons (evB bLen (eaCons (evOp oIx (evVar 7) (evC (.int 1))) eaNil)) eaNil)) (gN 14) (ebOf (evOp oGt (evCall 2 f_law_take (eaCons (evVar 6) (eaCons (evC (.int 3)) eaNil))) (evC (.int 0)))) (evVar 14)) eaNil)))
def lw0_4 : Es := (sIf (ebOr (ebOf (evOp oNe (evCall 2 f_shown (eaCons (evVar 7) (eaCons (evVar 8) eaNil))) (evCall 2 f_law_view (eaCons (evVar 7) (eaCons (evVar 8) eaNil))))) (ebOf (evOp oNe (evCall 2 f_suspects (eaCons (evVar 7) (eaCons (evVar 9) eaNil))) (evCall 2 f_law_suspects (eaCons (evVar 7) (eaCons (evVar 9) eaNil)))))) (sCons (sRet (evC (.bl false))) sNil) sNil)
def lw0_5_0 : Es := (sIf (ebOf (evOp oNe (evCall 2 f_lots_with (eaCons (evVar 7) (eaCons (evVar 10) eaNil))) (evB bTuple (eaCons (evLc [14, 15] (itEn (eaCons (evOp oIx (evVar 7) (evC (.int 1))) eaNil)) (gT 2 (gsCons (gN 14) (gsCons (gN 15) gsNil))) (ebOf (evOp oIn (evVar 10) (evVar 15))) (evVar 14)) eaNil)))) (sCons (sRet (evC (.bl false))) sNil) sNil)
def lw0_5_b : Es := (sCons lw0_5_0 sNil)
def lw0_5 : Es := sFor (itR1 (eaCons (evOp oIx (evVar 7) (evC (.int 0))) eaNil)) (gN 10) lw0_5_b
def lw0_6_0_0 : Es := (sIf (ebNot (ebOf (evCall 2 f_law_truly (eaCons (evCall 1 f_is_plan (eaCons (evVar 11) eaNil)) (eaCons (evCall 1 f_law_good_plan (eaCons (evVar 11) eaNil)) eaNil))))) (sCons (sRet (evC (.bl false))) sNil) sNil)
def lw0_6_0_1 : Es := (sSet 13 (evIf (ebOf (evCall 2 f_law_rising (eaCons (evVar 11) (eaCons (evOp oIx (evVar 7) (evC (.int 0))) eaNil)))) (evC (.str "")) (evC (.str "case"))))
def lw0_6_0_2 : Es := (sIf (ebOf (evOp oNe (evLam F_law_error (evCall 2 f_shown (eaCons (evVar 0) (eaCons (evVar 1) eaNil))) ["one", "value"] [7, 11] 0 eaNil) (evVar 13))) (sCons (sRet (evC (.bl false))) sNil) sNil)
def lw0_6_0_3 : Es := (sSet 11 (evCall 2 f_law_bent (eaCons (evVar 6) (eaCons (evVar 11) eaNil))))
def lw0_6_0_b : Es := (sCons lw0_6_0_0 (sCons lw0_6_0_1 (sCons lw0_6_0_2 (sCons lw0_6_0_3 sNil))))
def lw0_6_0 : Es := sFor (itR1 (eaCons (evC (.int 6)) eaNil)) (gN 12) lw0_6_0_b
def lw0_6_b : Es := (sCons lw0_6_0 sNil)
def lw0_6 : Es := sFor (itVal (evL (elDisp (eaCons (evVar 7) (eaCons (evVar 7) (eaCons (evVar 8) eaNil)))))) (gN 11) lw0_6_b
noncomputable def lw0_7 : Es := (sIf (ebNot (ebOf (evCall 1 f_law_refused (eaCons (evVar 7) eaNil)))) (sCons (sRet (evC (.bl false))) sNil) sNil)
noncomputable def lw0_b : Es := (sCons lw0_0 (sCons lw0_1 (sCons lw0_2 (sCons lw0_3 (sCons lw0_4 (sCons lw0_5 (sCons lw0_6 (sCons lw0_7 sNil))))))))
noncomputable def lw0 : Es := sFor (itR1 (eaCons (evC (.int 8)) eaNil)) (gN 1) lw0_b
def lw1 : Es := (sIf (ebOf (evOp oNe (evLc [7] (itVal (evCall 0 f_law_bad_plans eaNil)) (gN 7) (ebOf (evOp oIsNot (evCall 1 f_is_plan (eaCons (evVar 7) eaNil)) (evC (.bl false)))) (evVar 7)) (evL (elDisp eaNil)))) (sCons (sRet (evC (.bl false))) sNil) sNil)
def lw2 : Es := (sIf (ebOr (ebOf (evOp oNe (evLc [7] (itVal (evCall 0 f_law_known eaNil)) (gN 7) (ebOf (evOp oIsNot (evCall 1 f_is_plan (eaCons (evVar 7) eaNil)) (evC (.bl true)))) (evVar 7)) (evL (elDisp eaNil)))) (ebOf (evOp oIsNot (evCall 1 f_is_plan (eaCons (evTup (eaCons (evC (.int 2)) (eaCons (evTup (eaCons (evTup eaNil) eaNil)) eaNil))) eaNil)) (evC (.bl true))))) (sCons (sRet (evC (.bl false))) sNil) sNil)
def lw3 : Es := (sAsg (gT 4 (gsCons (gN 2) (gsCons (gN 3) (gsCons (gN 4) (gsCons (gN 5) gsNil))))) (evCall 0 f_law_known eaNil))
def lw4 : Es := (sIf (ebOr (ebOf (evOp oNe (evCall 2 f_shown (eaCons (evVar 2) (eaCons (evTup (eaCons (evC (.int 0)) (eaCons (evC (.int 3)) eaNil))) eaNil))) (evTup (eaCons (evC (.int 0)) (eaCons (evC (.int 1)) (eaCons (evC (.int 2)) (eaCons (evC (.int 4)) (eaCons (evC (.int 5)) eaNil)))))))) (ebOr (ebOf (evOp oNe (evCall 2 f_shown (eaCons (evVar 3) (eaCons (evTup (eaCons (evC (.int 0)) (eaCons (evC (.int 2)) eaNil))) eaNil))) (evTup (eaCons (evC (.int 0)) (eaCons (evC (.int 1)) eaNil))))) (ebOf (evOp oNe (evCall 2 f_suspects (eaCons (evVar 2) (eaCons (evTup (eaCons (evC (.int 0)) (eaCons (evC (.int 1)) (eaCons (evC (.int 2)) eaNil)))) eaNil))) (evTup (eaCons (evC (.int 0)) eaNil)))))) (sCons (sRet (evC (.bl false))) sNil) sNil)
def lw5 : Es := (sIf (ebOr (ebOf (evOp oNe (evCall 2 f_suspects (eaCons (evVar 3) (eaCons (evTup (eaCons (evC (.int 0)) eaNil)) eaNil))) (evTup (eaCons (evC (.int 0)) eaNil)))) (ebOr (ebOf (evOp oNe (evCall 2 f_suspects (eaCons (evVar 4) (eaCons (evTup eaNil) eaNil))) (evTup (eaCons (evC (.int 0)) (eaCons (evC (.int 1)) eaNil))))) (ebOf (evOp oNe (evCall 2 f_lots_with (eaCons (evVar 3) (eaCons (evC (.int 1)) eaNil))) (evTup (eaCons (evC (.int 0)) (eaCons (evC (.int 1)) eaNil))))))) (sCons (sRet (evC (.bl false))) sNil) sNil)
def lw6 : Es := (sRet (evAnd (evOp oEq (evCall 2 f_shown (eaCons (evTup (eaCons (evC (.int 2)) (eaCons (evTup (eaCons (evTup (eaCons (evC (.int 0)) eaNil)) (eaCons (evTup (eaCons (evC (.int 0)) eaNil)) (eaCons (evTup eaNil) eaNil)))) eaNil))) (eaCons (evTup (eaCons (evC (.int 0)) eaNil)) eaNil))) (evTup (eaCons (evC (.int 0)) (eaCons (evC (.int 1)) eaNil)))) (evOp oEq (evCall 2 f_suspects (eaCons (evTup (eaCons (evC (.int 2)) (eaCons (evTup (eaCons (evTup (eaCons (evC (.int 0)) eaNil)) (eaCons (evTup eaNil) eaNil))) eaNil))) (eaCons (evTup (eaCons (evC (.int 0)) eaNil)) eaNil))) (evTup (eaCons (evC (.int 0)) (eaCons (evC (.int 1)) eaNil))))))
noncomputable def lwb : Es := (sCons lw0 (sCons lw1 (sCons lw2 (sCons lw3 (sCons lw4 (sCons lw5 (sCons lw6 sNil)))))))
theorem lweq : b_law = lwb := rfl

/-! ### the values that are bent -/
theorem da_plan {p : Pl} (h : OkP p) : da 11 3 (dP p) = true := by
  refine da_tup (by show 2 ≤ 11; decide) fun x hx => ?_
  have h1 := h.ten
  simp only [List.mem_cons, List.not_mem_nil, or_false] at hx
  rcases hx with rfl | rfl
  · exact (decide_eq_true (by omega) : decide (((p.1 : Nat) : Int).natAbs ≤ 11) = true)
  · refine da_tup (by rw [List.length_map]; have := h.lots; omega) fun y hy => ?_
    obtain ⟨l, hl, rfl⟩ := List.mem_map.mp hy
    have a := h.asc l hl
    refine da_tup (by rw [List.length_map]; have := a.len; omega) fun z hz => ?_
    obtain ⟨t, ht, rfl⟩ := List.mem_map.mp hz
    have := a.2 t ht
    exact (decide_eq_true (by omega) : decide (((t : Nat) : Int).natAbs ≤ 11) = true)
theorem da_case {m : Nat} {c : List Nat} (hm : m ≤ 10) (a : Asc m c) : da 11 3 (dL c) = true := by
  refine da_tup (by rw [List.length_map]; have := a.len; omega) fun z hz => ?_
  obtain ⟨t, ht, rfl⟩ := List.mem_map.mp hz
  have := a.2 t ht
  exact (decide_eq_true (by omega) : decide (((t : Nat) : Int).natAbs ≤ 11) = true)
theorem ris_true {m : Nat} {d : D} (h : risB m d = true) : ∃ l, d = dL l ∧ Asc m l := by
  cases d with
  | tup xs =>
    have h1 : (xs.all (whB 0 ((m : Int) - 1)) && riseB m (xs.map fun d => match d with | .int v => v.toNat | _ => 0)) = true := h
    rw [Bool.and_eq_true] at h1
    obtain ⟨l, rfl, hl⟩ := all_nat h1.1
    have e := ris_nat hl
    have h : risB m (dL l) = true := h
    rw [h] at e
    exact ⟨l, rfl, riseB_iff.mp e.symm⟩
  | _ => exact nomatch h
def dueS (m : Nat) (d : D) : D := if risB m d = true then .str "" else .str "case"
theorem okD_due (m : Nat) (d : D) : okD (dueS m d) = true := by
  unfold dueS
  split <;> decide +kernel
theorem deref_due (m : Nat) (d : D) (st : Sto) : deref st (dueS m d) = dueS m d := by
  unfold dueS
  split <;> rfl
theorem lam_shown {p : Pl} {v : D} {L h : Nat} (hp : OkP p) (hd : da L h v = true) (hL : L ≤ 50) {ρ : Sl} {st : Sto} (hs : slotsL ["one", "value"] [7, 11] [] ρ = [some (dP p), some v]) :
    evLam F_law_error (evCall 2 f_shown (eaCons (evVar 0) (eaCons (evVar 1) eaNil))) ["one", "value"] [7, 11] 0 eaNil ρ st = .ok (dueS p.1 v) st := by
  rw [lamAp (n := 0) (ds := []) rfl rfl]
  have e : (evCall 2 f_shown (eaCons (evVar 0) (eaCons (evVar 1) eaNil))) (slotsL ["one", "value"] [7, 11] [] ρ) st = f_shown [dP p, v] st := by
    rw [hs, evCall_ap]
    show kCall 2 f_shown [dP p, v] st = _
    rw [kCall_0 (n := 2) rfl]
  unfold dueS
  by_cases hr : risB p.1 v = true
  · rw [if_pos hr]
    obtain ⟨l, rfl, ha⟩ := ris_true hr
    exact error_ok (d := dL (view p l)) (by
      show (evCall 2 f_shown (eaCons (evVar 0) (eaCons (evVar 1) eaNil))) (slotsL ["one", "value"] [7, 11] [] ρ) st = _
      rw [e, shown_ok hp ha])
  · rw [if_neg hr]
    refine errorE e_case ?_
    show (evCall 2 f_shown (eaCons (evVar 0) (eaCons (evVar 1) eaNil))) (slotsL ["one", "value"] [7, 11] [] ρ) st = _
    rw [e]
    refine bc_shown hp fun st => ?_
    have := rising_any (m := p.1) hd hL st
    rw [Bool.eq_false_iff.mpr hr] at this
    exact this
theorem is_plan_ok {d : D} {B : Bool} {st : Sto} (h : f_fits_plan [d] st = .ok (.bl B) st) : f_is_plan [d] st = .ok (.bl B) st := by
  have b : bBool st [.bl B] = some (.bl B) := rfl
  simp [f_is_plan, b_is_plan, h, b]
section
variable (x0 x1 x2 x3 x4 x5 x8 x9 x10 x11 x12 x13 x14 x15 : Option D)
theorem turn_ok {p : Pl} {b i : Nat} {v : D} {st : Sto} (h : OkP p) (hb : Bag b st) (hi : i < 6) (hd : da (11 + i) (3 + 2 * i) v = true) :
    ∃ v' st', lw0_6_0_b [x0, x1, x2, x3, x4, x5, some (.ref b), some (dP p), x8, x9, x10, some v, some (dI i), x13, x14, x15] st = .nx [x0, x1, x2, x3, x4, x5, some (.ref b), some (dP p), x8, x9, x10, some v', some (dI i), some (dueS p.1 v), x14, x15] st' ∧ Drw b st st' ∧ da (11 + (i + 1)) (3 + 2 * (i + 1)) v' = true := by
  obtain ⟨B, f1, f2⟩ := fits_any hd (by omega) (by omega) st
  have g1 := is_plan_ok f1
  have t1 := law_truly_ok (b := B) st
  have s0 : lw0_6_0_0 [x0, x1, x2, x3, x4, x5, some (.ref b), some (dP p), x8, x9, x10, some v, some (dI i), x13, x14, x15] st = .nx [x0, x1, x2, x3, x4, x5, some (.ref b), some (dP p), x8, x9, x10, some v, some (dI i), x13, x14, x15] st := by
    simp [lw0_6_0_0, g1, f2, t1]
  have h10 := h.ten
  have r1 : f_law_rising [v, .int (p.1 : Int)] st = .ok (.bl (risB p.1 v)) st := law_rising_any (m := p.1) hd (by omega) (by omega) (by omega) st
  have ix : oIx st (dP p) (.int 0) = some (.int (p.1 : Int)) := Eq.trans rfl rfl
  have s1 : lw0_6_0_1 [x0, x1, x2, x3, x4, x5, some (.ref b), some (dP p), x8, x9, x10, some v, some (dI i), x13, x14, x15] st = .nx [x0, x1, x2, x3, x4, x5, some (.ref b), some (dP p), x8, x9, x10, some v, some (dI i), some (dueS p.1 v), x14, x15] st := by
    unfold dueS
    generalize risB p.1 v = RB at r1 ⊢
    generalize dP p = P at ix ⊢
    cases RB <;> simp [lw0_6_0_1, ix, r1]
  have s2 : lw0_6_0_2 [x0, x1, x2, x3, x4, x5, some (.ref b), some (dP p), x8, x9, x10, some v, some (dI i), some (dueS p.1 v), x14, x15] st = .nx [x0, x1, x2, x3, x4, x5, some (.ref b), some (dP p), x8, x9, x10, some v, some (dI i), some (dueS p.1 v), x14, x15] st := by
    have l := lam_shown (st := st) (ρ := [x0, x1, x2, x3, x4, x5, some (.ref b), some (dP p), x8, x9, x10, some v, some (dI i), some (dueS p.1 v), x14, x15]) h hd (by omega) rfl
    have n := oNe_same (st := st) (okD_due p.1 v) (deref_due p.1 v st)
    unfold lw0_6_0_2
    generalize evLam F_law_error (evCall 2 f_shown (eaCons (evVar 0) (eaCons (evVar 1) eaNil))) ["one", "value"] [7, 11] 0 eaNil = LL at l ⊢
    generalize dueS p.1 v = U at l n ⊢
    simp [l, n]
  obtain ⟨v', st', e3, k1, k2⟩ := bent_any 16 (11 + i) (3 + 2 * i) (by omega) (by omega) (by omega) (by omega) hb hd
  have e3 : f_law_bent [.ref b, v] st = .ok v' st' := e3
  have s3 : lw0_6_0_3 [x0, x1, x2, x3, x4, x5, some (.ref b), some (dP p), x8, x9, x10, some v, some (dI i), some (dueS p.1 v), x14, x15] st = .nx [x0, x1, x2, x3, x4, x5, some (.ref b), some (dP p), x8, x9, x10, some v', some (dI i), some (dueS p.1 v), x14, x15] st' := by
    simp [lw0_6_0_3, e3]
  refine ⟨v', st', ?_, k2, da_mono (by omega) (by omega) k1⟩
  rw [lw0_6_0_b, sCons_ap, s0, RS.seq_nx, sCons_ap, s1, RS.seq_nx, sCons_ap, s2, RS.seq_nx, sCons_ap, s3, RS.seq_nx]
  rfl
theorem itR1_n {n : Nat} (hn : n ≤ 1000) (ρ : Sl) (st : Sto) : itR1 (eaCons (evC (.int (n : Int))) eaNil) ρ st = .ok ((List.range n).map dI) st := by
  have r : kIR1 [.int (n : Int)] st = .ok ((List.range n).map dI) st := kIR1_nat (j := n) (by omega)
  rw [itR1_ap, eaCons_ap, evC_ap, R.bind_ok, kC2_0, eaNil_ap, R.bind_ok, kC3_0, R.bind_ok, r]
theorem six_ok {p : Pl} {b : Nat} {v : D} {st : Sto} (h : OkP p) (hb : Bag b st) (hd : da 11 3 v = true) :
    ∃ x11' x12' x13' st', lw0_6_0 [x0, x1, x2, x3, x4, x5, some (.ref b), some (dP p), x8, x9, x10, some v, x12, x13, x14, x15] st = .nx [x0, x1, x2, x3, x4, x5, some (.ref b), some (dP p), x8, x9, x10, x11', x12', x13', x14, x15] st' ∧ Drw b st st' := by
  obtain ⟨ρ2, st2, e2, v', x12', x13', rfl, d2, _⟩ := forGo_ix (g := gN 12) (b := lw0_6_0_b) dI
    (fun i ρ s2 => ∃ v x12 x13, ρ = [x0, x1, x2, x3, x4, x5, some (.ref b), some (dP p), x8, x9, x10, some v, x12, x13, x14, x15] ∧ Drw b st s2 ∧ da (11 + i) (3 + 2 * i) v = true)
    (List.range 6) 0 [x0, x1, x2, x3, x4, x5, some (.ref b), some (dP p), x8, x9, x10, some v, x12, x13, x14, x15] st ⟨v, x12, x13, rfl, hb.refl, hd⟩ (fun j x ρ s2 hx hI => by
      obtain ⟨v, x12, x13, rfl, d, hd⟩ := hI
      obtain ⟨hj, rfl⟩ := List.getElem?_eq_some_iff.mp hx
      rw [List.getElem_range]
      rw [Nat.zero_add] at hd ⊢
      have h6 : j < 6 := by simpa using hj
      obtain ⟨v', s3, e, d', hd'⟩ := turn_ok x0 x1 x2 x3 x4 x5 x8 x9 x10 x13 x14 x15 h (d.bag hb) h6 hd
      exact ⟨_, _, s3, rfl, e, v', some (dI j), some (dueS p.1 v), rfl, d.trans d', hd'⟩)
  refine ⟨some v', x12', x13', st2, ?_, d2⟩
  have it := itR1_n (n := 6) (by decide) [x0, x1, x2, x3, x4, x5, some (.ref b), some (dP p), x8, x9, x10, some v, x12, x13, x14, x15] st
  have it : itR1 (eaCons (evC (.int 6)) eaNil) [x0, x1, x2, x3, x4, x5, some (.ref b), some (dP p), x8, x9, x10, some v, x12, x13, x14, x15] st = .ok ((List.range 6).map dI) st := it
  rw [lw0_6_0, sFor_ap, it]
  exact e2
theorem vals_ok {p : Pl} {b : Nat} {c : List Nat} {st : Sto} (h : OkP p) (hb : Bag b st) (hc : Asc p.1 c) :
    ∃ x11' x12' x13' st', lw0_6 [x0, x1, x2, x3, x4, x5, some (.ref b), some (dP p), some (dL c), x9, x10, x11, x12, x13, x14, x15] st = .nx [x0, x1, x2, x3, x4, x5, some (.ref b), some (dP p), some (dL c), x9, x10, x11', x12', x13', x14, x15] st' ∧ Drw b st st' := by
  obtain ⟨ρ2, st2, e2, x11', x12', x13', rfl, d2⟩ := forGo_ix (g := gN 11) (b := lw0_6_b) (fun d : D => d)
    (fun _ ρ s2 => ∃ x11 x12 x13, ρ = [x0, x1, x2, x3, x4, x5, some (.ref b), some (dP p), some (dL c), x9, x10, x11, x12, x13, x14, x15] ∧ Drw b st s2)
    [dP p, dP p, dL c] 0 [x0, x1, x2, x3, x4, x5, some (.ref b), some (dP p), some (dL c), x9, x10, x11, x12, x13, x14, x15] st ⟨x11, x12, x13, rfl, hb.refl⟩ (fun j x ρ s2 hx hI => by
      obtain ⟨x11, x12, x13, rfl, d⟩ := hI
      have hd : da 11 3 x = true := by
        have := List.mem_of_getElem? hx
        simp only [List.mem_cons, List.not_mem_nil, or_false] at this
        rcases this with rfl | rfl | rfl
        · exact da_plan h
        · exact da_plan h
        · exact da_case h.ten hc
      obtain ⟨x11', x12', x13', s3, e, d'⟩ := six_ok x0 x1 x2 x3 x4 x5 (some (dL c)) x9 x10 x12 x13 x14 x15 h (d.bag hb) hd
      refine ⟨_, [x0, x1, x2, x3, x4, x5, some (.ref b), some (dP p), some (dL c), x9, x10, x11', x12', x13', x14, x15], s3, rfl, ?_, x11', x12', x13', rfl, d.trans d'⟩
      show lw0_6_b [x0, x1, x2, x3, x4, x5, some (.ref b), some (dP p), some (dL c), x9, x10, some x, x12, x13, x14, x15] s2 = _
      rw [lw0_6_b, sCons_ap, e, RS.seq_nx]
      rfl)
  refine ⟨x11', x12', x13', st2, ?_, d2⟩
  have it : itVal (evL (elDisp (eaCons (evVar 7) (eaCons (evVar 7) (eaCons (evVar 8) eaNil))))) [x0, x1, x2, x3, x4, x5, some (.ref b), some (dP p), some (dL c), x9, x10, x11, x12, x13, x14, x15] st = .ok [dP p, dP p, dL c] st := rfl
  have e2 : forGo (gN 11) lw0_6_b [dP p, dP p, dL c] [x0, x1, x2, x3, x4, x5, some (.ref b), some (dP p), some (dL c), x9, x10, x11, x12, x13, x14, x15] st = _ := e2
  rw [lw0_6, sFor_ap, it]
  exact e2
end
end K01
set_option Elab.async false
set_option linter.all false
set_option maxRecDepth 100000
set_option maxHeartbeats 4000000
namespace K01
open PySem Ip Lots Lw

/-! ### the plans that the law writes -/
def kA : Pl := (2, [[]])
def kB : Pl := (2, [[0], [0], []])
def kC : Pl := (2, [[0], []])
theorem okA : OkP kA := okPB_ok (by decide +kernel)
theorem okB : OkP kB := okPB_ok (by decide +kernel)
theorem okC : OkP kC := okPB_ok (by decide +kernel)
section
variable (x0 x1 x2 x3 x4 x5 x6 x7 x8 x9 x10 x11 x12 x13 x14 x15 : Option D)
theorem none_left {f : Ev} {c : Bool} {ρ : Sl} {st : Sto} {xs : List D} {t : Eb} (hi : itVal f [x0, x1, x2, x3, x4, x5, x6, none, x8, x9, x10, x11, x12, x13, x14, x15] st = .ok xs st) : True := trivial
theorem bad_none (st : Sto) : evLc [7] (itVal (evCall 0 f_law_bad_plans eaNil)) (gN 7) (ebOf (evOp oIsNot (evCall 1 f_is_plan (eaCons (evVar 7) eaNil)) (evC (.bl false)))) (evVar 7) [x0, x1, x2, x3, x4, x5, x6, x7, x8, x9, x10, x11, x12, x13, x14, x15] st = .ok (.lst []) st := by
  have it : itVal (evCall 0 f_law_bad_plans eaNil) [x0, x1, x2, x3, x4, x5, x6, x7, x8, x9, x10, x11, x12, x13, x14, x15] st = .ok (badPs.map id) st := by
    have b := bad_plans st
    rw [List.map_id]
    generalize badPs = B at b ⊢
    simp [b]
  have z := evLc_enc (vs := [7]) (g := gN 7) (t := ebOf (evOp oIsNot (evCall 1 f_is_plan (eaCons (evVar 7) eaNil)) (evC (.bl false)))) (e := evVar 7) id (fun _ => false) id badPs it (by decide) fun d hd => ⟨_, rfl, by
    have g := is_plan_ok (st := st) (bad_all d hd st)
    have o : oIsNot st (.bl false) (.bl false) = some (.bl false) := rfl
    simp [wipeS, g, o], fun h => nomatch h⟩
  have f0 : badPs.filter (fun _ => false) = [] := List.filter_eq_nil_iff.mpr fun _ _ h => nomatch h
  rw [f0] at z
  exact z
theorem s1 (st : Sto) : lw1 [x0, x1, x2, x3, x4, x5, x6, x7, x8, x9, x10, x11, x12, x13, x14, x15] st = .nx [x0, x1, x2, x3, x4, x5, x6, x7, x8, x9, x10, x11, x12, x13, x14, x15] st := by
  have l := bad_none x0 x1 x2 x3 x4 x5 x6 x7 x8 x9 x10 x11 x12 x13 x14 x15 st
  have n := oNe_same (st := st) (d := .lst []) rfl rfl
  unfold lw1
  generalize evLc [7] (itVal (evCall 0 f_law_bad_plans eaNil)) (gN 7) (ebOf (evOp oIsNot (evCall 1 f_is_plan (eaCons (evVar 7) eaNil)) (evC (.bl false)))) (evVar 7) = L at l ⊢
  simp [l, n]
theorem known_none (st : Sto) : evLc [7] (itVal (evCall 0 f_law_known eaNil)) (gN 7) (ebOf (evOp oIsNot (evCall 1 f_is_plan (eaCons (evVar 7) eaNil)) (evC (.bl true)))) (evVar 7) [x0, x1, x2, x3, x4, x5, x6, x7, x8, x9, x10, x11, x12, x13, x14, x15] st = .ok (.lst []) st := by
  have it : itVal (evCall 0 f_law_known eaNil) [x0, x1, x2, x3, x4, x5, x6, x7, x8, x9, x10, x11, x12, x13, x14, x15] st = .ok (known.map dP) st := by
    have b := known_ok st
    show _ = R.ok [dP k1, dP k2, dP k3, dP k4] st
    generalize dP k1 = K1 at b ⊢
    generalize dP k2 = K2 at b ⊢
    generalize dP k3 = K3 at b ⊢
    generalize dP k4 = K4 at b ⊢
    simp [b]
  have z := evLc_enc (vs := [7]) (g := gN 7) (t := ebOf (evOp oIsNot (evCall 1 f_is_plan (eaCons (evVar 7) eaNil)) (evC (.bl true)))) (e := evVar 7) dP (fun _ => false) dP known it (by decide) fun p hp => ⟨_, rfl, by
    have ok : OkP p := by
      simp only [known, List.mem_cons, List.not_mem_nil, or_false] at hp
      rcases hp with rfl | rfl | rfl | rfl
      · exact ok1
      · exact ok2
      · exact ok3
      · exact ok4
    have g := is_plan_ok (st := st) (fits_plan_ok ok st)
    have o : oIsNot st (.bl true) (.bl true) = some (.bl false) := rfl
    generalize dP p = P at g ⊢
    simp [wipeS, g, o], fun h => nomatch h⟩
  have f0 : known.filter (fun _ => false) = [] := List.filter_eq_nil_iff.mpr fun _ _ h => nomatch h
  rw [f0] at z
  exact z
theorem s2 (st : Sto) : lw2 [x0, x1, x2, x3, x4, x5, x6, x7, x8, x9, x10, x11, x12, x13, x14, x15] st = .nx [x0, x1, x2, x3, x4, x5, x6, x7, x8, x9, x10, x11, x12, x13, x14, x15] st := by
  have l := known_none x0 x1 x2 x3 x4 x5 x6 x7 x8 x9 x10 x11 x12 x13 x14 x15 st
  have n := oNe_same (st := st) (d := .lst []) rfl rfl
  have g : f_is_plan [.tup [.int 2, .tup [.tup []]]] st = .ok (.bl true) st := is_plan_ok (st := st) (fits_plan_ok okA st)
  have o : oIsNot st (.bl true) (.bl true) = some (.bl false) := rfl
  unfold lw2
  generalize evLc [7] (itVal (evCall 0 f_law_known eaNil)) (gN 7) (ebOf (evOp oIsNot (evCall 1 f_is_plan (eaCons (evVar 7) eaNil)) (evC (.bl true)))) (evVar 7) = L at l ⊢
  simp [l, n, g, o]
theorem s3 (st : Sto) : lw3 [x0, x1, x2, x3, x4, x5, x6, x7, x8, x9, x10, x11, x12, x13, x14, x15] st = .nx [x0, x1, some (dP k1), some (dP k2), some (dP k3), some (dP k4), x6, x7, x8, x9, x10, x11, x12, x13, x14, x15] st := by
  have b := known_ok st
  have t : gT 4 (gsCons (gN 2) (gsCons (gN 3) (gsCons (gN 4) (gsCons (gN 5) gsNil)))) (.lst [dP k1, dP k2, dP k3, dP k4]) [x0, x1, x2, x3, x4, x5, x6, x7, x8, x9, x10, x11, x12, x13, x14, x15] = some [x0, x1, some (dP k1), some (dP k2), some (dP k3), some (dP k4), x6, x7, x8, x9, x10, x11, x12, x13, x14, x15] := rfl
  have c : evCall 0 f_law_known eaNil [x0, x1, x2, x3, x4, x5, x6, x7, x8, x9, x10, x11, x12, x13, x14, x15] st = .ok (.lst [dP k1, dP k2, dP k3, dP k4]) st := by
    rw [evCall_ap, eaNil_ap, R.bind_ok, kCall_0 (n := 0) (ds := []) rfl, b]
  unfold lw3
  rw [sAsg_ap, c, R.stm_ok, kAsg, t]
theorem shown_val {p : Pl} {c v : List Nat} {st : Sto} (hp : OkP p) (hc : ascB p.1 c = true) (hv : view p c = v) : f_shown [dP p, dL c] st = .ok (dL v) st := by
  rw [shown_ok hp (ascB_ok hc), hv]
theorem susp_val {p : Pl} {c v : List Nat} {st : Sto} (hp : OkP p) (hc : ascB p.2.length c = true) (hv : susp p c = v) : f_suspects [dP p, dL c] st = .ok (dL v) st := by
  rw [suspects_ok hp (ascB_ok hc), hv]
theorem with_val {p : Pl} {t : Nat} {v : List Nat} {st : Sto} (hp : OkP p) (hc : t < p.1) (hv : lotsOf p t = v) : f_lots_with [dP p, dI t] st = .ok (dL v) st := by
  rw [lots_with_ok hp hc, hv]
theorem s4 (st : Sto) : lw4 [x0, x1, some (dP k1), some (dP k2), some (dP k3), some (dP k4), x6, x7, x8, x9, x10, x11, x12, x13, x14, x15] st = .nx [x0, x1, some (dP k1), some (dP k2), some (dP k3), some (dP k4), x6, x7, x8, x9, x10, x11, x12, x13, x14, x15] st := by
  have a1 : f_shown [dP k1, .tup [.int 0, .int 3]] st = .ok (.tup [.int 0, .int 1, .int 2, .int 4, .int 5]) st := shown_val (c := [0, 3]) (v := [0, 1, 2, 4, 5]) ok1 (by decide +kernel) (by decide +kernel)
  have a2 : f_shown [dP k2, .tup [.int 0, .int 2]] st = .ok (.tup [.int 0, .int 1]) st := shown_val (c := [0, 2]) (v := [0, 1]) ok2 (by decide +kernel) (by decide +kernel)
  have a3 : f_suspects [dP k1, .tup [.int 0, .int 1, .int 2]] st = .ok (.tup [.int 0]) st := susp_val (c := [0, 1, 2]) (v := [0]) ok1 (by decide +kernel) (by decide +kernel)
  have n1 : oNe st (.tup [.int 0, .int 1, .int 2, .int 4, .int 5]) (.tup [.int 0, .int 1, .int 2, .int 4, .int 5]) = some (.bl false) := oNe_same (okD_row [0, 1, 2, 4, 5]) rfl
  have n2 : oNe st (.tup [.int 0, .int 1]) (.tup [.int 0, .int 1]) = some (.bl false) := oNe_same (okD_row [0, 1]) rfl
  have n3 : oNe st (.tup [.int 0]) (.tup [.int 0]) = some (.bl false) := oNe_same (okD_row [0]) rfl
  generalize dP k1 = K1 at a1 a3 ⊢
  generalize dP k2 = K2 at a2 ⊢
  generalize dP k3 = K3
  generalize dP k4 = K4
  simp [lw4, a1, a2, a3, n1, n2, n3]
theorem s5 (st : Sto) : lw5 [x0, x1, some (dP k1), some (dP k2), some (dP k3), some (dP k4), x6, x7, x8, x9, x10, x11, x12, x13, x14, x15] st = .nx [x0, x1, some (dP k1), some (dP k2), some (dP k3), some (dP k4), x6, x7, x8, x9, x10, x11, x12, x13, x14, x15] st := by
  have a1 : f_suspects [dP k2, .tup [.int 0]] st = .ok (.tup [.int 0]) st := susp_val (c := [0]) (v := [0]) ok2 (by decide +kernel) (by decide +kernel)
  have a2 : f_suspects [dP k3, .tup []] st = .ok (.tup [.int 0, .int 1]) st := susp_val (c := []) (v := [0, 1]) ok3 (by decide +kernel) (by decide +kernel)
  have a3 : f_lots_with [dP k2, .int 1] st = .ok (.tup [.int 0, .int 1]) st := with_val (t := 1) (v := [0, 1]) ok2 (by decide) (by decide +kernel)
  have n2 : oNe st (.tup [.int 0, .int 1]) (.tup [.int 0, .int 1]) = some (.bl false) := oNe_same (okD_row [0, 1]) rfl
  have n3 : oNe st (.tup [.int 0]) (.tup [.int 0]) = some (.bl false) := oNe_same (okD_row [0]) rfl
  generalize dP k1 = K1
  generalize dP k2 = K2 at a1 a3 ⊢
  generalize dP k3 = K3 at a2 ⊢
  generalize dP k4 = K4
  simp [lw5, a1, a2, a3, n2, n3]
theorem s6 (st : Sto) : lw6 [x0, x1, x2, x3, x4, x5, x6, x7, x8, x9, x10, x11, x12, x13, x14, x15] st = .rt (.bl true) st := by
  have a1 : f_shown [.tup [.int 2, .tup [.tup [.int 0], .tup [.int 0], .tup []]], .tup [.int 0]] st = .ok (.tup [.int 0, .int 1]) st := shown_val (p := kB) (c := [0]) (v := [0, 1]) okB (by decide +kernel) (by decide +kernel)
  have a2 : f_suspects [.tup [.int 2, .tup [.tup [.int 0], .tup []]], .tup [.int 0]] st = .ok (.tup [.int 0, .int 1]) st := susp_val (p := kC) (c := [0]) (v := [0, 1]) okC (by decide +kernel) (by decide +kernel)
  have n2 : oEq st (.tup [.int 0, .int 1]) (.tup [.int 0, .int 1]) = some (.bl true) := oEq_same (okD_row [0, 1]) rfl
  simp [lw6, a1, a2, n2]
end
/-! ### one draw -/
theorem draw_tup {b m k : Nat} {t : Eb} {j : Nat} {it : Ea} {ρ : Sl} {st : Sto} (hb : Bag b st) (hm : m ≤ 1000) (hi : it ρ st = .ok ((List.range m).map dI) st)
    (ht : ∀ (x : Nat) (st : Sto), Bag b st → ∃ ρ1 c st1, gN j (dI x) (wipeS ρ [j]) = some ρ1 ∧ t ρ1 st = .ok c st1 ∧ Drw b st st1 ∧ evVar j ρ1 st1 = .ok (dI x) st1) :
    ∃ (c : List Nat) (st' : Sto), Asc m c ∧ Drw b st st' ∧ evB bTuple (eaCons (evLc [j] it (gN j) t (evVar j)) eaNil) ρ st = .ok (dL c) st' := by
  obtain ⟨ys, st', h1, h2, h3⟩ := evLc_drw (b := b) (vs := [j]) (it := it) (g := gN j) (t := t) (e := evVar j) dI (List.range m) hi (by rw [List.length_range]; omega) hb fun x _ st hb => ht x st hb
  refine ⟨ys, st', asc_of_sub h1, h2, ?_⟩
  rw [evB_ap, eaCons_ap, h3]
  rfl
theorem first_ok {s : List Int} {i : Nat} {st : Sto} (hs : s.length ≤ 63) (hi : i < 8) (hl : st.length = i) (hf : Fr st) (x2 x3 x4 x5 x6 x7 x8 x9 x10 x11 x12 x13 x14 x15 : Option D) :
    ∃ x6' x7' x8' x9' x10' x11' x12' x13' st', lw0_b [some (.scr (s.map D.int)), some (dI i), x2, x3, x4, x5, x6, x7, x8, x9, x10, x11, x12, x13, x14, x15] st = .nx [some (.scr (s.map D.int)), some (dI i), x2, x3, x4, x5, x6', x7', x8', x9', x10', x11', x12', x13', x14, x15] st' ∧ st'.length = i + 1 ∧ Fr st' := by
  obtain ⟨ns, eb⟩ := bag_ok (s := s) (k := i) (by omega) (by omega) st
  have hb : Bag st.length (st ++ [dZ ns]) := ⟨ns, get_last st _⟩
  have g1 : Fr (st ++ [dZ ns]) := by
    unfold Fr at *
    rw [List.all_append, hf, Bool.true_and]
    show (rfrees (dZ ns) && true) = true
    rw [rfrees_dZ]
    rfl
  obtain ⟨p, st1, hp, hd, ep⟩ := plan_ok (a := 10) (c := 10) hb (by decide) (by decide) (by decide)
  have g2 : Fr st1 := hd.fr g1
  have b1 := hd.bag hb
  have h := hp.ok
  have h10 := h.ten
  have hlo := h.lots
  generalize hX : some (D.scr (s.map D.int)) = X
  have ix : ∀ st, oIx st (dP p) (.int 0) = some (.int (p.1 : Int)) := fun st => Eq.trans rfl rfl
  have ix1 : ∀ st, oIx st (dP p) (.int 1) = some (.tup (p.2.map dL)) := fun st => Eq.trans rfl rfl
  have s0 : lw0_0 [X, some (dI i), x2, x3, x4, x5, x6, x7, x8, x9, x10, x11, x12, x13, x14, x15] st = .nx [X, some (dI i), x2, x3, x4, x5, some (.ref st.length), x7, x8, x9, x10, x11, x12, x13, x14, x15] (st ++ [dZ ns]) := by
    subst hX
    have eb' : f_law_bag [.scr (s.map D.int), .int (i : Int)] st = .ok (.ref st.length) (st ++ [dZ ns]) := eb
    generalize st ++ [dZ ns] = sA at eb' ⊢
    simp [lw0_0, eb']
  have s1 : lw0_1 [X, some (dI i), x2, x3, x4, x5, some (.ref st.length), x7, x8, x9, x10, x11, x12, x13, x14, x15] (st ++ [dZ ns]) = .nx [X, some (dI i), x2, x3, x4, x5, some (.ref st.length), some (dP p), x8, x9, x10, x11, x12, x13, x14, x15] st1 := by
    have ep' : f_law_plan [.ref st.length, .int 10, .int 10] (st ++ [dZ ns]) = .ok (dP p) st1 := ep
    generalize st ++ [dZ ns] = sA at ep' ⊢
    generalize dP p = P at ep' ⊢
    simp [lw0_1, ep']
  have r1 : kIR1 [.int (p.1 : Int)] st1 = .ok ((List.range p.1).map dI) st1 := kIR1_nat (j := p.1) (by omega)
  obtain ⟨c, st2, hc, d2, e2⟩ := draw_tup (k := 4) (j := 10) (m := p.1) (t := ebOf (evOp oEq (evCall 2 f_law_take (eaCons (evVar 6) (eaCons (evC (.int 4)) eaNil))) (evC (.int 0)))) (it := itR1 (eaCons (evOp oIx (evVar 7) (evC (.int 0))) eaNil)) (ρ := [X, some (dI i), x2, x3, x4, x5, some (.ref st.length), some (dP p), x8, x9, x10, x11, x12, x13, x14, x15]) b1 (by omega) (by
      have ix := ix st1
      generalize dP p = P at ix ⊢
      simp [ix, r1]) (fun x sx hx => by
      obtain ⟨t, sy, ht, hdr, et⟩ := law_take_ok (m := 4) hx (by decide)
      have et' : f_law_take [.ref st.length, .int 4] sx = .ok (dI t) sy := et
      refine ⟨_, decide ((t : Int) = 0), sy, rfl, ?_, hdr, by simp [wipeS]⟩
      generalize dP p = P
      simp [wipeS, et'])
  have b2 := d2.bag b1
  have g3 := d2.fr g2
  have s2 : lw0_2 [X, some (dI i), x2, x3, x4, x5, some (.ref st.length), some (dP p), x8, x9, x10, x11, x12, x13, x14, x15] st1 = .nx [X, some (dI i), x2, x3, x4, x5, some (.ref st.length), some (dP p), some (dL c), x9, x10, x11, x12, x13, x14, x15] st2 := by
    rw [lw0_2, sSet_ap, e2]
    rfl
  have r2 : kIR1 [.int (p.2.length : Int)] st2 = .ok ((List.range p.2.length).map dI) st2 := kIR1_nat (j := p.2.length) (by omega)
  obtain ⟨v, st3, hv, d3, e3⟩ := draw_tup (k := 4) (j := 14) (m := p.2.length) (t := ebOf (evOp oGt (evCall 2 f_law_take (eaCons (evVar 6) (eaCons (evC (.int 3)) eaNil))) (evC (.int 0)))) (it := itR1 (eaCons (evB bLen (eaCons (evOp oIx (evVar 7) (evC (.int 1))) eaNil)) eaNil)) (ρ := [X, some (dI i), x2, x3, x4, x5, some (.ref st.length), some (dP p), some (dL c), x9, x10, x11, x12, x13, x14, x15]) b2 (by omega) (by
      have ix := ix1 st2
      generalize dP p = P at ix ⊢
      generalize dL c = C
      simp [ix, r2]) (fun x sx hx => by
      obtain ⟨t, sy, ht, hdr, et⟩ := law_take_ok (m := 3) hx (by decide)
      have et' : f_law_take [.ref st.length, .int 3] sx = .ok (dI t) sy := et
      refine ⟨_, decide ((0 : Int) < (t : Int)), sy, rfl, ?_, hdr, by simp [wipeS]⟩
      generalize dP p = P
      generalize dL c = C
      simp [wipeS, et'])
  have b3 := d3.bag b2
  have g4 := d3.fr g3
  have s3 : lw0_3 [X, some (dI i), x2, x3, x4, x5, some (.ref st.length), some (dP p), some (dL c), x9, x10, x11, x12, x13, x14, x15] st2 = .nx [X, some (dI i), x2, x3, x4, x5, some (.ref st.length), some (dP p), some (dL c), some (dL v), x10, x11, x12, x13, x14, x15] st3 := by
    rw [lw0_3, sSet_ap, e3]
    rfl
  have s4 : lw0_4 [X, some (dI i), x2, x3, x4, x5, some (.ref st.length), some (dP p), some (dL c), some (dL v), x10, x11, x12, x13, x14, x15] st3 = .nx [X, some (dI i), x2, x3, x4, x5, some (.ref st.length), some (dP p), some (dL c), some (dL v), x10, x11, x12, x13, x14, x15] st3 := by
    have a1 := shown_ok h hc st3
    have a2 := law_view_ok h c st3
    have a3 := suspects_ok h hv st3
    have a4 := law_suspects_ok h v st3
    have n1 := oNe_same (st := st3) (okD_row (view p c)) rfl
    have n2 := oNe_same (st := st3) (okD_row (susp p v)) rfl
    generalize dL (view p c) = V1 at a1 a2 n1
    generalize dL (susp p v) = V2 at a3 a4 n2
    generalize dP p = P at a1 a2 a3 a4 ⊢
    generalize dL c = C at a1 a2 ⊢
    generalize dL v = V at a3 a4 ⊢
    simp [lw0_4, a1, a2, a3, a4, n1, n2]
  obtain ⟨ρ5, e5, x10', rfl⟩ := forGo_acc (st := st3) (g := gN 10) (b := lw0_5_b) dI (fun _ => ()) (fun _ ρ => ∃ x10, ρ = [X, some (dI i), x2, x3, x4, x5, some (.ref st.length), some (dP p), some (dL c), some (dL v), x10, x11, x12, x13, x14, x15]) (List.range p.1) [X, some (dI i), x2, x3, x4, x5, some (.ref st.length), some (dP p), some (dL c), some (dL v), x10, x11, x12, x13, x14, x15] ⟨x10, rfl⟩ (fun pre t ρ ht _ _ hI => by
    obtain ⟨x10, rfl⟩ := hI
    have ht : t < p.1 := List.mem_range.mp ht
    refine ⟨_, [X, some (dI i), x2, x3, x4, x5, some (.ref st.length), some (dP p), some (dL c), some (dL v), some (dI t), x11, x12, x13, x14, x15], rfl, ?_, some (dI t), rfl⟩
    show lw0_5_b [X, some (dI i), x2, x3, x4, x5, some (.ref st.length), some (dP p), some (dL c), some (dL v), some (dI t), x11, x12, x13, x14, x15] st3 = _
    have c1 : evLc [14, 15] (itEn (eaCons (evOp oIx (evVar 7) (evC (.int 1))) eaNil)) (gT 2 (gsCons (gN 14) (gsCons (gN 15) gsNil))) (ebOf (evOp oIn (evVar 10) (evVar 15))) (evVar 14) [X, some (dI i), x2, x3, x4, x5, some (.ref st.length), some (dP p), some (dL c), some (dL v), some (dI t), x11, x12, x13, x14, x15] st3
        = .ok (.lst ((p.2.zipIdx.filter fun q => decide (t ∈ q.1)).map fun q => dI q.2)) st3 :=
      evLc_enc encL _ _ _ (by simp [pairN_lots]) (by simp; omega) fun q hq => ⟨_, rfl, by simp [wipeS], fun _ => by simp [wipeS]⟩
    have d1 := tupLc c1
    have e : D.tup ((p.2.zipIdx.filter fun q => decide (t ∈ q.1)).map fun q => dI q.2) = dL (lotsOf p t) := by
      unfold dL lotsOf
      rw [List.map_map]; rfl
    rw [e] at d1
    have a := lots_with_ok (st := st3) h ht
    have n := oNe_same (st := st3) (okD_row (lotsOf p t)) rfl
    have a' : f_lots_with [dP p, .int (t : Int)] st3 = .ok (dL (lotsOf p t)) st3 := a
    unfold lw0_5_b lw0_5_0
    generalize evB bTuple (eaCons (evLc [14, 15] (itEn (eaCons (evOp oIx (evVar 7) (evC (.int 1))) eaNil)) (gT 2 (gsCons (gN 14) (gsCons (gN 15) gsNil))) (ebOf (evOp oIn (evVar 10) (evVar 15))) (evVar 14)) eaNil) = L at d1 ⊢
    generalize dL (lotsOf p t) = U at d1 a' n
    generalize dP p = P at a' d1 ⊢
    generalize dL c = C at d1 ⊢
    generalize dL v = V at d1 ⊢
    simp [a', d1, n])
  have s5 : lw0_5 [X, some (dI i), x2, x3, x4, x5, some (.ref st.length), some (dP p), some (dL c), some (dL v), x10, x11, x12, x13, x14, x15] st3 = .nx [X, some (dI i), x2, x3, x4, x5, some (.ref st.length), some (dP p), some (dL c), some (dL v), x10', x11, x12, x13, x14, x15] st3 := by
    have it : itR1 (eaCons (evOp oIx (evVar 7) (evC (.int 0))) eaNil) [X, some (dI i), x2, x3, x4, x5, some (.ref st.length), some (dP p), some (dL c), some (dL v), x10, x11, x12, x13, x14, x15] st3 = .ok ((List.range p.1).map dI) st3 := by
      have r1 : kIR1 [.int (p.1 : Int)] st3 = .ok ((List.range p.1).map dI) st3 := kIR1_nat (j := p.1) (by omega)
      have ix := ix st3
      generalize dP p = P at ix ⊢
      generalize dL c = C
      generalize dL v = V
      simp [ix, r1]
    rw [lw0_5, sFor_ap, it]
    exact e5
  obtain ⟨x11', x12', x13', st4, e6, d4⟩ := vals_ok X (some (dI i)) x2 x3 x4 x5 (some (dL v)) x10' x11 x12 x13 x14 x15 h b3 hc
  have g5 := d4.fr g4
  have s7 : lw0_7 [X, some (dI i), x2, x3, x4, x5, some (.ref st.length), some (dP p), some (dL c), some (dL v), x10', x11', x12', x13', x14, x15] st4 = .nx [X, some (dI i), x2, x3, x4, x5, some (.ref st.length), some (dP p), some (dL c), some (dL v), x10', x11', x12', x13', x14, x15] st4 := by
    have a := law_refused_ok h st4
    generalize dP p = P at a ⊢
    generalize dL c = C
    generalize dL v = V
    simp [lw0_7, a]
  have sl : st4.length = i + 1 := by rw [d4.len, d3.len, d2.len, hd.len]; simp [hl]
  refine ⟨some (.ref st.length), some (dP p), some (dL c), some (dL v), x10', x11', x12', x13', st4, ?_, sl, g5⟩
  rw [lw0_b, sCons_ap, s0, RS.seq_nx, sCons_ap, s1, RS.seq_nx, sCons_ap, s2, RS.seq_nx, sCons_ap, s3, RS.seq_nx, sCons_ap, s4, RS.seq_nx, sCons_ap, s5, RS.seq_nx, sCons_ap, e6, RS.seq_nx, sCons_ap, s7, RS.seq_nx]
  rfl
theorem law_ok {s : List Int} (hs : s.length ≤ 63) : f_law [.scr (s.map D.int)] [] = .ok (.bl true) [] := by
  obtain ⟨ρ1, st1, e1, x1, x6, x7, x8, x9, x10, x11, x12, x13, rfl, hl, hf⟩ := forGo_ix (g := gN 1) (b := lw0_b) dI
    (fun i ρ st => ∃ x1 x6 x7 x8 x9 x10 x11 x12 x13, ρ = [some (.scr (s.map D.int)), x1, none, none, none, none, x6, x7, x8, x9, x10, x11, x12, x13, none, none] ∧ st.length = i ∧ Fr st)
    (List.range 8) 0 [some (.scr (s.map D.int)), none, none, none, none, none, none, none, none, none, none, none, none, none, none, none] [] ⟨none, none, none, none, none, none, none, none, none, rfl, rfl, rfl⟩ (fun i x ρ st hx hI => by
      obtain ⟨x1, x6, x7, x8, x9, x10, x11, x12, x13, rfl, hl, hf⟩ := hI
      obtain ⟨hi, rfl⟩ := List.getElem?_eq_some_iff.mp hx
      rw [List.getElem_range]
      rw [Nat.zero_add] at hl
      have h8 : i < 8 := by simpa using hi
      obtain ⟨x6', x7', x8', x9', x10', x11', x12', x13', st', e, l', f'⟩ := first_ok hs h8 hl hf none none none none x6 x7 x8 x9 x10 x11 x12 x13 none none
      exact ⟨_, _, st', rfl, e, some (dI i), x6', x7', x8', x9', x10', x11', x12', x13', rfl, by omega, f'⟩)
  have z : slots0 16 [.scr (s.map D.int)] = [some (.scr (s.map D.int)), none, none, none, none, none, none, none, none, none, none, none, none, none, none, none] := rfl
  generalize hX : some (D.scr (s.map D.int)) = X at e1 z
  have t0 : lw0 [X, none, none, none, none, none, none, none, none, none, none, none, none, none, none, none] [] = .nx [X, x1, none, none, none, none, x6, x7, x8, x9, x10, x11, x12, x13, none, none] st1 := by
    have it := itR1_n (n := 8) (by decide) [X, none, none, none, none, none, none, none, none, none, none, none, none, none, none, none] []
    have it : itR1 (eaCons (evC (.int 8)) eaNil) [X, none, none, none, none, none, none, none, none, none, none, none, none, none, none, none] [] = .ok ((List.range 8).map dI) [] := it
    rw [lw0, sFor_ap, it]
    exact e1
  show fnRun false 16 b_law _ [] = _
  rw [lweq, fnRun_ap, z, lwb, sCons_ap, t0, RS.seq_nx, sCons_ap, s1, RS.seq_nx, sCons_ap, s2, RS.seq_nx, sCons_ap, s3, RS.seq_nx, sCons_ap, s4, RS.seq_nx, sCons_ap, s5, RS.seq_nx, sCons_ap, s6]
  show fnEnd false 0 (.rt (.bl true) st1) = _
  have cs : cutSt 0 st1 = some [] := by
    unfold cutSt
    cases st1 <;> rfl
  have cv : cutVal 0 st1 (.bl true) = some (.bl true) := by
    unfold cutVal
    cases st1 <;> rfl
  unfold fnEnd
  dsimp only
  rw [cs, cv]
  rfl
end K01
set_option Elab.async false
set_option linter.all false
set_option maxRecDepth 100000
set_option maxHeartbeats 0
namespace K01
open PySem PySem.Spec PyProof.Rows L2 Ip Lots
theorem reps_ints {K : PySem.W.Frag} {m : MX} {H : Hp} : ∀ ns : List Int, Reps K m H (ns.map D.int) (ns.map V.int)
  | [] => rfl
  | n :: ns => ⟨_, _, rfl, rfl, reps_ints ns⟩
/-- the law's promise -/
theorem law_sp {K : PySem.W.Frag} {H : Hp} {a : Addr} {ns : List Int} (hl : ns.length ≤ 63) (hT : LamX.Tabs (lamT K) H) (hS : SqL K H a (ns.map V.int)) :
    spF K 1 f_law [.ref a] H (fun v _ => v = .bl true) fun _ _ _ => False := by
  refine ⟨⟨[], []⟩, [.scr (ns.map D.int)], [], ⟨_, _, rfl, ⟨a, _, rfl, ?_, reps_ints ns⟩, rfl⟩, rfl, ⟨rfl, List.nodup_nil, fun n xs e => (nomatch e), fun a h => (nomatch h), hT⟩, ?_⟩
  · rcases hS with h | ⟨o, its, n, h⟩
    · exact .inl ⟨h, fun h => by rcases h with h | h <;> cases h⟩
    · exact .inr fun _ => .inr ⟨o, its, n, h⟩
  · rw [law_ok hl]
    intro m' H' _ _ v r
    exact r
section
variable {P : Program} {w : World} {K : PySem.W.Frag} {mg : Str → Option Value} {h : Heap} {f : Addr}
theorem facts (X : K.In h) (G : h.Ns mainGlobals mg) (hfa : mg ("law" : Str) = some (.ref f)) (c : He.SaysD fa fn K) (e : exB K = true) :
    ∃ fd : FuncData, (∀ (s : Shared) (v : Value), BindsTo s fd ⟨[v], []⟩ [("script", v)]) ∧ ∀ base : Heap, K.In base → base.Ns mainGlobals mg → (∀ x ∈ Ip.lams, LamX.TabB base mg (He.cT K (x, none)).1 (He.cT K (x, none)).2) → FnOk P w K mg base (L2N.CX P w) 19 f fd ["script"] (spF K 1 f_law) := by
  obtain ⟨fd, F⟩ := c.def_ 33 (d := mkD "law" 56) rfl
  have z := hfa.symm.trans (He.glo_ok X G (c.fact 33 (f := .glo "law") rfl))
  cases z
  have b := FunD.bindsA (ps := ["script"]) F fun _ _ _ _ _ _ us hl => match us, hl with | [_], _ => rfl
  refine ⟨fd, fun s v => b s [v] rfl, fun base X2 G2 T => ?_⟩
  have M : Md K mg base base := ⟨X2, G2, c, e, T⟩
  exact fn_ok (Γ := c_law) F (fun _ => rfl) (C8.fnScope_by (by decide +kernel)) rfl rfl rfl s_law rfl rfl (fx_law M) (fun c hc => nomatch hc) fun _ => mk_ok M (by decide +kernel)
end
end K01
open PySem PySem.W PySem.Calls PyProof.Rows
theorem PySem.Challenge.cw_testedlots_k01_plans_and_views_known_holds : PySem.Challenge.rw_testedlots_k01_plans_and_views_known.Holds := by
  w_on; o_law
  refine HandSHeadRun.head_any (r := OpenLaw.row PySem.Challenge.rw_testedlots_k01_plans_and_views_known) (q := view (OpenLaw.row PySem.Challenge.rw_testedlots_k01_plans_and_views_known).prog [56]) (H := K01.hk) (ob := K01.ob) (M := 8000) (loose := K01.lo) (d := HandSHeadRun.topDef (OpenLaw.row PySem.Challenge.rw_testedlots_k01_plans_and_views_known).prog 56) (kwd := []) K01.ob_eq
    (by kernel_rfl) (fun s => by kernel_rfl) K01.run (by kernel_rfl) (by kernel_rfl) (by kernel_rfl) (by rfl) (by first | assumption | decide +kernel) (by decide +kernel) ⟨rfl, rfl, rfl, rfl, rfl, by decide +kernel⟩ ?hw ?hc
  case hw => w_witness2
  case hc =>
    refine LamX.walk_ofTsE (l := PySem.Challenge.rw_testedlots_k01_plans_and_views_known) (n := 63) (k := 19) (x := "script") (CX := fun w => L2N.CX (PySem.Challenge.rw_testedlots_k01_plans_and_views_known).prog w) rfl (by decide) (by kernel_rfl) ⟨rfl, by decide, by decide⟩ ?T fun w H s e s' c => by
      obtain ⟨_, _, _, _, _, _, _, _, _, _, _, _, z⟩ := c
      exact z
    intro w mg fa h Y G hmg0
    obtain ⟨K, KX, c⟩ := Y
    have hmg : mg ("law" : PySem.Str) = some (.ref fa) := by
      have e : (HandSHeadRun.topDef (OpenLaw.row PySem.Challenge.rw_testedlots_k01_plans_and_views_known).prog 56).name = ("law" : PySem.Str) := by kernel_rfl
      rw [← e]
      exact hmg0
    obtain ⟨fd, hb, hF⟩ := K01.facts (P := (PySem.Challenge.rw_testedlots_k01_plans_and_views_known).prog) (w := w) KX G hmg c.t.d c.more
    refine ⟨K, KX, fd, K01.tf.map (He.cT K), Ip.spF K 1 K01.f_law, fun p hp => ?_, fun p hp => ?_, fun p hp => ?_, hb, fun H a ns hl _ hH hS => K01.law_sp hl (fun p hp => ?_) hS, fun base X2 G2 T => hF base X2 G2 fun x hx => ?_⟩
    · obtain ⟨q, hq, rfl⟩ := List.mem_map.mp hp
      exact c.empty q hq
    · obtain ⟨q, hq, rfl⟩ := List.mem_map.mp hp
      exact c.out q hq
    · obtain ⟨q, hq, rfl⟩ := List.mem_map.mp hp
      exact codeHd_of_K KX (c.hd q hq)
    · obtain ⟨x, hx, rfl⟩ := List.mem_map.mp hp
      exact LamX.TabS.nil (hH (He.cT K (x, none)) (List.mem_map.mpr ⟨(x, none), List.mem_map.mpr ⟨x, hx, rfl⟩, rfl⟩))
    · exact T (He.cT K (x, none)) (List.mem_map.mpr ⟨(x, none), List.mem_map.mpr ⟨x, hx, rfl⟩, rfl⟩)
