import PyProof.Rows.All
import Wide.All
import OpenK.AllK
import Wide.FinOn
import HandS.ForMost
import HandS.ForSpec
import HandS.IsInst
import HandS.TupAny
import HandS.TupMul
import HandS.Conv
import HandS.Deep
import HandS.Flow
import HandS.Style
import HandS.Walk
import HandS.Zip
import HandS.Sort
import KE.DataEq
import KE.DataMinMax
import KE.SortData
import HandS.RaiseMore
import PySem.Challenge.RW_keptoftwo_k71_whole_shapes_in_order
set_option Elab.async false
set_option linter.all false
set_option maxRecDepth 100000
set_option maxHeartbeats 4000000
set_option autoImplicit false
namespace KT
open PySem PySem.Spec PyProof.Rows L2
abbrev St := L2.St

/-! ## plain values -/
inductive D where
  | non | bl (b : Bool) | int (i : Int) | str (cs : List Nat)
  | tup (xs : List D) | lst (xs : List D) | rng (lo hi : Int)
  | cup | fn (i : Nat) | obj (i : Nat) | scr
structure Ob where
  cls : Nat
  fs : List (Str × D)
abbrev Sto := List Ob

/-! ## trees: what may come of a run -/
inductive T (α : Type) : Type where
  | ret (a : α) | bad | exc (c : Nat) (as : List D) | draw (n : Nat) (k : Nat → T α) | get (k : Sto → T α) | put (s : Sto) (k : T α)
def T.bind {α β : Type} : T α → (α → T β) → T β
  | .ret a, f => f a
  | .bad, _ => .bad
  | .exc c as, _ => .exc c as
  | .draw n k, f => .draw n fun r => (k r).bind f
  | .get k, f => .get fun s => (k s).bind f
  | .put s k, f => .put s (k.bind f)
@[simp] theorem bind_ret {α β : Type} (a : α) (f : α → T β) : (T.ret a).bind f = f a := rfl
@[simp] theorem bind_bad {α β : Type} (f : α → T β) : (T.bad : T α).bind f = .bad := rfl
@[simp] theorem bind_exc {α β : Type} (c : Nat) (as : List D) (f : α → T β) : (T.exc c as : T α).bind f = .exc c as := rfl
@[simp] theorem bind_draw {α β : Type} (n : Nat) (k : Nat → T α) (f : α → T β) : (T.draw n k).bind f = .draw n fun r => (k r).bind f := rfl
theorem bind_assoc {α β γ : Type} (m : T α) (f : α → T β) (g : β → T γ) : (m.bind f).bind g = m.bind fun a => (f a).bind g := by
  induction m with
  | ret a => rfl
  | bad => rfl
  | exc c as => rfl
  | draw n k ih => simp only [T.bind, ih]
  | get k ih => simp only [T.bind, ih]
  | put s k ih => simp only [T.bind, ih]
/-- exceptions are not let out -/
def T.noexc {α : Type} : T α → T α
  | .ret a => .ret a
  | .bad => .bad
  | .exc _ _ => .bad
  | .draw n k => .draw n fun r => (k r).noexc
  | .get k => .get fun s => (k s).noexc
  | .put s k => .put s k.noexc
@[simp] theorem noexc_ret {α : Type} (a : α) : (T.ret a).noexc = .ret a := rfl
def W {α : Type} : T α → (α → Sto → Prop) → (Nat → List D → Sto → Prop) → Sto → Prop
  | .ret a, Q, _, s => Q a s
  | .bad, _, _, _ => False
  | .exc c as, _, E, s => E c as s
  | .draw n k, Q, E, s => 0 < n ∧ ∀ r, r < n → W (k r) Q E s
  | .get k, Q, E, s => W (k s) Q E s
  | .put s' k, Q, E, _ => W k Q E s'
theorem W_bind {α β : Type} (m : T α) (f : α → T β) {Q : β → Sto → Prop} {E : Nat → List D → Sto → Prop} : ∀ {s : Sto}, W (m.bind f) Q E s ↔ W m (fun a s' => W (f a) Q E s') E s := by
  induction m with
  | ret a => intro s; exact Iff.rfl
  | bad => intro s; exact Iff.rfl
  | exc c as => intro s; exact Iff.rfl
  | draw n k ih => intro s; exact and_congr Iff.rfl (forall_congr' fun r => imp_congr Iff.rfl (ih r))
  | get k ih => intro s; exact ih s
  | put s k ih => intro s'; exact ih
theorem W_mono {α : Type} {Q Q' : α → Sto → Prop} {E E' : Nat → List D → Sto → Prop} (m : T α) (hq : ∀ a s, Q a s → Q' a s) (he : ∀ c as s, E c as s → E' c as s) : ∀ {s : Sto}, W m Q E s → W m Q' E' s := by
  induction m with
  | ret a => intro s; exact hq a s
  | bad => intro s; exact id
  | exc c as => intro s; exact he c as s
  | draw n k ih => intro s h; exact ⟨h.1, fun r hr => ih r (h.2 r hr)⟩
  | get k ih => intro s h; exact ih s h
  | put s k ih => intro s' h; exact ih h
theorem W_noexc {α : Type} {Q : α → Sto → Prop} {E E' : Nat → List D → Sto → Prop} (m : T α) : ∀ {s : Sto}, W m.noexc Q E s → W m Q E' s := by
  induction m with
  | ret a => intro s; exact id
  | bad => intro s; exact id
  | exc c as => intro s h; exact h.elim
  | draw n k ih => intro s h; exact ⟨h.1, fun r hr => ih r (h.2 r hr)⟩
  | get k ih => intro s h; exact ih s h
  | put s k ih => intro s' h; exact ih h

/-! ## how plain values stand in the heap -/
structure Gm where
  fn : Nat → Option Addr
  cl : Nat → Option Addr
  fl : Nat → List Str
/-- fz: lists that nobody changes any more; cup: the cup's list; sto: the objects that may be changed by whoever holds them -/
structure Gh where
  fz : Addr → Prop
  cup : Addr → Prop
  sto : List Addr
def Gh.mut (g : Gh) (b : Addr) : Prop := g.cup b ∨ b ∈ g.sto
def Gh.add (g : Gh) (p : Addr) : Gh := { g with fz := fun b => g.fz b ∨ b = p }

/-- a list that is never written: the script -/
def Scr (K : PySem.W.Frag) (H : Hp) (a : Addr) (xs : List V) : Prop :=
  (∃ o, H a = some (.frz o (.lst xs))) ∨ ∃ (o : Obj) (its : Array Value) (n : Nat), K.lookup a = some o ∧ o.cls = .type "list" ∧ o.dict = none ∧ o.data = .seq its n ∧ its.size ≤ sizeLine ∧ Vals xs its.toList
mutual
def Rep (K : PySem.W.Frag) (Γ : Gm) (g : Gh) (H : Hp) : D → V → Prop
  | .non, v => v = .non
  | .bl b, v => v = .bl b
  | .int i, v => v = .int i
  | .str cs, v => v = .str ⟨cs.toArray⟩
  | .tup ds, v => ∃ a xs, v = .ref a ∧ SqT K H a xs ∧ Reps K Γ g H ds xs
  | .lst ds, v => ∃ a xs, v = .ref a ∧ (g.fz a ∧ H a = some (.lst xs)) ∧ Reps K Γ g H ds xs
  | .rng lo hi, v => ∃ a, v = .ref a ∧ H a = some (.rng lo hi)
  | .cup, v => ∃ a, g.cup a ∧ v = .ref a
  | .fn i, v => ∃ a, Γ.fn i = some a ∧ v = .ref a
  | .obj i, v => ∃ a, g.sto[i]? = some a ∧ v = .ref a
  | .scr, v => ∃ (a : Addr) (ns : List Int), v = .ref a ∧ ns.length ≤ 63 ∧ Scr K H a (ns.map V.int)
def Reps (K : PySem.W.Frag) (Γ : Gm) (g : Gh) (H : Hp) : List D → List V → Prop
  | [], vs => vs = []
  | d :: ds, vs => ∃ v r, vs = v :: r ∧ Rep K Γ g H d v ∧ Reps K Γ g H ds r
end

/-- what a value leans on is kept -/
structure Mono (g : Gh) (H : Hp) (g' : Gh) (H' : Hp) : Prop where
  fz : ∀ b, g.fz b → g'.fz b
  lst : ∀ b xs, g.fz b → H b = some (.lst xs) → H' b = some (.lst xs)
  tup : ∀ b xs, H b = some (.tup xs) → H' b = some (.tup xs)
  frz : ∀ b o u, H b = some (.frz o u) → H' b = some (.frz o u)
  rng : ∀ b lo hi, H b = some (.rng lo hi) → H' b = some (.rng lo hi)
  cup : ∀ c, g.cup c → g'.cup c
  sto : ∀ (i : Nat) (a : Addr), g.sto[i]? = some a → g'.sto[i]? = some a
theorem Mono.refl (g : Gh) (H : Hp) : Mono g H g H := ⟨fun _ h => h, fun _ _ _ h => h, fun _ _ h => h, fun _ _ _ h => h, fun _ _ _ h => h, fun _ h => h, fun _ _ h => h⟩
theorem Mono.sqT {K : PySem.W.Frag} {g g' : Gh} {H H' : Hp} {a : Addr} {xs : List V} (m : Mono g H g' H') (h : SqT K H a xs) : SqT K H' a xs := by
  rcases h with (h | ⟨o, h⟩) | h
  · exact .inl (.inl (m.tup a xs h))
  · exact .inl (.inr ⟨o, m.frz a o _ h⟩)
  · exact .inr h
mutual
theorem Rep.mono {K : PySem.W.Frag} {Γ : Gm} {g g' : Gh} {H H' : Hp} (m : Mono g H g' H') : ∀ {d : D} {v : V}, Rep K Γ g H d v → Rep K Γ g' H' d v
  | .non, _, h => by simp only [Rep] at h ⊢; exact h
  | .bl b, _, h => by simp only [Rep] at h ⊢; exact h
  | .int i, _, h => by simp only [Rep] at h ⊢; exact h
  | .str cs, _, h => by simp only [Rep] at h ⊢; exact h
  | .tup ds, _, h => by
    simp only [Rep] at h ⊢
    obtain ⟨a, xs, e, h1, h2⟩ := h
    exact ⟨a, xs, e, m.sqT h1, Reps.mono m h2⟩
  | .lst ds, _, h => by
    simp only [Rep] at h ⊢
    obtain ⟨a, xs, e, ⟨h0, h1⟩, h2⟩ := h
    exact ⟨a, xs, e, ⟨m.fz a h0, m.lst a xs h0 h1⟩, Reps.mono m h2⟩
  | .rng lo hi, _, h => by
    simp only [Rep] at h ⊢
    obtain ⟨a, e, h1⟩ := h
    exact ⟨a, e, m.rng a lo hi h1⟩
  | .cup, _, h => by
    simp only [Rep] at h ⊢
    obtain ⟨a, e, h1⟩ := h
    exact ⟨a, m.cup a e, h1⟩
  | .fn i, _, h => by simp only [Rep] at h ⊢; exact h
  | .obj i, _, h => by
    simp only [Rep] at h ⊢
    obtain ⟨a, e, h1⟩ := h
    exact ⟨a, m.sto i a e, h1⟩
  | .scr, _, h => by
    simp only [Rep] at h ⊢
    obtain ⟨a, ns, e, hn, h1⟩ := h
    refine ⟨a, ns, e, hn, ?_⟩
    rcases h1 with ⟨o, h1⟩ | h1
    · exact .inl ⟨o, m.frz a o _ h1⟩
    · exact .inr h1
theorem Reps.mono {K : PySem.W.Frag} {Γ : Gm} {g g' : Gh} {H H' : Hp} (m : Mono g H g' H') : ∀ {ds : List D} {vs : List V}, Reps K Γ g H ds vs → Reps K Γ g' H' ds vs
  | [], _, h => by simp only [Reps] at h ⊢; exact h
  | d :: ds, _, h => by
    simp only [Reps] at h ⊢
    obtain ⟨v, r, e, h1, h2⟩ := h
    exact ⟨v, r, e, Rep.mono m h1, Reps.mono m h2⟩
end
section
variable {K : PySem.W.Frag} {Γ : Gm} {g : Gh} {H : Hp}
theorem Reps.length : ∀ {ds : List D} {vs : List V}, Reps K Γ g H ds vs → vs.length = ds.length
  | [], _, h => by simp only [Reps] at h; subst h; rfl
  | d :: ds, _, h => by
    simp only [Reps] at h
    obtain ⟨v, r, rfl, _, h2⟩ := h
    simp [Reps.length h2]
theorem Reps.get : ∀ {ds : List D} {vs : List V} {i : Nat} {v : V}, Reps K Γ g H ds vs → vs[i]? = some v → ∃ d, ds[i]? = some d ∧ Rep K Γ g H d v
  | [], _, i, v, h, e => by simp only [Reps] at h; subst h; simp at e
  | d :: ds, _, 0, v, h, e => by
    simp only [Reps] at h
    obtain ⟨v, r, rfl, h1, _⟩ := h
    simp at e; subst e
    exact ⟨d, rfl, h1⟩
  | d :: ds, _, i + 1, v, h, e => by
    simp only [Reps] at h
    obtain ⟨v, r, rfl, _, h2⟩ := h
    obtain ⟨d', e', h'⟩ := Reps.get (i := i) h2 (by simpa using e)
    exact ⟨d', by simpa using e', h'⟩
theorem Reps.getD : ∀ {ds : List D} {vs : List V} {i : Nat} {d : D}, Reps K Γ g H ds vs → ds[i]? = some d → ∃ v, vs[i]? = some v ∧ Rep K Γ g H d v
  | [], _, i, v, h, e => by simp at e
  | d :: ds, _, 0, v, h, e => by
    simp only [Reps] at h
    obtain ⟨v, r, rfl, h1, _⟩ := h
    simp at e; subst e
    exact ⟨v, rfl, h1⟩
  | d :: ds, _, i + 1, v, h, e => by
    simp only [Reps] at h
    obtain ⟨v, r, rfl, _, h2⟩ := h
    obtain ⟨d', e', h'⟩ := Reps.getD (i := i) h2 (by simpa using e)
    exact ⟨d', by simpa using e', h'⟩
theorem Reps.append : ∀ {ds es : List D} {vs us : List V}, Reps K Γ g H ds vs → Reps K Γ g H es us → Reps K Γ g H (ds ++ es) (vs ++ us)
  | [], _, _, _, h, h' => by simp only [Reps] at h; subst h; exact h'
  | d :: ds, es, _, us, h, h' => by
    simp only [Reps] at h
    obtain ⟨v, r, rfl, h1, h2⟩ := h
    show Reps K Γ g H (d :: (ds ++ es)) _
    simp only [Reps]
    exact ⟨v, r ++ us, rfl, h1, Reps.append h2 h'⟩
theorem Reps.nil : Reps K Γ g H [] [] := by simp only [Reps]
theorem Reps.cons {d : D} {ds : List D} {v : V} {vs : List V} (h : Rep K Γ g H d v) (h' : Reps K Γ g H ds vs) : Reps K Γ g H (d :: ds) (v :: vs) := by
  simp only [Reps]; exact ⟨v, vs, rfl, h, h'⟩
theorem Reps.drop : ∀ {ds : List D} {vs : List V} (n : Nat), Reps K Γ g H ds vs → Reps K Γ g H (ds.drop n) (vs.drop n)
  | _, _, 0, h => h
  | [], _, n + 1, h => by simp only [Reps] at h; subst h; simpa using Reps.nil
  | d :: ds, _, n + 1, h => by
    simp only [Reps] at h
    obtain ⟨v, r, rfl, _, h2⟩ := h
    exact Reps.drop n h2
theorem Reps.take : ∀ {ds : List D} {vs : List V} (n : Nat), Reps K Γ g H ds vs → Reps K Γ g H (ds.take n) (vs.take n)
  | _, _, 0, h => by simpa using Reps.nil
  | [], _, n + 1, h => by simp only [Reps] at h; subst h; simpa using Reps.nil
  | d :: ds, _, n + 1, h => by
    simp only [Reps] at h
    obtain ⟨v, r, rfl, h1, h2⟩ := h
    simpa using Reps.cons h1 (Reps.take n h2)
theorem Reps.set : ∀ {ds : List D} {vs : List V} (n : Nat) {d : D} {v : V}, Reps K Γ g H ds vs → Rep K Γ g H d v → Reps K Γ g H (ds.set n d) (vs.set n v)
  | [], _, n, _, _, h, _ => by simp only [Reps] at h; subst h; simpa using Reps.nil
  | d :: ds, _, 0, _, _, h, h' => by
    simp only [Reps] at h
    obtain ⟨v, r, rfl, h1, h2⟩ := h
    simpa using Reps.cons h' h2
  | d :: ds, _, n + 1, _, _, h, h' => by
    simp only [Reps] at h
    obtain ⟨v, r, rfl, h1, h2⟩ := h
    simpa using Reps.cons h1 (Reps.set n h2 h')
theorem Reps.reverse : ∀ {ds : List D} {vs : List V}, Reps K Γ g H ds vs → Reps K Γ g H ds.reverse vs.reverse
  | [], _, h => by simp only [Reps] at h; subst h; simpa using Reps.nil
  | d :: ds, _, h => by
    simp only [Reps] at h
    obtain ⟨v, r, rfl, h1, h2⟩ := h
    simpa using (Reps.reverse h2).append (Reps.cons h1 Reps.nil)
theorem Reps.dropLast {ds : List D} {vs : List V} (h : Reps K Γ g H ds vs) : Reps K Γ g H ds.dropLast vs.dropLast := by
  rw [List.dropLast_eq_take, List.dropLast_eq_take, h.length]; exact h.take _
end
theorem Rep.int_inv {K : PySem.W.Frag} {Γ : Gm} {g : Gh} {H : Hp} {i : Int} {v : V} (h : Rep K Γ g H (.int i) v) : v = .int i := by simpa only [Rep] using h
theorem Rep.bl_inv {K : PySem.W.Frag} {Γ : Gm} {g : Gh} {H : Hp} {i : Bool} {v : V} (h : Rep K Γ g H (.bl i) v) : v = .bl i := by simpa only [Rep] using h
theorem Rep.int {K : PySem.W.Frag} {Γ : Gm} {g : Gh} {H : Hp} (i : Int) : Rep K Γ g H (.int i) (.int i) := by simp only [Rep]
theorem Rep.bl {K : PySem.W.Frag} {Γ : Gm} {g : Gh} {H : Hp} (i : Bool) : Rep K Γ g H (.bl i) (.bl i) := by simp only [Rep]
theorem Rep.non {K : PySem.W.Frag} {Γ : Gm} {g : Gh} {H : Hp} : Rep K Γ g H .non .non := by simp only [Rep]
theorem Rep.str {K : PySem.W.Frag} {Γ : Gm} {g : Gh} {H : Hp} (cs : List Nat) : Rep K Γ g H (.str cs) (.str ⟨cs.toArray⟩) := by simp only [Rep]
theorem Rep.tup {K : PySem.W.Frag} {Γ : Gm} {g : Gh} {H : Hp} {ds : List D} {xs : List V} {a : Addr} (h : SqT K H a xs) (r : Reps K Γ g H ds xs) : Rep K Γ g H (.tup ds) (.ref a) := by simp only [Rep]; exact ⟨a, xs, rfl, h, r⟩
theorem Rep.lst {K : PySem.W.Frag} {Γ : Gm} {g : Gh} {H : Hp} {ds : List D} {xs : List V} {a : Addr} (f : g.fz a) (h : H a = some (.lst xs)) (r : Reps K Γ g H ds xs) : Rep K Γ g H (.lst ds) (.ref a) := by simp only [Rep]; exact ⟨a, xs, rfl, ⟨f, h⟩, r⟩

/-- an object of the store -/
def RepO (K : PySem.W.Frag) (Γ : Gm) (g : Gh) (H : Hp) (o : Ob) (a : Addr) : Prop :=
  ∃ C dx fs, Γ.cl o.cls = some C ∧ H a = some (.ins C dx fs) ∧ fs.map (·.1) = o.fs.map (·.1) ∧ Reps K Γ g H (o.fs.map (·.2)) (fs.map (·.2))
structure GOk (K : PySem.W.Frag) (Γ : Gm) (g : Gh) (S : Sto) (H : Hp) : Prop where
  cup : ∀ c, g.cup c → ¬ g.fz c ∧ c ∉ g.sto ∧ ∃ x y : Int, H c = some (.lst [.int x, .int y]) ∧ 0 ≤ x ∧ 0 ≤ y ∧ y < 2 ^ 40
  fz : ∀ b, g.fz b → ∃ xs, H b = some (.lst xs)
  len : g.sto.length = S.length
  nd : g.sto.Nodup
  sto : ∀ (i : Nat) (a : Addr) (o : Ob), g.sto[i]? = some a → S[i]? = some o → RepO K Γ g H o a

structure Ext (g : Gh) (H : Hp) (g' : Gh) (H' : Hp) : Prop where
  fz : ∀ b, g.fz b → g'.fz b
  fzn : ∀ b, g'.fz b → g.fz b ∨ H b = none
  cup : ∀ c, g.cup c → g'.cup c
  cupn : ∀ c, g'.cup c → g.cup c ∨ H c = none
  sto : ∃ l, g'.sto = g.sto ++ l ∧ ∀ b ∈ l, H b = none
  keep : ∀ b o, H b = some o → ¬ g.mut b → H' b = some o
  trk : ∀ b, H' b = none → H b = none
section
variable {K : PySem.W.Frag} {Γ : Gm} {g g1 g2 : Gh} {S S1 : Sto} {H H1 H2 : Hp}
theorem Ext.refl (g : Gh) (H : Hp) : Ext g H g H := ⟨fun _ h => h, fun _ h => .inl h, fun _ h => h, fun _ h => .inl h, ⟨[], by simp, fun _ h => by simp at h⟩, fun _ _ h _ => h, fun _ h => h⟩
theorem Ext.nomut (e : Ext g H g1 H1) {b : Addr} {o : HO} (h : H b = some o) (n : ¬ g.mut b) : ¬ g1.mut b := by
  rintro (c | c)
  · rcases e.cupn b c with c | c
    · exact n (.inl c)
    · rw [h] at c; cases c
  · obtain ⟨l, el, hl⟩ := e.sto
    rw [el] at c
    rcases List.mem_append.mp c with c | c
    · exact n (.inr c)
    · have := hl b c; rw [h] at this; cases this
theorem Ext.trans (e : Ext g H g1 H1) (f : Ext g1 H1 g2 H2) : Ext g H g2 H2 where
  fz := fun b h => f.fz b (e.fz b h)
  fzn := fun b h => by
    rcases f.fzn b h with h | h
    · exact e.fzn b h
    · exact .inr (e.trk b h)
  cup := fun c h => f.cup c (e.cup c h)
  cupn := fun c h => by
    rcases f.cupn c h with h | h
    · exact e.cupn c h
    · exact .inr (e.trk c h)
  sto := by
    obtain ⟨l, h1, h2⟩ := e.sto
    obtain ⟨l', h3, h4⟩ := f.sto
    refine ⟨l ++ l', by rw [h3, h1, List.append_assoc], fun b hb => ?_⟩
    rcases List.mem_append.mp hb with hb | hb
    · exact h2 b hb
    · exact e.trk b (h4 b hb)
  keep := fun b o h n => f.keep b o (e.keep b o h n) (e.nomut h n)
  trk := fun b h => e.trk b (f.trk b h)
theorem GOk.nomut (ok : GOk K Γ g S H) {b : Addr} {o : HO} (h : H b = some o) (h1 : ∀ x y : Int, o ≠ .lst [.int x, .int y]) (h2 : ∀ C dx fs, o ≠ .ins C dx fs) : ¬ g.mut b := by
  rintro (c | c)
  · obtain ⟨_, _, x, y, e, _⟩ := ok.cup b c
    rw [h] at e
    exact h1 x y (Option.some.inj e)
  · obtain ⟨i, hi, e⟩ := List.getElem_of_mem c
    have e' : g.sto[i]? = some b := by rw [List.getElem?_eq_getElem hi, e]
    have hl : i < S.length := by rw [← ok.len]; exact hi
    obtain ⟨C, dx, fs, _, e2, _⟩ := ok.sto i b S[i] e' (by simp [hl])
    rw [h] at e2
    exact h2 C dx fs (Option.some.inj e2)
theorem GOk.nomutF (ok : GOk K Γ g S H) {b : Addr} (h : g.fz b) : ¬ g.mut b := by
  rintro (c | c)
  · exact (ok.cup b c).1 h
  · obtain ⟨i, hi, e⟩ := List.getElem_of_mem c
    have e' : g.sto[i]? = some b := by rw [List.getElem?_eq_getElem hi, e]
    have hl : i < S.length := by rw [← ok.len]; exact hi
    obtain ⟨C, dx, fs, _, e2, _⟩ := ok.sto i b S[i] e' (by simp [hl])
    obtain ⟨xs, e3⟩ := ok.fz b h
    rw [e3] at e2; cases e2
theorem Ext.mono (e : Ext g H g1 H1) (ok : GOk K Γ g S H) : Mono g H g1 H1 where
  fz := e.fz
  lst := fun b xs hf h => e.keep b _ h (ok.nomutF hf)
  tup := fun b xs h => e.keep b _ h (ok.nomut h (by simp) (by simp))
  frz := fun b o xs h => e.keep b _ h (ok.nomut h (by simp) (by simp))
  rng := fun b lo hi h => e.keep b _ h (ok.nomut h (by simp) (by simp))
  cup := e.cup
  sto := fun i a h => by
    obtain ⟨l, el, _⟩ := e.sto
    rw [el, List.getElem?_append_left (List.getElem?_eq_some_iff.mp h).1]
    exact h
theorem RepO.mono {g' : Gh} {H' : Hp} {o : Ob} {a : Addr} (h : RepO K Γ g H o a) (m : Mono g H g' H') (k : H' a = H a) : RepO K Γ g' H' o a := by
  obtain ⟨C, dx, fs, h1, h2, h3, h4⟩ := h
  exact ⟨C, dx, fs, h1, by rw [k]; exact h2, h3, Reps.mono m h4⟩
/-- a new object that is no part of the ghosts -/
theorem Ext.new {p : Addr} {o : HO} (h : H p = none) : Ext g H g (upd H p o) :=
  ⟨fun _ h => h, fun _ h => .inl h, fun _ h => h, fun _ h => .inl h, ⟨[], by simp, fun _ h => by simp at h⟩, fun b u e _ => by rw [upd_ne (ne_of_none e h)]; exact e, fun b e => by
    by_cases hb : b = p
    · subst hb; exact h
    · rwa [upd_ne hb] at e⟩
theorem GOk.new {p : Addr} {o : HO} (ok : GOk K Γ g S H) (h : H p = none) : GOk K Γ g S (upd H p o) where
  cup := fun c hc => by
    obtain ⟨h1, h2, x, y, e, r⟩ := ok.cup c hc
    exact ⟨h1, h2, x, y, by rw [upd_ne (ne_of_none e h)]; exact e, r⟩
  fz := fun b hb => by
    obtain ⟨xs, e⟩ := ok.fz b hb
    exact ⟨xs, by rw [upd_ne (ne_of_none e h)]; exact e⟩
  len := ok.len
  nd := ok.nd
  sto := fun i a ob h1 h2 => by
    have r := ok.sto i a ob h1 h2
    have r' := r
    obtain ⟨C, dx, fs, _, e, _⟩ := r'
    exact r.mono ((Ext.new h).mono ok) (upd_ne (ne_of_none e h))
/-- a new list that is never changed -/
theorem Ext.newF {p : Addr} {o : HO} (h : H p = none) : Ext g H (g.add p) (upd H p o) :=
  ⟨fun _ h => .inl h, fun b hb => hb.elim .inl fun e => .inr (by rw [e]; exact h), fun _ h => h, fun _ h => .inl h, ⟨[], by simp [Gh.add], fun _ h => by simp at h⟩, fun b u e _ => by rw [upd_ne (ne_of_none e h)]; exact e, fun b e => by
    by_cases hb : b = p
    · subst hb; exact h
    · rwa [upd_ne hb] at e⟩
theorem Mono.add (g : Gh) (H : Hp) (p : Addr) : Mono g H (g.add p) H := ⟨fun _ h => .inl h, fun _ _ _ h => h, fun _ _ h => h, fun _ _ _ h => h, fun _ _ _ h => h, fun _ h => h, fun _ _ h => h⟩
theorem GOk.newF {p : Addr} {xs : List V} (ok : GOk K Γ g S H) (h : H p = none) : GOk K Γ (g.add p) S (upd H p (.lst xs)) where
  cup := fun c hc => by
    obtain ⟨h1, h2, x, y, e, r⟩ := ok.cup c hc
    refine ⟨?_, h2, x, y, by rw [upd_ne (ne_of_none e h)]; exact e, r⟩
    rintro (z | z)
    · exact h1 z
    · exact ne_of_none e h z
  fz := fun b hb => by
    rcases hb with hb | rfl
    · obtain ⟨xs, e⟩ := ok.fz b hb
      exact ⟨xs, by rw [upd_ne (ne_of_none e h)]; exact e⟩
    · exact ⟨_, upd_same⟩
  len := ok.len
  nd := ok.nd
  sto := fun i a ob h1 h2 => by
    have r := ok.sto i a ob h1 h2
    have r' := r
    obtain ⟨C, dx, fs, _, e, _⟩ := r'
    exact r.mono ((Ext.newF h).mono ok) (upd_ne (ne_of_none e h))
end

/-! ## slots -/
inductive Slot where
  | emp | val (d : D) | own (ds : List D) | own2 (dss : List (List D))
abbrev Slots := List Slot
def RepB (K : PySem.W.Frag) (Γ : Gm) (g : Gh) (H : Hp) : List (List D) → List Addr → Prop
  | [], bs => bs = []
  | ds :: r, bs => ∃ b t, bs = b :: t ∧ (∃ xs, H b = some (.lst xs) ∧ Reps K Γ g H ds xs) ∧ RepB K Γ g H r t
def RSl (K : PySem.W.Frag) (Γ : Gm) (g : Gh) (H : Hp) : Slot → Option V → List Addr → Prop
  | .emp, _, as => as = []
  | .val d, o, as => as = [] ∧ ∃ v, o = some v ∧ Rep K Γ g H d v
  | .own ds, o, as => ∃ a xs, o = some (.ref a) ∧ H a = some (.lst xs) ∧ Reps K Γ g H ds xs ∧ as = [a]
  | .own2 dss, o, as => ∃ a bs, o = some (.ref a) ∧ H a = some (.lst (bs.map V.ref)) ∧ RepB K Γ g H dss bs ∧ as = a :: bs
def RSs (K : PySem.W.Frag) (Γ : Gm) (g : Gh) (H : Hp) : Slots → St → List (List Addr) → Prop
  | [], σ, as => σ = [] ∧ as = []
  | x :: r, σ, as => ∃ o t a b, σ = o :: t ∧ as = a :: b ∧ RSl K Γ g H x o a ∧ RSs K Γ g H r t b
structure RS (K : PySem.W.Frag) (Γ : Gm) (g0 : Gh) (H0 : Hp) (g : Gh) (S : Sto) (H : Hp) (σd : Slots) (σ : St) : Prop where
  ok : GOk K Γ g S H
  ext : Ext g0 H0 g H
  sl : ∃ as, RSs K Γ g H σd σ as ∧ as.flatten.Nodup ∧ ∀ b ∈ as.flatten, ¬ g.fz b ∧ ¬ g.mut b ∧ H0 b = none
section
variable {K : PySem.W.Frag} {Γ : Gm} {g0 g g1 g2 : Gh} {S S1 : Sto} {H0 H H1 H2 : Hp} {σd : Slots} {σ : St}
theorem RepB.mono {g' : Gh} {H' : Hp} (m : Mono g H g' H') : ∀ {dss : List (List D)} {bs : List Addr}, (∀ b ∈ bs, H' b = H b) → RepB K Γ g H dss bs → RepB K Γ g' H' dss bs
  | [], _, _, h => h
  | ds :: r, _, k, h => by
    obtain ⟨b, t, rfl, ⟨xs, e, h1⟩, h2⟩ := h
    exact ⟨b, t, rfl, ⟨xs, by rw [k b (by simp)]; exact e, h1.mono m⟩, RepB.mono m (fun b hb => k b (by simp [hb])) h2⟩
theorem RepB.trk : ∀ {dss : List (List D)} {bs : List Addr}, RepB K Γ g H dss bs → ∀ b ∈ bs, ∃ xs, H b = some (.lst xs)
  | [], _, h, b, hb => by cases (show _ = [] from h); simp at hb
  | ds :: r, _, h, b, hb => by
    obtain ⟨c, t, rfl, ⟨xs, e, h1⟩, h2⟩ := h
    rcases List.mem_cons.mp hb with rfl | hb
    · exact ⟨xs, e⟩
    · exact RepB.trk h2 b hb
theorem RSl.mono {g' : Gh} {H' : Hp} (m : Mono g H g' H') {x : Slot} {o : Option V} {as : List Addr} (k : ∀ b ∈ as, H' b = H b) (h : RSl K Γ g H x o as) : RSl K Γ g' H' x o as := by
  cases x with
  | emp => exact h
  | val d =>
    obtain ⟨h0, v, h1, h2⟩ := h
    exact ⟨h0, v, h1, h2.mono m⟩
  | own ds =>
    obtain ⟨a, xs, h1, h2, h3, rfl⟩ := h
    exact ⟨a, xs, h1, by rw [k a (by simp)]; exact h2, h3.mono m, rfl⟩
  | own2 dss =>
    obtain ⟨a, bs, h1, h2, h3, rfl⟩ := h
    exact ⟨a, bs, h1, by rw [k a (by simp)]; exact h2, h3.mono m fun b hb => k b (by simp [hb]), rfl⟩
theorem RSl.trk {x : Slot} {o : Option V} {as : List Addr} (h : RSl K Γ g H x o as) : ∀ b ∈ as, ∃ xs, H b = some (.lst xs) := by
  intro b hb
  cases x with
  | emp => cases (show as = [] from h); simp at hb
  | val d => cases h.1; simp at hb
  | own ds =>
    obtain ⟨a, xs, h1, h2, h3, rfl⟩ := h
    simp at hb; subst hb; exact ⟨xs, h2⟩
  | own2 dss =>
    obtain ⟨a, bs, h1, h2, h3, rfl⟩ := h
    rcases List.mem_cons.mp hb with rfl | hb
    · exact ⟨_, h2⟩
    · exact h3.trk b hb
theorem RSs.mono {g' : Gh} {H' : Hp} (m : Mono g H g' H') : ∀ {σd : Slots} {σ : St} {as : List (List Addr)}, (∀ b ∈ as.flatten, H' b = H b) → RSs K Γ g H σd σ as → RSs K Γ g' H' σd σ as
  | [], _, _, _, h => h
  | x :: r, _, _, k, h => by
    obtain ⟨o, t, a, b, rfl, rfl, h1, h2⟩ := h
    exact ⟨o, t, a, b, rfl, rfl, h1.mono m fun c hc => k c (by simp [hc]), RSs.mono m (fun c hc => k c (by simp only [List.flatten_cons, List.mem_append]; exact .inr hc)) h2⟩
theorem RSs.trk : ∀ {σd : Slots} {σ : St} {as : List (List Addr)}, RSs K Γ g H σd σ as → ∀ b ∈ as.flatten, ∃ xs, H b = some (.lst xs)
  | [], _, _, h, b, hb => by cases h.2; simp at hb
  | x :: r, _, _, h, b, hb => by
    obtain ⟨o, t, a, b', rfl, rfl, h1, h2⟩ := h
    rw [List.flatten_cons, List.mem_append] at hb
    rcases hb with hb | hb
    · exact h1.trk b hb
    · exact RSs.trk h2 b hb
theorem RSs.length : ∀ {σd : Slots} {σ : St} {as : List (List Addr)}, RSs K Γ g H σd σ as → σ.length = σd.length ∧ as.length = σd.length
  | [], _, _, h => by cases h.1; cases h.2; exact ⟨rfl, rfl⟩
  | x :: r, _, _, h => by
    obtain ⟨o, t, a, b', rfl, rfl, h1, h2⟩ := h
    have := RSs.length h2
    simp [this.1, this.2]
theorem RSs.get : ∀ {σd : Slots} {σ : St} {as : List (List Addr)} {i : Nat} {x : Slot}, RSs K Γ g H σd σ as → σd[i]? = some x → ∃ o a, σ[i]? = some o ∧ as[i]? = some a ∧ RSl K Γ g H x o a
  | [], _, _, i, x, h, e => by simp at e
  | x :: r, _, _, 0, y, h, e => by
    obtain ⟨o, t, a, b', rfl, rfl, h1, h2⟩ := h
    simp at e; subst e
    exact ⟨o, a, rfl, rfl, h1⟩
  | x :: r, _, _, i + 1, y, h, e => by
    obtain ⟨o, t, a, b', rfl, rfl, h1, h2⟩ := h
    simp at e
    obtain ⟨o', a', e1, e2, h3⟩ := RSs.get (i := i) h2 e
    exact ⟨o', a', by simpa using e1, by simpa using e2, h3⟩
theorem RSs.set : ∀ {σd : Slots} {σ : St} {as : List (List Addr)} (i : Nat) {x : Slot} {o : Option V} {a : List Addr}, RSs K Γ g H σd σ as → RSl K Γ g H x o a → RSs K Γ g H (σd.set i x) (σ.set i o) (as.set i a)
  | [], _, _, i, _, _, _, h, _ => by cases h.1; cases h.2; exact ⟨by simp, by simp⟩
  | x :: r, _, _, 0, _, _, _, h, h' => by
    obtain ⟨o, t, a, b', rfl, rfl, h1, h2⟩ := h
    exact ⟨_, _, _, _, rfl, rfl, h', h2⟩
  | x :: r, _, _, i + 1, _, _, _, h, h' => by
    obtain ⟨o, t, a, b', rfl, rfl, h1, h2⟩ := h
    exact ⟨_, _, _, _, rfl, rfl, h1, RSs.set i h2 h'⟩
theorem RS.len (rs : RS K Γ g0 H0 g S H σd σ) : σ.length = σd.length := let ⟨_, h, _⟩ := rs.sl; h.length.1
/-- behind an expression -/
theorem RS.mono (rs : RS K Γ g0 H0 g S H σd σ) (e : Ext g H g1 H1) (ok : GOk K Γ g1 S1 H1) : RS K Γ g0 H0 g1 S1 H1 σd σ := by
  obtain ⟨ok0, e0, as, h1, h2, h3⟩ := rs
  have trk := h1.trk
  refine ⟨ok, e0.trans e, as, h1.mono (e.mono ok0) fun b hb => ?_, h2, fun b hb => ?_⟩
  · obtain ⟨xs, z⟩ := trk b hb
    rw [z]
    exact e.keep b _ z (h3 b hb).2.1
  · obtain ⟨xs, z⟩ := trk b hb
    obtain ⟨n1, n2, n3⟩ := h3 b hb
    refine ⟨fun f => ?_, e.nomut z n2, n3⟩
    rcases e.fzn b f with f | f
    · exact n1 f
    · rw [z] at f; cases f
theorem RS.val (rs : RS K Γ g0 H0 g S H σd σ) {i : Nat} {d : D} (h : σd[i]? = some (.val d)) : ∃ v, σ[i]? = some (some v) ∧ Rep K Γ g H d v := by
  obtain ⟨as, h1, _⟩ := rs.sl
  obtain ⟨o, a, e1, _, _, v, e2, r⟩ := h1.get h
  subst e2
  exact ⟨v, e1, r⟩
end
theorem mem_flatten_set {as : List (List Addr)} {i : Nat} {a : List Addr} {b : Addr} (h : b ∈ (as.set i a).flatten) : b ∈ a ∨ b ∈ as.flatten := by
  rw [List.mem_flatten] at h
  obtain ⟨l, hl, hb⟩ := h
  rcases List.mem_or_eq_of_mem_set hl with hl | rfl
  · exact .inr (List.mem_flatten.mpr ⟨l, hl, hb⟩)
  · exact .inl hb
theorem nodup_flatten_set : ∀ {as : List (List Addr)} {i : Nat} {a : List Addr}, as.flatten.Nodup → a.Nodup → (∀ b ∈ a, ∀ j l, j ≠ i → as[j]? = some l → b ∉ l) → (as.set i a).flatten.Nodup
  | [], _, _, _, _, _ => by simp
  | x :: r, 0, a, h, ha, hd => by
    rw [List.set_cons_zero, List.flatten_cons]
    rw [List.flatten_cons] at h
    obtain ⟨_, h2, _⟩ := List.nodup_append.mp h
    refine List.nodup_append.mpr ⟨ha, h2, fun b hb c hc e => ?_⟩
    subst e
    obtain ⟨l, hl, hbl⟩ := List.mem_flatten.mp hc
    obtain ⟨j, hj, e⟩ := List.getElem_of_mem hl
    exact hd b hb (j + 1) l (by omega) (by simp [List.getElem?_eq_getElem hj, e]) hbl
  | x :: r, i + 1, a, h, ha, hd => by
    rw [List.set_cons_succ, List.flatten_cons]
    rw [List.flatten_cons] at h
    obtain ⟨h1, h2, h3⟩ := List.nodup_append.mp h
    refine List.nodup_append.mpr ⟨h1, nodup_flatten_set h2 ha fun b hb j l hj e => hd b hb (j + 1) l (by omega) (by simpa using e), fun b hb c hc e => ?_⟩
    subst e
    rcases mem_flatten_set hc with hc | hc
    · exact hd b hc 0 x (by omega) rfl hb
    · exact h3 b hb b hc rfl
/-- addresses of unlike slots are unlike -/
theorem flatten_apart : ∀ {as : List (List Addr)} {i j : Nat} {l m : List Addr} {b : Addr}, as.flatten.Nodup → as[i]? = some l → as[j]? = some m → i ≠ j → b ∈ l → b ∉ m
  | [], i, j, l, m, b, _, h, _, _, _ => by simp at h
  | x :: r, 0, 0, l, m, b, _, _, _, n, _ => absurd rfl n
  | x :: r, 0, j + 1, l, m, b, h, h1, h2, _, hb => by
    rw [List.flatten_cons] at h
    simp at h1 h2; subst h1
    exact fun hm => (List.nodup_append.mp h).2.2 b hb b (List.mem_flatten.mpr ⟨m, List.mem_of_getElem? h2, hm⟩) rfl
  | x :: r, i + 1, 0, l, m, b, h, h1, h2, _, hb => by
    rw [List.flatten_cons] at h
    simp at h1 h2; subst h2
    exact fun hm => (List.nodup_append.mp h).2.2 b hm b (List.mem_flatten.mpr ⟨l, List.mem_of_getElem? h1, hb⟩) rfl
  | x :: r, i + 1, j + 1, l, m, b, h, h1, h2, n, hb => by
    rw [List.flatten_cons] at h
    simp at h1 h2
    exact flatten_apart (List.nodup_append.mp h).2.1 h1 h2 (by omega) hb
section
variable {K : PySem.W.Frag} {Γ : Gm} {g0 g g1 g2 : Gh} {S S1 : Sto} {H0 H H1 H2 : Hp} {σd : Slots} {σ : St}
/-- a slot gets a value -/
theorem RS.set (rs : RS K Γ g0 H0 g S H σd σ) (i : Nat) {d : D} {v : V} (r : Rep K Γ g H d v) : RS K Γ g0 H0 g S H (σd.set i (.val d)) (σ.set i (some v)) := by
  obtain ⟨ok, e0, as, h1, h2, h3⟩ := rs
  exact ⟨ok, e0, as.set i [], h1.set i ⟨rfl, v, rfl, r⟩, nodup_flatten_set h2 List.nodup_nil fun b hb => by simp at hb, fun b hb => by
    rcases mem_flatten_set hb with hb | hb
    · simp at hb
    · exact h3 b hb⟩
theorem RS.wipe1 (rs : RS K Γ g0 H0 g S H σd σ) (i : Nat) : RS K Γ g0 H0 g S H (σd.set i .emp) (σ.set i none) := by
  obtain ⟨ok, e0, as, h1, h2, h3⟩ := rs
  exact ⟨ok, e0, as.set i [], h1.set i rfl, nodup_flatten_set h2 List.nodup_nil fun b hb => by simp at hb, fun b hb => by
    rcases mem_flatten_set hb with hb | hb
    · simp at hb
    · exact h3 b hb⟩
end
end KT
namespace KT
open PySem PySem.Spec PyProof.Rows L2

/-! ## judgements -/
def RepX (K : PySem.W.Frag) (Γ : Gm) (g : Gh) (H : Hp) (c : Nat) (as : List D) (cv : Value) (dv : Option Addr) : Prop :=
  ∃ C, Γ.cl c = some C ∧ cv = .ref C ∧ match dv with
    | none => as = []
    | some d => ∃ fs, H d = some (.xd fs) ∧ fs.map (·.1) = Γ.fl c ∧ Reps K Γ g H as (fs.map (·.2))
def PQ (K : PySem.W.Frag) (Γ : Gm) (g : Gh) (H : Hp) (Q : VK) : D → Sto → Prop := fun d S' => ∀ v g' H', Ext g H g' H' → GOk K Γ g' S' H' → Rep K Γ g' H' d v → Q v H'
def PQs (K : PySem.W.Frag) (Γ : Gm) (g : Gh) (H : Hp) (Q : List V → Hp → Prop) : List D → Sto → Prop := fun d S' => ∀ v g' H', Ext g H g' H' → GOk K Γ g' S' H' → Reps K Γ g' H' d v → Q v H'
def PQb (K : PySem.W.Frag) (Γ : Gm) (g : Gh) (H : Hp) (Q : Bool → Hp → Prop) : Bool → Sto → Prop := fun b S' => ∀ g' H', Ext g H g' H' → GOk K Γ g' S' H' → Q b H'
def PX (K : PySem.W.Frag) (Γ : Gm) (g : Gh) (H : Hp) (E : XK) : Nat → List D → Sto → Prop := fun c as S' => ∀ cv dv g' H', Ext g H g' H' → GOk K Γ g' S' H' → RepX K Γ g' H' c as cv dv → E cv dv H'
structure SE (X : Cx) (Γ : Gm) (E : XK) (e : Expr) (m : Slots → T D) : Prop where
  ex : ∃ t, PE X e t ∧ ∀ g0 H0 σd σ g S H Q, RS X.K Γ g0 H0 g S H σd σ → W (m σd) (PQ X.K Γ g H Q) (PX X.K Γ g H E) S → t σ H Q
structure SA (X : Cx) (Γ : Gm) (E : XK) (es : List Expr) (m : Slots → T (List D)) : Prop where
  ex : ∃ t, PA X es t ∧ ∀ g0 H0 σd σ g S H Q, RS X.K Γ g0 H0 g S H σd σ → W (m σd) (PQs X.K Γ g H Q) (PX X.K Γ g H E) S → t σ H Q
structure ST (X : Cx) (Γ : Gm) (E : XK) (e : Expr) (m : Slots → T Bool) : Prop where
  ex : ∃ t, PT X e t ∧ ∀ g0 H0 σd σ g S H Q, RS X.K Γ g0 H0 g S H σd σ → W (m σd) (PQb X.K Γ g H Q) (PX X.K Γ g H E) S → t σ H Q
/-- a test of and, or: whatever its whole -/
structure SW (X : Cx) (Γ : Gm) (E : XK) (e : Expr) (m : Slots → T Bool) : Prop where
  ex : ∃ t, PW X e t ∧ ∀ g0 H0 σd σ g S H Q, RS X.K Γ g0 H0 g S H σd σ → W (m σd) (PQb X.K Γ g H Q) (PX X.K Γ g H E) S → t σ H Q
section
variable {K : PySem.W.Frag} {Γ : Gm} {g0 g g1 : Gh} {S S1 : Sto} {H0 H H1 : Hp} {σd : Slots} {σ : St}
theorem PQ.ext {Q : VK} (e : Ext g H g1 H1) {d : D} {s : Sto} (h : PQ K Γ g H Q d s) : PQ K Γ g1 H1 Q d s := fun v g' H' e' => h v g' H' (e.trans e')
theorem PQs.ext {Q : List V → Hp → Prop} (e : Ext g H g1 H1) {d : List D} {s : Sto} (h : PQs K Γ g H Q d s) : PQs K Γ g1 H1 Q d s := fun v g' H' e' => h v g' H' (e.trans e')
theorem PQb.ext {Q : Bool → Hp → Prop} (e : Ext g H g1 H1) {d : Bool} {s : Sto} (h : PQb K Γ g H Q d s) : PQb K Γ g1 H1 Q d s := fun g' H' e' => h g' H' (e.trans e')
theorem PX.ext {E : XK} (e : Ext g H g1 H1) {c : Nat} {as : List D} {s : Sto} (h : PX K Γ g H E c as s) : PX K Γ g1 H1 E c as s := fun cv dv g' H' e' => h cv dv g' H' (e.trans e')
/-- a property of a reading, used ahead of more -/
abbrev PropE (K : PySem.W.Frag) (Γ : Gm) (E : XK) (m : Slots → T D) (t : TE) : Prop := ∀ g0 H0 σd σ g S H Q, RS K Γ g0 H0 g S H σd σ → W (m σd) (PQ K Γ g H Q) (PX K Γ g H E) S → t σ H Q
abbrev PropA (K : PySem.W.Frag) (Γ : Gm) (E : XK) (m : Slots → T (List D)) (t : TA) : Prop := ∀ g0 H0 σd σ g S H Q, RS K Γ g0 H0 g S H σd σ → W (m σd) (PQs K Γ g H Q) (PX K Γ g H E) S → t σ H Q
abbrev PropT (K : PySem.W.Frag) (Γ : Gm) (E : XK) (m : Slots → T Bool) (t : TT) : Prop := ∀ g0 H0 σd σ g S H Q, RS K Γ g0 H0 g S H σd σ → W (m σd) (PQb K Γ g H Q) (PX K Γ g H E) S → t σ H Q
theorem useE {E : XK} {m : Slots → T D} {t : TE} (h : PropE K Γ E m t) (rs : RS K Γ g0 H0 g S H σd σ) {α : Type} {f : D → T α} {P : α → Sto → Prop} {Px : Nat → List D → Sto → Prop} (w : W ((m σd).bind f) P Px S)
    (hx : ∀ c as s, Px c as s → PX K Γ g H E c as s) {Q : VK} (k : ∀ d S1 v g1 H1, Ext g H g1 H1 → RS K Γ g0 H0 g1 S1 H1 σd σ → Rep K Γ g1 H1 d v → W (f d) P Px S1 → Q v H1) : t σ H Q :=
  h _ _ _ _ _ _ _ _ rs (W_mono _ (fun d s1 w1 v g1 H1 e ok r => k d s1 v g1 H1 e (rs.mono e ok) r w1) hx (W_bind _ _ |>.mp w))
theorem useA {E : XK} {m : Slots → T (List D)} {t : TA} (h : PropA K Γ E m t) (rs : RS K Γ g0 H0 g S H σd σ) {α : Type} {f : List D → T α} {P : α → Sto → Prop} {Px : Nat → List D → Sto → Prop} (w : W ((m σd).bind f) P Px S)
    (hx : ∀ c as s, Px c as s → PX K Γ g H E c as s) {Q : List V → Hp → Prop} (k : ∀ d S1 v g1 H1, Ext g H g1 H1 → RS K Γ g0 H0 g1 S1 H1 σd σ → Reps K Γ g1 H1 d v → W (f d) P Px S1 → Q v H1) : t σ H Q :=
  h _ _ _ _ _ _ _ _ rs (W_mono _ (fun d s1 w1 v g1 H1 e ok r => k d s1 v g1 H1 e (rs.mono e ok) r w1) hx (W_bind _ _ |>.mp w))
theorem useT {E : XK} {m : Slots → T Bool} {t : TT} (h : PropT K Γ E m t) (rs : RS K Γ g0 H0 g S H σd σ) {α : Type} {f : Bool → T α} {P : α → Sto → Prop} {Px : Nat → List D → Sto → Prop} (w : W ((m σd).bind f) P Px S)
    (hx : ∀ c as s, Px c as s → PX K Γ g H E c as s) {Q : Bool → Hp → Prop} (k : ∀ b S1 g1 H1, Ext g H g1 H1 → RS K Γ g0 H0 g1 S1 H1 σd σ → W (f b) P Px S1 → Q b H1) : t σ H Q :=
  h _ _ _ _ _ _ _ _ rs (W_mono _ (fun d s1 w1 g1 H1 e ok => k d s1 g1 H1 e (rs.mono e ok) w1) hx (W_bind _ _ |>.mp w))
theorem weakE {α : Type} {m : T α} {P P' : α → Sto → Prop} {E : XK} (e : Ext g H g1 H1) (w : W m P (PX K Γ g H E) S) (hp : ∀ a s, P a s → P' a s) : W m P' (PX K Γ g1 H1 E) S := W_mono _ hp (fun _ _ _ h => h.ext e) w
end

/-! ## names and constants -/
def mVar (i : Nat) (σ : Slots) : T D := match σ[i]? with
  | some (.val d) => .ret d
  | _ => .bad
def mC (d : D) (_ : Slots) : T D := .ret d
section
variable {X : Cx} {Γ : Gm} {E : XK} {pos : Pos} {a b e : Expr} {ma mb mc : Slots → T D}
theorem se_var (i : Nat) {x : Str} (hN : X.N[i]? = some x := by rfl) (hv : Vis X.env.scope x := by first | exact Or.inl rfl | exact Or.inr (Or.inl rfl) | exact Or.inr (Or.inr rfl)) (hd : (x == ("__debug__" : Str)) = false := by decide)
    (hcd : (x == ("__classdict__" : Str)) = false := by decide) : SE X Γ E (.Name x pos) (mVar i) := by
  refine ⟨_, pe_var hN hv hd hcd, fun g0 H0 σd σ g S H Q rs w => ?_⟩
  unfold mVar at w
  split at w
  · rename_i d h
    obtain ⟨v, e1, r⟩ := rs.val h
    exact ⟨v, e1, w v g H (Ext.refl g H) rs.ok r⟩
  · exact w.elim
theorem se_int {i : Int} {j : Nat} : SE X Γ E (.Constant (.int i) j pos) (mC (.int i)) := ⟨_, pe_int, fun g0 H0 σd σ g S H Q rs w => w _ g H (Ext.refl g H) rs.ok (Rep.int i)⟩
theorem se_bl {i : Bool} {j : Nat} : SE X Γ E (.Constant (.bool i) j pos) (mC (.bl i)) := ⟨_, pe_bl, fun g0 H0 σd σ g S H Q rs w => w _ g H (Ext.refl g H) rs.ok (Rep.bl i)⟩
theorem se_non {j : Nat} : SE X Γ E (.Constant .none j pos) (mC .non) := ⟨_, pe_non, fun g0 H0 σd σ g S H Q rs w => w _ g H (Ext.refl g H) rs.ok Rep.non⟩
theorem se_str {x : Str} {cs : List Nat} {j : Nat} (h : x = ⟨cs.toArray⟩) : SE X Γ E (.Constant (.str x) j pos) (mC (.str cs)) := ⟨_, pe_str, fun g0 H0 σd σ g S H Q rs w => w _ g H (Ext.refl g H) rs.ok (by rw [h]; exact Rep.str cs)⟩
/-- a module's constant that is an int -/
theorem se_gint {x : Str} {i : Int} {t : Tok} (hm : X.mg x = some (.int i t)) (hg : Gl X x := by rfl) (hd : (x == ("__debug__" : Str)) = false := by decide) : SE X Γ E (.Name x pos) (mC (.int i)) :=
  ⟨_, pe_glob (v := .int i) hg hm ⟨t, rfl⟩ hd, fun g0 H0 σd σ g S H Q rs w => w _ g H (Ext.refl g H) rs.ok (Rep.int i)⟩

/-! ## operations by values -/
def OpD (X : Cx) (Γ : Gm) (E : XK) (r : R2) (op : D → D → T D) : Prop :=
  ∀ g S H d e x y Q, GOk X.K Γ g S H → Rep X.K Γ g H d x → Rep X.K Γ g H e y → W (op d e) (PQ X.K Γ g H Q) (PX X.K Γ g H E) S → r x y H Q
def mBin (op : D → D → T D) (ma mb : Slots → T D) (σ : Slots) : T D := (ma σ).bind fun x => (mb σ).bind fun y => op x y
theorem prop_bin {r : R2} {op : D → D → T D} {ta tb : TE} (ho : OpD X Γ E r op) (pa : PropE X.K Γ E ma ta) (pb : PropE X.K Γ E mb tb) : PropE X.K Γ E (mBin op ma mb) (tOp r ta tb) := fun g0 H0 σd σ g S H Q rs w =>
  useE pa rs w (fun _ _ _ h => h) fun d S1 v g1 H1 e1 rs1 r1 w1 => useE pb rs1 w1 (fun _ _ _ h => h.ext e1) fun d' S2 v' g2 H2 e2 rs2 r2 w2 =>
    ho g2 S2 H2 d d' v v' Q rs2.ok (r1.mono (e2.mono rs1.ok)) r2 (weakE (e1.trans e2) w2 fun _ _ h => h.ext (e1.trans e2))
theorem se_bin {o : Operator} {r : R2} {op : D → D → T D} (ho : OpR X (binaryOp o) r) (hd : OpD X Γ E r op) (ha : SE X Γ E a ma) (hb : SE X Γ E b mb) : SE X Γ E (.BinOp a o b pos) (mBin op ma mb) := by
  obtain ⟨ta, pa, qa⟩ := ha
  obtain ⟨tb, pb, qb⟩ := hb
  exact ⟨_, pe_op ho pa pb, prop_bin hd qa qb⟩
theorem se_cmp {o : CmpOp} {r : R2} {op : D → D → T D} (ho : OpR X (compareOp o) r) (hd : OpD X Γ E r op) (hm : behindInMarks o b = false) (ha : SE X Γ E a ma) (hb : SE X Γ E b mb) : SE X Γ E (.Compare a [o] [b] pos) (mBin op ma mb) := by
  obtain ⟨ta, pa, qa⟩ := ha
  obtain ⟨tb, pb, qb⟩ := hb
  exact ⟨_, pe_cmpR ho pa pb hm, prop_bin hd qa qb⟩
def toB : D → T Bool
  | .bl b => .ret b
  | _ => .bad
def mB (m : Slots → T D) (σ : Slots) : T Bool := (m σ).bind toB
theorem prop_test {t : TE} (pa : PropE X.K Γ E ma t) : PropT X.K Γ E (mB ma) (tTest t) := fun g0 H0 σd σ g S H Q rs w =>
  useE pa rs w (fun _ _ _ h => h) fun d S1 v g1 H1 e1 rs1 r1 w1 => by
    unfold toB at w1
    split at w1
    · exact ⟨_, r1.bl_inv, w1 g1 H1 e1 rs1.ok⟩
    · exact w1.elim
theorem st_cmp {o : CmpOp} {r : R2} {op : D → D → T D} (ho : OpR X (compareOp o) r) (hd : OpD X Γ E r op) (hm : behindInMarks o b = false) (ha : SE X Γ E a ma) (hb : SE X Γ E b mb) : ST X Γ E (.Compare a [o] [b] pos) (mB (mBin op ma mb)) := by
  obtain ⟨ta, pa, qa⟩ := ha
  obtain ⟨tb, pb, qb⟩ := hb
  exact ⟨_, pt_cmpR ho pa pb hm, prop_test (prop_bin hd qa qb)⟩
/-- an expression whose value is a bool, as a test -/
theorem st_val (ha : SE X Γ E a ma) (he : ∀ whole, isTrue a X.env whole = (do let v ← whole; standAt a.pos; holding [v] (truthy v)) := by intro _; rfl) : ST X Γ E a (mB ma) := by
  obtain ⟨ta, pa, qa⟩ := ha
  exact ⟨_, pt_val pa he, prop_test qa⟩
def mTNot (m : Slots → T Bool) (σ : Slots) : T Bool := (m σ).bind fun b => .ret (!b)
theorem st_not {m : Slots → T Bool} (ha : ST X Γ E a m) : ST X Γ E (.UnaryOp .Not a pos) (mTNot m) := by
  obtain ⟨ta, pa, qa⟩ := ha
  exact ⟨_, pt_not pa, fun g0 H0 σd σ g S H Q rs w => useT qa rs w (fun _ _ _ h => h) fun b S1 g1 H1 e1 rs1 w1 => w1 g1 H1 e1 rs1.ok⟩
def mTAnd (m n : Slots → T Bool) (σ : Slots) : T Bool := (m σ).bind fun b => if b then n σ else .ret false
def mTOr (m n : Slots → T Bool) (σ : Slots) : T Bool := (m σ).bind fun b => if b then .ret true else n σ
variable {rest : List Expr} {m n : Slots → T Bool}
theorem sw_and1 (ha : ST X Γ E a m) : SW X Γ E (.BoolOp .And [a] pos) m := by
  obtain ⟨ta, pa, qa⟩ := ha
  exact ⟨_, pw_and1 pa, qa⟩
theorem sw_or1 (ha : ST X Γ E a m) : SW X Γ E (.BoolOp .Or [a] pos) m := by
  obtain ⟨ta, pa, qa⟩ := ha
  exact ⟨_, pw_or1 pa, qa⟩
theorem sw_and (ha : ST X Γ E a m) (hb : SW X Γ E (.BoolOp .And (b :: rest) pos) n) : SW X Γ E (.BoolOp .And (a :: b :: rest) pos) (mTAnd m n) := by
  obtain ⟨ta, pa, qa⟩ := ha
  obtain ⟨tb, pb, qb⟩ := hb
  refine ⟨_, pw_and pa pb, fun g0 H0 σd σ g S H Q rs w => useT qa rs w (fun _ _ _ h => h) fun b S1 g1 H1 e1 rs1 w1 => ?_⟩
  cases b with
  | true => exact qb _ _ _ _ _ _ _ _ rs1 (weakE e1 w1 fun _ _ h => h.ext e1)
  | false => exact w1 g1 H1 e1 rs1.ok
theorem sw_or (ha : ST X Γ E a m) (hb : SW X Γ E (.BoolOp .Or (b :: rest) pos) n) : SW X Γ E (.BoolOp .Or (a :: b :: rest) pos) (mTOr m n) := by
  obtain ⟨ta, pa, qa⟩ := ha
  obtain ⟨tb, pb, qb⟩ := hb
  refine ⟨_, pw_or pa pb, fun g0 H0 σd σ g S H Q rs w => useT qa rs w (fun _ _ _ h => h) fun b S1 g1 H1 e1 rs1 w1 => ?_⟩
  cases b with
  | true => exact w1 g1 H1 e1 rs1.ok
  | false => exact qb _ _ _ _ _ _ _ _ rs1 (weakE e1 w1 fun _ _ h => h.ext e1)
theorem SW.st (h : SW X Γ E a m) : ST X Γ E a m := by
  obtain ⟨ta, pa, qa⟩ := h
  exact ⟨_, pa.pt, qa⟩
/-- .. as values -/
def mAnd (ma mb : Slots → T D) (σ : Slots) : T D := (ma σ).bind fun d => (toB d).bind fun b => if b then mb σ else .ret (.bl false)
def mOr (ma mb : Slots → T D) (σ : Slots) : T D := (ma σ).bind fun d => (toB d).bind fun b => if b then .ret (.bl true) else mb σ
def mNot (ma : Slots → T D) (σ : Slots) : T D := (ma σ).bind fun d => (toB d).bind fun b => .ret (.bl (!b))
theorem se_one {o : BoolOp} (h : SE X Γ E a ma) : SE X Γ E (.BoolOp o [a] pos) ma := by
  obtain ⟨ta, pa, qa⟩ := h
  exact ⟨_, pe_one pa, qa⟩
theorem toB_w {α : Type} {d : D} {f : Bool → T α} {P : α → Sto → Prop} {Px : Nat → List D → Sto → Prop} {S : Sto} (w : W ((toB d).bind f) P Px S) : ∃ b, d = .bl b ∧ W (f b) P Px S := by
  unfold toB at w
  split at w
  · exact ⟨_, rfl, w⟩
  · exact w.elim
theorem se_and (ha : SE X Γ E a ma) (hb : SE X Γ E (.BoolOp .And (b :: rest) pos) mb) : SE X Γ E (.BoolOp .And (a :: b :: rest) pos) (mAnd ma mb) := by
  obtain ⟨ta, pa, qa⟩ := ha
  obtain ⟨tb, pb, qb⟩ := hb
  refine ⟨_, pe_and pa pb, fun g0 H0 σd σ g S H Q rs w => useE qa rs w (fun _ _ _ h => h) fun d S1 v g1 H1 e1 rs1 r1 w1 => ?_⟩
  obtain ⟨b, rfl, w2⟩ := toB_w w1
  refine ⟨b, r1.bl_inv, ?_⟩
  cases b with
  | true => exact qb _ _ _ _ _ _ _ _ rs1 (weakE e1 w2 fun _ _ h => h.ext e1)
  | false => exact w2 _ g1 H1 e1 rs1.ok (Rep.bl _)
theorem se_or (ha : SE X Γ E a ma) (hb : SE X Γ E (.BoolOp .Or (b :: rest) pos) mb) : SE X Γ E (.BoolOp .Or (a :: b :: rest) pos) (mOr ma mb) := by
  obtain ⟨ta, pa, qa⟩ := ha
  obtain ⟨tb, pb, qb⟩ := hb
  refine ⟨_, pe_or pa pb, fun g0 H0 σd σ g S H Q rs w => useE qa rs w (fun _ _ _ h => h) fun d S1 v g1 H1 e1 rs1 r1 w1 => ?_⟩
  obtain ⟨b, rfl, w2⟩ := toB_w w1
  refine ⟨b, r1.bl_inv, ?_⟩
  cases b with
  | true => exact w2 _ g1 H1 e1 rs1.ok (Rep.bl _)
  | false => exact qb _ _ _ _ _ _ _ _ rs1 (weakE e1 w2 fun _ _ h => h.ext e1)
theorem se_not (ha : SE X Γ E a ma) : SE X Γ E (.UnaryOp .Not a pos) (mNot ma) := by
  obtain ⟨ta, pa, qa⟩ := ha
  refine ⟨_, pe_not pa, fun g0 H0 σd σ g S H Q rs w => useE qa rs w (fun _ _ _ h => h) fun d S1 v g1 H1 e1 rs1 r1 w1 => ?_⟩
  obtain ⟨b, rfl, w2⟩ := toB_w w1
  exact ⟨b, r1.bl_inv, w2 _ g1 H1 e1 rs1.ok (Rep.bl _)⟩
def mIf (mc : Slots → T Bool) (ma mb : Slots → T D) (σ : Slots) : T D := (mc σ).bind fun b => if b then ma σ else mb σ
theorem se_if {c : Expr} (hc : ST X Γ E c m) (ha : SE X Γ E a ma) (hb : SE X Γ E b mb) : SE X Γ E (.IfExp c a b pos) (mIf m ma mb) := by
  obtain ⟨tc, pc, qc⟩ := hc
  obtain ⟨ta, pa, qa⟩ := ha
  obtain ⟨tb, pb, qb⟩ := hb
  refine ⟨_, pe_ifExp pc pa pb, fun g0 H0 σd σ g S H Q rs w => useT qc rs w (fun _ _ _ h => h) fun b S1 g1 H1 e1 rs1 w1 => ?_⟩
  cases b with
  | true => exact qa _ _ _ _ _ _ _ _ rs1 (weakE e1 w1 fun _ _ h => h.ext e1)
  | false => exact qb _ _ _ _ _ _ _ _ rs1 (weakE e1 w1 fun _ _ h => h.ext e1)
/-- a < b < c -/
def mChain (o o' : D → D → T D) (ma mb mc : Slots → T D) (σ : Slots) : T D := (ma σ).bind fun x => (mb σ).bind fun y => (o x y).bind fun z => (toB z).bind fun k => if k then (mc σ).bind fun u => o' y u else .ret (.bl false)
theorem prop_chain {r r' : R2} {op op' : D → D → T D} {ta tb tc : TE} (ho : OpD X Γ E r op) (ho' : OpD X Γ E r' op') (pa : PropE X.K Γ E ma ta) (pb : PropE X.K Γ E mb tb) (pc : PropE X.K Γ E mc tc) :
    PropE X.K Γ E (mChain op op' ma mb mc) (tChain r r' ta tb tc) := fun g0 H0 σd σ g S H Q rs w =>
  useE pa rs w (fun _ _ _ h => h) fun d S1 v g1 H1 e1 rs1 r1 w1 => useE pb rs1 w1 (fun _ _ _ h => h.ext e1) fun d' S2 v' g2 H2 e2 rs2 r2 w2 => by
    refine ho g2 S2 H2 d d' v v' _ rs2.ok (r1.mono (e2.mono rs1.ok)) r2 (weakE (e1.trans e2) (W_bind _ _ |>.mp w2) fun z s3 w3 vz g3 H3 e3 ok3 r3 => ?_)
    obtain ⟨k, rfl, w4⟩ := toB_w w3
    have rs3 := rs2.mono e3 ok3
    refine ⟨k, r3.bl_inv, ?_⟩
    cases k with
    | false => exact w4 _ g3 H3 ((e1.trans e2).trans e3) ok3 (Rep.bl _)
    | true =>
      have e123 := (e1.trans e2).trans e3
      exact useE pc rs3 w4 (fun _ _ _ h => h.ext e123) fun d5 S5 v5 g5 H5 e5 rs5 r5 w5 =>
        ho' g5 S5 H5 d' d5 v' v5 Q rs5.ok ((r2.mono (e3.mono rs2.ok)).mono (e5.mono rs3.ok)) r5 (weakE (e123.trans e5) w5 fun _ _ h => h.ext (e123.trans e5))
theorem se_chain {o o' : CmpOp} {r r' : R2} {op op' : D → D → T D} {c : Expr} (ho : OpR X (compareOp o) r) (hd : OpD X Γ E r op) (ho' : OpR X (compareOp o') r') (hd' : OpD X Γ E r' op') (ha : SE X Γ E a ma) (hb : SE X Γ E b mb) (hc : SE X Γ E c mc)
    (hm : lastMarks [o, o'] [b, c] = false := by with_unfolding_all rfl) : SE X Γ E (.Compare a [o, o'] [b, c] pos) (mChain op op' ma mb mc) := by
  obtain ⟨ta, pa, qa⟩ := ha
  obtain ⟨tb, pb, qb⟩ := hb
  obtain ⟨tc, pc, qc⟩ := hc
  exact ⟨_, pe_chain ho ho' pa pb pc hm, prop_chain hd hd' qa qb qc⟩
theorem st_chain {o o' : CmpOp} {r r' : R2} {op op' : D → D → T D} {c : Expr} (ho : OpR X (compareOp o) r) (hd : OpD X Γ E r op) (ho' : OpR X (compareOp o') r') (hd' : OpD X Γ E r' op') (ha : SE X Γ E a ma) (hb : SE X Γ E b mb) (hc : SE X Γ E c mc)
    (hm : lastMarks [o, o'] [b, c] = false := by with_unfolding_all rfl) : ST X Γ E (.Compare a [o, o'] [b, c] pos) (mB (mChain op op' ma mb mc)) := by
  obtain ⟨ta, pa, qa⟩ := ha
  obtain ⟨tb, pb, qb⟩ := hb
  obtain ⟨tc, pc, qc⟩ := hc
  exact ⟨_, pt_chain ho ho' pa pb pc hm, prop_test (prop_chain hd hd' qa qb qc)⟩
end
end KT
namespace KT
open PySem PySem.Spec PyProof.Rows L2

def lim : Nat := 1000000
theorem lim_le {n : Nat} (h : n ≤ lim) : n ≤ sizeLine := Nat.le_trans h (by rw [sizeLine_eq]; decide)
theorem lim_lt {n : Nat} (h : n < lim) : n < sizeLine := Nat.lt_of_lt_of_le h (by rw [sizeLine_eq]; decide)

/-! ## data: equality -/
mutual
def D.toP : D → PyData
  | .non => .none
  | .bl b => .bool b
  | .int i => .int i
  | .str cs => .str ⟨cs.toArray⟩
  | .tup xs => .tuple (D.toPs xs)
  | .lst xs => .list (D.toPs xs)
  | _ => .none
def D.toPs : List D → List PyData
  | [] => []
  | x :: r => x.toP :: D.toPs r
end
theorem toPs_map : ∀ xs : List D, D.toPs xs = xs.map D.toP
  | [] => rfl
  | x :: r => by rw [D.toPs, toPs_map r]; rfl
/-- plain data, not too deep -/
def D.okN : Nat → D → Bool
  | 0, _ => false
  | n + 1, d => match d with
    | .non | .bl _ | .int _ | .str _ => true
    | .tup xs | .lst xs => xs.all (D.okN n)
    | _ => false
mutual
def D.eqv : D → D → Bool
  | .non, e => match e with | .non => true | _ => false
  | .bl a, e => match e with | .bl b => a == b | .int j => (if a then 1 else 0) == j | _ => false
  | .int i, e => match e with | .bl b => i == (if b then 1 else 0) | .int j => i == j | _ => false
  | .str x, e => match e with | .str y => x == y | _ => false
  | .lst xs, e => match e with | .lst ys => D.eqvs xs ys | _ => false
  | .tup xs, e => match e with | .tup ys => D.eqvs xs ys | _ => false
  | _, _ => false
def D.eqvs : List D → List D → Bool
  | [], e => match e with | [] => true | _ => false
  | x :: xs, e => match e with | y :: ys => D.eqv x y && D.eqvs xs ys | _ => false
end
theorem str_beq (x y : List Nat) : ((⟨x.toArray⟩ : Str) == ⟨y.toArray⟩) = (x == y) := by
  by_cases h : x = y
  · subst h; simp
  · rw [beq_eq_false_iff_ne.mpr h]
    exact beq_eq_false_iff_ne.mpr fun e => h (by injection e with e; simpa using e)
theorem okN_zero (d : D) : D.okN 0 d = false := rfl
mutual
theorem eqv_toP : ∀ (n k : Nat) (d e : D), d.okN n = true → e.okN k = true → PyData.eqv d.toP e.toP = D.eqv d e
  | 0, _, _, _, h, _ => by simp [D.okN] at h
  | _ + 1, 0, _, _, _, h => by simp [D.okN] at h
  | n + 1, k + 1, d, e, hd, he => by
    cases d <;> cases e <;> first
      | (simp [D.okN] at hd; done)
      | (simp [D.okN] at he; done)
      | (simp only [D.toP, PyData.eqv, D.eqv]; done)
      | (simp only [D.toP, PyData.eqv, D.eqv]; exact str_beq _ _)
      | (simp only [D.toP, PyData.eqv, D.eqv]; simp only [D.okN] at hd he; exact eqvs_toP n k _ _ hd he)
theorem eqvs_toP : ∀ (n k : Nat) (d e : List D), d.all (D.okN n) = true → e.all (D.okN k) = true → PyData.eqvAll (D.toPs d) (D.toPs e) = D.eqvs d e
  | _, _, [], [], _, _ => by simp only [D.toPs, PyData.eqvAll, D.eqvs]
  | _, _, [], _ :: _, _, _ => by simp only [D.toPs, PyData.eqvAll, D.eqvs]
  | _, _, _ :: _, [], _, _ => by simp only [D.toPs, PyData.eqvAll, D.eqvs]
  | n, k, x :: xs, y :: ys, hd, he => by
    simp only [List.all_cons, Bool.and_eq_true] at hd he
    simp only [D.toPs, PyData.eqvAll, D.eqvs, eqv_toP n k x y hd.1 he.1, eqvs_toP n k xs ys hd.2 he.2]
end
mutual
theorem plain_ok : ∀ (n : Nat) (d : D), d.okN n = true → d.toP.plain = true ∧ d.toP.depth ≤ n
  | 0, _, h => by simp [D.okN] at h
  | n + 1, d, h => by
    cases d <;> first
      | (simp [D.okN] at h; done)
      | (exact ⟨by simp only [D.toP, PyData.plain], by simp only [D.toP, PyData.depth]; omega⟩)
      | (simp only [D.okN] at h
         obtain ⟨h1, h2⟩ := plains_ok n _ h
         exact ⟨by simp only [D.toP, PyData.plain]; exact h1, by simp only [D.toP, PyData.depth]; omega⟩)
theorem plains_ok : ∀ (n : Nat) (d : List D), d.all (D.okN n) = true → PyData.plainAll (D.toPs d) = true ∧ PyData.depthAll (D.toPs d) ≤ n
  | _, [], _ => ⟨by simp only [D.toPs, PyData.plainAll], by simp only [D.toPs, PyData.depthAll]; omega⟩
  | n, x :: xs, h => by
    simp only [List.all_cons, Bool.and_eq_true] at h
    obtain ⟨h1, h2⟩ := plain_ok n x h.1
    obtain ⟨h3, h4⟩ := plains_ok n xs h.2
    exact ⟨by simp only [D.toPs, PyData.plainAll, h1, h3, Bool.and_self], by simp only [D.toPs, PyData.depthAll]; omega⟩
end
mutual
theorem Rep.dp {K : PySem.W.Frag} {Γ : Gm} {g : Gh} {H : Hp} : ∀ (n : Nat) (d : D) (v : V), d.okN n = true → Rep K Γ g H d v → Dp K H v d.toP
  | 0, _, _, h, _ => by simp [D.okN] at h
  | n + 1, d, v, h, r => by
    cases d <;> first
      | (simp [D.okN] at h; done)
      | (simp only [Rep] at r; subst r; simp only [D.toP]; constructor)
      | (simp only [Rep] at r
         simp only [D.okN] at h
         obtain ⟨a, xs, rfl, h1, h2⟩ := r
         simp only [D.toP]
         first
           | exact .tup h1 (Reps.dp n _ _ h h2)
           | exact .lst (.inl (.inl h1.2)) (Reps.dp n _ _ h h2))
theorem Reps.dp {K : PySem.W.Frag} {Γ : Gm} {g : Gh} {H : Hp} : ∀ (n : Nat) (d : List D) (v : List V), d.all (D.okN n) = true → Reps K Γ g H d v → DpAll K H v (D.toPs d)
  | _, [], _, _, r => by simp only [Reps] at r; subst r; simp only [D.toPs]; exact .nil
  | n, x :: xs, _, h, r => by
    simp only [List.all_cons, Bool.and_eq_true] at h
    simp only [Reps] at r
    obtain ⟨v, t, rfl, h1, h2⟩ := r
    simp only [D.toPs]
    exact .cons (Rep.dp n x v h.1 h1) (Reps.dp n xs t h.2 h2)
end
def D.ok (d : D) : Bool := d.okN 60
section
variable {X : Cx} {Γ : Gm} {E : XK}
def rEqP (K : PySem.W.Frag) (neg : Bool) : R2 := fun x y H Q => ∃ d e, Dp K H x d ∧ Dp K H y e ∧ d.plain = true ∧ e.plain = true ∧ d.depth ≤ 60 ∧ Q (.bl (if neg then !PyData.eqv d e else PyData.eqv d e)) H
theorem op_eqP (hu : X.A.units + 64 < cLine) : OpR X (compareOp .Eq) (rEqP X.K false) := by
  intro pins s σ H x y v u Q I rx ry h
  obtain ⟨d, e, hd, he, sd, se, z, q⟩ := h
  obtain ⟨as, r1⟩ := Dp.reads I d x v hd rx
  obtain ⟨bs, r2⟩ := Dp.reads I e y u he ry
  exact SeqAt.eq_plain r1 r2 sd se (by have := Nat.min_le_left d.depth e.depth; omega) ⟨.bl _, H, I, rfl, q⟩
theorem op_neP (hu : X.A.units + 64 < cLine) : OpR X (compareOp .NotEq) (rEqP X.K true) := by
  intro pins s σ H x y v u Q I rx ry h
  obtain ⟨d, e, hd, he, sd, se, z, q⟩ := h
  obtain ⟨as, r1⟩ := Dp.reads I d x v hd rx
  obtain ⟨bs, r2⟩ := Dp.reads I e y u he ry
  exact SeqAt.ne_plain r1 r2 sd se (by have := Nat.min_le_left d.depth e.depth; omega) ⟨.bl _, H, I, rfl, q⟩
def dEq (d e : D) : T D := if d.ok && e.ok then .ret (.bl (D.eqv d e)) else .bad
def dNe (d e : D) : T D := if d.ok && e.ok then .ret (.bl (!D.eqv d e)) else .bad
theorem W_ite {α : Type} {b : Bool} {m : T α} {P : α → Sto → Prop} {Px : Nat → List D → Sto → Prop} {S : Sto} (w : W (if b then m else .bad) P Px S) : b = true ∧ W m P Px S := by
  cases b with
  | true => exact ⟨rfl, w⟩
  | false => exact w.elim
theorem W_iteP {α : Type} {c : Prop} [Decidable c] {m : T α} {P : α → Sto → Prop} {Px : Nat → List D → Sto → Prop} {S : Sto} (w : W (if c then m else .bad) P Px S) : c ∧ W m P Px S := by
  by_cases h : c
  · rw [if_pos h] at w; exact ⟨h, w⟩
  · rw [if_neg h] at w; exact w.elim
theorem od_eq : OpD X Γ E (rEqP X.K false) dEq := fun g S H d e x y Q ok r1 r2 w => by
  obtain ⟨h, w⟩ := W_ite w
  simp only [Bool.and_eq_true] at h
  obtain ⟨p1, z1⟩ := plain_ok 60 d h.1
  obtain ⟨p2, z2⟩ := plain_ok 60 e h.2
  exact ⟨d.toP, e.toP, r1.dp 60 d x h.1, r2.dp 60 e y h.2, p1, p2, z1, w _ g H (Ext.refl g H) ok (by simp only [Rep, Bool.false_eq_true, if_false, eqv_toP 60 60 d e h.1 h.2])⟩
theorem od_ne : OpD X Γ E (rEqP X.K true) dNe := fun g S H d e x y Q ok r1 r2 w => by
  obtain ⟨h, w⟩ := W_ite w
  simp only [Bool.and_eq_true] at h
  obtain ⟨p1, z1⟩ := plain_ok 60 d h.1
  obtain ⟨p2, z2⟩ := plain_ok 60 e h.2
  exact ⟨d.toP, e.toP, r1.dp 60 d x h.1, r2.dp 60 e y h.2, p1, p2, z1, w _ g H (Ext.refl g H) ok (by simp only [Rep, if_true, eqv_toP 60 60 d e h.1 h.2])⟩
/-! ## x in seq -/
def rInP (K : PySem.W.Frag) (neg : Bool) : R2 := fun x y H Q => ∃ d ds, Dp K H x d ∧ (Dp K H y (.list ds) ∨ Dp K H y (.tuple ds)) ∧ d.plain = true ∧ PyData.plainAll ds = true ∧ d.depth ≤ 60 ∧ Q (.bl (if neg then !ds.any fun z => PyData.eqv z d else ds.any fun z => PyData.eqv z d)) H
theorem op_inP (hu : X.A.units + 64 < cLine) : OpR X (compareOp .In) (rInP X.K false) := by
  intro pins s σ H x y v u Q I rx ry h
  obtain ⟨d, ds, hd, he, sd, se, z, q⟩ := h
  obtain ⟨as, r1⟩ := Dp.reads I d x v hd rx
  rcases he with he | he
  · obtain ⟨bs, r2⟩ := Dp.reads I _ y u he ry
    exact SeqAt.in_list_data r2 r1 se sd (by have := Nat.min_le_right (PyData.depthAll ds) d.depth; omega) ⟨.bl _, H, I, rfl, q⟩
  · obtain ⟨bs, r2⟩ := Dp.reads I _ y u he ry
    exact SeqAt.in_tuple_data r2 r1 se sd (by have := Nat.min_le_right (PyData.depthAll ds) d.depth; omega) ⟨.bl _, H, I, rfl, q⟩
theorem op_ninP (hu : X.A.units + 64 < cLine) : OpR X (compareOp .NotIn) (rInP X.K true) := by
  intro pins s σ H x y v u Q I rx ry h
  obtain ⟨d, ds, hd, he, sd, se, z, q⟩ := h
  obtain ⟨as, r1⟩ := Dp.reads I d x v hd rx
  rcases he with he | he
  · obtain ⟨bs, r2⟩ := Dp.reads I _ y u he ry
    exact SeqAt.notIn_list_data r2 r1 se sd (by have := Nat.min_le_right (PyData.depthAll ds) d.depth; omega) ⟨.bl _, H, I, rfl, q⟩
  · obtain ⟨bs, r2⟩ := Dp.reads I _ y u he ry
    exact SeqAt.notIn_tuple_data r2 r1 se sd (by have := Nat.min_le_right (PyData.depthAll ds) d.depth; omega) ⟨.bl _, H, I, rfl, q⟩
def items? : D → Option (List D)
  | .tup xs => some xs
  | .lst xs => some xs
  | _ => none
def dIn (d e : D) : T D := match items? e with
  | some ys => if d.ok && ys.all (D.okN 60) then .ret (.bl (ys.any fun z => D.eqv z d)) else .bad
  | none => .bad
def dNin (d e : D) : T D := match items? e with
  | some ys => if d.ok && ys.all (D.okN 60) then .ret (.bl (!ys.any fun z => D.eqv z d)) else .bad
  | none => .bad
theorem any_toP {d : D} (hd : d.ok = true) : ∀ {ys : List D}, ys.all (D.okN 60) = true → ((D.toPs ys).any fun z => PyData.eqv z d.toP) = ys.any fun z => D.eqv z d
  | [], _ => rfl
  | y :: ys, h => by
    simp only [List.all_cons, Bool.and_eq_true] at h
    simp only [D.toPs, List.any_cons, eqv_toP 60 60 y d h.1 hd, any_toP hd h.2]
theorem rep_items {K : PySem.W.Frag} {g : Gh} {H : Hp} {e : D} {y : V} {ys : List D} (hi : items? e = some ys) (h : ys.all (D.okN 60) = true) (r : Rep K Γ g H e y) : Dp K H y (.list (D.toPs ys)) ∨ Dp K H y (.tuple (D.toPs ys)) := by
  cases e <;> simp only [items?, Option.some.injEq, reduceCtorEq] at hi
  · subst hi
    simp only [Rep] at r
    obtain ⟨a, xs, rfl, h1, h2⟩ := r
    exact .inr (.tup h1 (Reps.dp 60 _ _ h h2))
  · subst hi
    simp only [Rep] at r
    obtain ⟨a, xs, rfl, h1, h2⟩ := r
    exact .inl (.lst (.inl (.inl h1.2)) (Reps.dp 60 _ _ h h2))
theorem od_in : OpD X Γ E (rInP X.K false) dIn := fun g S H d e x y Q ok r1 r2 w => by
  unfold dIn at w
  split at w
  · rename_i ys hi
    obtain ⟨h, w⟩ := W_ite w
    simp only [Bool.and_eq_true] at h
    obtain ⟨p1, z1⟩ := plain_ok 60 d h.1
    exact ⟨d.toP, D.toPs ys, r1.dp 60 d x h.1, rep_items hi h.2 r2, p1, (plains_ok 60 ys h.2).1, z1, w _ g H (Ext.refl g H) ok (by simp only [Rep, Bool.false_eq_true, if_false, any_toP h.1 h.2])⟩
  · exact w.elim
theorem od_nin : OpD X Γ E (rInP X.K true) dNin := fun g S H d e x y Q ok r1 r2 w => by
  unfold dNin at w
  split at w
  · rename_i ys hi
    obtain ⟨h, w⟩ := W_ite w
    simp only [Bool.and_eq_true] at h
    obtain ⟨p1, z1⟩ := plain_ok 60 d h.1
    exact ⟨d.toP, D.toPs ys, r1.dp 60 d x h.1, rep_items hi h.2 r2, p1, (plains_ok 60 ys h.2).1, z1, w _ g H (Ext.refl g H) ok (by simp only [Rep, if_true, any_toP h.1 h.2])⟩
  · exact w.elim
/-! ## numbers -/
def dII (f : Int → Int → T D) : D → D → T D
  | .int i, .int j => f i j
  | _, _ => .bad
theorem od_ii {C : Int → Int → Prop} {gv : Int → Int → V} {f : Int → Int → T D} (h : ∀ i j K g H S Q Px, W (f i j) (PQ K Γ g H Q) Px S → C i j ∧ ∃ d, W (.ret d) (PQ K Γ g H Q) Px S ∧ ∀ v, v = gv i j → Rep K Γ g H d v) : OpD X Γ E (rI C gv) (dII f) := fun g S H d e x y Q ok r1 r2 w => by
  unfold dII at w
  split at w
  · obtain ⟨c, d, w', hr⟩ := h _ _ _ _ _ _ _ _ w
    exact ⟨_, _, r1.int_inv, r2.int_inv, c, w' _ g H (Ext.refl g H) ok (hr _ rfl)⟩
  · exact w.elim
theorem od_ii0 {gv : Int → Int → V} {f : Int → Int → D} (h : ∀ i j K g H, Rep K Γ g H (f i j) (gv i j)) : OpD X Γ E (rI0 gv) (dII fun i j => .ret (f i j)) := fun g S H d e x y Q ok r1 r2 w => by
  unfold dII at w
  split at w
  · exact ⟨_, _, r1.int_inv, r2.int_inv, w _ g H (Ext.refl g H) ok (h _ _ _ _ _)⟩
  · exact w.elim
def dLt : D → D → T D := dII fun i j => .ret (.bl (decide (i < j)))
def dLe : D → D → T D := dII fun i j => .ret (.bl (decide (i ≤ j)))
def dGt : D → D → T D := dII fun i j => .ret (.bl (decide (j < i)))
def dGe : D → D → T D := dII fun i j => .ret (.bl (decide (j ≤ i)))
theorem od_lt : OpD X Γ E (rI0 fun i j => .bl (decide (i < j))) dLt := od_ii0 fun _ _ _ _ _ => Rep.bl _
theorem od_le : OpD X Γ E (rI0 fun i j => .bl (decide (i ≤ j))) dLe := od_ii0 fun _ _ _ _ _ => Rep.bl _
theorem od_gt : OpD X Γ E (rI0 fun i j => .bl (decide (j < i))) dGt := od_ii0 fun _ _ _ _ _ => Rep.bl _
theorem od_ge : OpD X Γ E (rI0 fun i j => .bl (decide (j ≤ i))) dGe := od_ii0 fun _ _ _ _ _ => Rep.bl _
def dSub : D → D → T D := dII fun i j => .ret (.int (i - j))
theorem od_sub : OpD X Γ E (rI0 fun i j => .int (i - j)) dSub := od_ii0 fun _ _ _ _ _ => Rep.int _
def dFdiv : D → D → T D := dII fun i j => if j ≠ 0 ∧ j.natAbs < 1073741824 then .ret (.int (i.fdiv j)) else .bad
theorem od_fdiv : OpD X Γ E (rI CDivN fun i j => .int (i.fdiv j)) dFdiv := od_ii fun i j K g H S Q Px w => by
  obtain ⟨c, w⟩ := W_iteP w
  exact ⟨c, _, w, fun v e => by rw [e]; exact Rep.int _⟩
def dMod : D → D → T D := dII fun i j => if j ≠ 0 then .ret (.int (i.fmod j)) else .bad
theorem od_mod : OpD X Γ E (rI (fun _ j => j ≠ 0) fun i j => .int (i.fmod j)) dMod := od_ii fun i j K g H S Q Px w => by
  obtain ⟨c, w⟩ := W_iteP w
  exact ⟨c, _, w, fun v e => by rw [e]; exact Rep.int _⟩
def isN : D → D → T D := fun d _ => match d with | .non => .ret (.bl true) | _ => .ret (.bl false)
end
end KT
namespace KT
open PySem PySem.Spec PyProof.Rows L2

theorem tuple_mulOne (l : Addr) (items : Array Value) (n : Nat) (dd : Option Addr) (sl : Array (Option Value)) (u : Tok) :
    Meets (Builtin.«tuple.__mul__» ⟨[.ref l, .int 1 u], []⟩) (fun _ R s => s.heap.get? l = some { cls := .type "tuple", dict := dd, data := .seq items n, slots := sl } ∧ R (.ok (.ret (Value.ref l))) { s with heap := s.heap, toks := s.toks }) :=
  .of_wp fun prog w A R s h => by
    obtain ⟨hp, g, d, tk, os⟩ := s
    obtain ⟨hl, h⟩ := h
    have f1 := AutoSeq1.idx_int
    wp_walk using wpAny_loadPart' hl
    exact ⟨_, rfl, h⟩
section
variable {X : Cx} {Γ : Gm} {E : XK}
def rRep1 (K : PySem.W.Frag) : R2 := fun x y H Q => ∃ l xs, x = .ref l ∧ y = .int 1 ∧ SqT K H l xs ∧ Q (.ref l) H
theorem op_rep1 : OpR X (binaryOp .Mult) (rRep1 X.K) := by
  intro pins s σ H x y v u Q I rx ry h
  obtain ⟨l, xs, rfl, rfl, hT, q⟩ := h
  cases rx
  obtain ⟨t, rfl⟩ := ry
  obtain ⟨its, r, ⟨⟨cls, dd, data, sl⟩, ho, hc, n, hd⟩, hs⟩ := I.tuple hT
  simp only at hc hd
  subst hc hd
  refine wpAny_binaryOp_repeat_ref (T := "tuple") (U := "int") (by decide) ⟨_, ho, rfl⟩ (fun s' => typeIs_int s' 1 t) noFill_tuple_mul F.fills_int_mul F.slot_int_rmul repeat_tuple F.slot_int_index.lookup
    (call_meets F.slot_int_rmul (typeIs_int s 1 t) F.entry_int_rmul (F.args_int_rmul_2 _ _) (int_rmul_tuple 1 t l its.toArray n dd sl)
      ⟨ho, rfl, ⟨_, ho, rfl⟩, call_meets F.slot_tuple_mul ⟨_, ho, rfl⟩ F.entry_tuple_mul (F.args_tuple_mul_2 _ _) (tuple_mulOne l its.toArray n dd sl t) ⟨ho, ?_⟩⟩)
  exact ⟨.ref l, H, I, rfl, q⟩

/-! ## + and * -/
def rAddA (K : PySem.W.Frag) : R2 := fun x y H Q => rI0 (fun i j => .int (i + j)) x y H Q ∨ rCatA K x y H Q ∨ rCat x y H Q ∨ ∃ i j, x = .str i ∧ y = .str j ∧ i.length + j.length ≤ sizeLine ∧ Q (.str (i ++ j)) H
theorem op_addA : OpR X (binaryOp .Add) (rAddA X.K) := op_add.or (op_catA.or (op_cat.or op_add_str))
def dAdd : D → D → T D
  | .int i, e => match e with | .int j => .ret (.int (i + j)) | _ => .bad
  | .tup a, e => match e with | .tup b => if a.length + b.length ≤ lim then .ret (.tup (a ++ b)) else .bad | _ => .bad
  | .lst a, e => match e with | .lst b => if a.length + b.length ≤ lim then .ret (.lst (a ++ b)) else .bad | _ => .bad
  | .str a, e => match e with | .str b => if a.length + b.length ≤ lim then .ret (.str (a ++ b)) else .bad | _ => .bad
  | _, _ => .bad
theorem newTup {K : PySem.W.Frag} {g : Gh} {S : Sto} {H : Hp} {p : Addr} {ds : List D} {xs : List V} {Q : VK} (ok : GOk K Γ g S H) (r : Reps K Γ g H ds xs) (hp : H p = none) (w : PQ K Γ g H Q (.tup ds) S) : Q (.ref p) (upd H p (.tup xs)) :=
  w _ g _ (Ext.new hp) (ok.new hp) (Rep.tup (.inl (.inl upd_same)) (r.mono ((Ext.new hp).mono ok)))
theorem newLst {K : PySem.W.Frag} {g : Gh} {S : Sto} {H : Hp} {p : Addr} {ds : List D} {xs : List V} {Q : VK} (ok : GOk K Γ g S H) (r : Reps K Γ g H ds xs) (hp : H p = none) (w : PQ K Γ g H Q (.lst ds) S) : Q (.ref p) (upd H p (.lst xs)) :=
  w _ (g.add p) _ (Ext.newF hp) (ok.newF hp) (Rep.lst (.inr rfl) upd_same (r.mono ((Ext.newF hp).mono ok)))
theorem strLen (cs : List Nat) : (⟨cs.toArray⟩ : Str).length = cs.length := by simp [Str.length]
theorem od_add : OpD X Γ E (rAddA X.K) dAdd := fun g S H d e x y Q ok r1 r2 w => by
  unfold dAdd at w
  split at w
  · split at w
    · exact .inl ⟨_, _, r1.int_inv, r2.int_inv, w _ g H (Ext.refl g H) ok (Rep.int _)⟩
    · exact w.elim
  · split at w
    · obtain ⟨c, w⟩ := W_iteP w
      simp only [Rep] at r1 r2
      obtain ⟨a, xs, rfl, h1, h2⟩ := r1
      obtain ⟨b, ys, rfl, h3, h4⟩ := r2
      have l1 := h2.length
      have l2 := h4.length
      refine .inr (.inl ⟨a, b, xs, ys, rfl, rfl, h1, h3, lim_le (by omega), fun e => ?_, fun e1 e2 => ?_, fun _ _ p hp => newTup ok (h2.append h4) hp w⟩)
      · refine w _ g H (Ext.refl g H) ok (Rep.tup h3 ?_)
        have := h2.append h4
        rwa [e, List.nil_append] at this
      · refine w _ g H (Ext.refl g H) ok (Rep.tup h1 ?_)
        have := h2.append h4
        rwa [e2, List.append_nil] at this
    · exact w.elim
  · split at w
    · obtain ⟨c, w⟩ := W_iteP w
      simp only [Rep] at r1 r2
      obtain ⟨a, xs, rfl, h1, h2⟩ := r1
      obtain ⟨b, ys, rfl, h3, h4⟩ := r2
      have l1 := h2.length
      have l2 := h4.length
      exact .inr (.inr (.inl ⟨a, b, xs, ys, rfl, rfl, h1.2, h3.2, lim_le (by omega), fun p hp => newLst ok (h2.append h4) hp w⟩))
    · exact w.elim
  · split at w
    · obtain ⟨c, w⟩ := W_iteP w
      simp only [Rep] at r1 r2
      subst r1 r2
      refine .inr (.inr (.inr ⟨_, _, rfl, rfl, by rw [strLen, strLen]; exact lim_le c, ?_⟩))
      refine w _ g H (Ext.refl g H) ok ?_
      simp only [Rep]
      congr 1
      show (Str.append _ _ : Str) = _
      simp [Str.append]
    · exact w.elim
  · exact w.elim
def rMulA (K : PySem.W.Frag) : R2 := fun x y H Q => rI CMul (fun i j => .int (i * j)) x y H Q ∨ rRep x y H Q ∨ rRepT K x y H Q ∨ rRep1 K x y H Q
theorem op_mulA : OpR X (binaryOp .Mult) (rMulA X.K) := op_mul.or (op_rep.or (op_repT.or op_rep1))
def repD (k : Nat) (a : List D) : List D := (List.replicate k a).flatten
def dMul : D → D → T D
  | .int i, e => match e with | .int j => if (-(2 ^ 64) < i ∧ i < 2 ^ 64) ∨ (-(2 ^ 64) < j ∧ j < 2 ^ 64) then .ret (.int (i * j)) else .bad | _ => .bad
  | .lst a, e => match e with | .int k => if k ≤ 100000 ∧ 0 ≤ k ∧ a.length ≤ 100 then .ret (.lst (repD k.toNat a)) else .bad | _ => .bad
  | .tup a, e => match e with | .int k => if k = 1 then .ret (.tup a) else if 2 ≤ k ∧ k ≤ 1000 ∧ 0 < a.length ∧ a.length ≤ 1000 then .ret (.tup (repD k.toNat a)) else .bad | _ => .bad
  | _, _ => .bad
theorem Reps.rep {K : PySem.W.Frag} {g : Gh} {H : Hp} {ds : List D} {xs : List V} (r : Reps K Γ g H ds xs) : ∀ k : Nat, Reps K Γ g H (repD k ds) (List.replicate k xs).flatten
  | 0 => by simpa [repD] using Reps.nil
  | k + 1 => by
    unfold repD
    rw [List.replicate_succ, List.replicate_succ, List.flatten_cons, List.flatten_cons]
    exact r.append (Reps.rep r k)
theorem mulBound {n : Nat} {k : Int} (c : k ≤ 100000 ∧ 0 ≤ k ∧ n ≤ 100) : n * k.toNat ≤ sizeLine := by
  rw [sizeLine_eq]
  have : n * k.toNat ≤ 100 * 100000 := Nat.mul_le_mul (by omega) (by omega)
  omega
theorem od_mul : OpD X Γ E (rMulA X.K) dMul := fun g S H d e x y Q ok r1 r2 w => by
  unfold dMul at w
  split at w
  · split at w
    · obtain ⟨c, w⟩ := W_iteP w
      exact .inl ⟨_, _, r1.int_inv, r2.int_inv, c, w _ g H (Ext.refl g H) ok (Rep.int _)⟩
    · exact w.elim
  · split at w
    · obtain ⟨c, w⟩ := W_iteP w
      simp only [Rep] at r1
      obtain ⟨a, xs, rfl, h1, h2⟩ := r1
      have l1 := h2.length
      refine .inr (.inl ⟨a, _, xs, rfl, r2.int_inv, h1.2, by omega, by omega, ?_, fun p hp => newLst ok (h2.rep _) hp w⟩)
      rw [l1]
      exact mulBound c
    · exact w.elim
  · split at w
    · simp only [Rep] at r1
      obtain ⟨a, xs, rfl, h1, h2⟩ := r1
      have l1 := h2.length
      have e2 := r2.int_inv
      split at w
      · rename_i h
        rw [h] at e2
        exact .inr (.inr (.inr ⟨a, xs, rfl, e2, h1, w _ g H (Ext.refl g H) ok (Rep.tup h1 h2)⟩))
      · obtain ⟨c, w⟩ := W_iteP w
        exact .inr (.inr (.inl ⟨a, _, xs, rfl, e2, h1, by intro z; rw [z] at l1; simp at l1; omega, c.1, c.2.1, by omega, fun p hp => newTup ok (h2.rep _) hp w⟩))
    · exact w.elim
  · exact w.elim
def dNeg : D → T D
  | .int i => .ret (.int (-i))
  | _ => .bad
def mUn (o : D → T D) (m : Slots → T D) (σ : Slots) : T D := (m σ).bind o
variable {a b e : Expr} {ma mb me : Slots → T D} {pos : Pos}
theorem se_neg (ha : SE X Γ E a ma) : SE X Γ E (.UnaryOp .USub a pos) (mUn dNeg ma) := by
  obtain ⟨ta, pa, qa⟩ := ha
  refine ⟨_, pe_un un_neg pa, fun g0 H0 σd σ g S H Q rs w => useE qa rs w (fun _ _ _ h => h) fun d S1 v g1 H1 e1 rs1 r1 w1 => ?_⟩
  unfold dNeg at w1
  split at w1
  · exact ⟨_, r1.int_inv, w1 _ g1 H1 e1 rs1.ok (Rep.int _)⟩
  · exact w1.elim
/-! ## is -/
def rIsA : R2 := fun x y H Q => (y = .non ∧ Q (.bl (decide (x = .non))) H) ∨ rIsB x y H Q
def rNisA : R2 := fun x y H Q => (y = .non ∧ Q (.bl (!decide (x = .non))) H) ∨ rNotB x y H Q
theorem op_isA : OpR X (compareOp .Is) rIsA := op_isN.or op_isBl
theorem op_nisA : OpR X (compareOp .IsNot) rNisA := op_notN.or op_notBl
def D.isN : D → Bool
  | .non => true
  | _ => false
def dIs : D → D → T D := fun d e => match e with
  | .non => .ret (.bl d.isN)
  | .bl b => match d with | .bl a => .ret (.bl (decide (a = b))) | _ => .bad
  | _ => .bad
def dNis : D → D → T D := fun d e => match e with
  | .non => .ret (.bl (!d.isN))
  | .bl b => match d with | .bl a => .ret (.bl (!decide (a = b))) | _ => .bad
  | _ => .bad
theorem Rep.isN {K : PySem.W.Frag} {g : Gh} {H : Hp} {d : D} {v : V} (r : Rep K Γ g H d v) : decide (v = .non) = d.isN := by
  cases d <;> simp only [Rep] at r <;> first
    | (subst r; rfl)
    | (obtain ⟨a, _, rfl, _⟩ := r; rfl)
    | (obtain ⟨a, rfl, _⟩ := r; rfl)
    | (obtain ⟨a, _, rfl⟩ := r; rfl)
theorem od_is : OpD X Γ E rIsA dIs := fun g S H d e x y Q ok r1 r2 w => by
  unfold dIs at w
  split at w
  · simp only [Rep] at r2
    exact .inl ⟨r2, by rw [r1.isN]; exact w _ g H (Ext.refl g H) ok (Rep.bl _)⟩
  · split at w
    · exact .inr ⟨_, _, r1.bl_inv, r2.bl_inv, w _ g H (Ext.refl g H) ok (Rep.bl _)⟩
    · exact w.elim
  · exact w.elim
theorem od_nis : OpD X Γ E rNisA dNis := fun g S H d e x y Q ok r1 r2 w => by
  unfold dNis at w
  split at w
  · simp only [Rep] at r2
    exact .inl ⟨r2, by rw [r1.isN]; exact w _ g H (Ext.refl g H) ok (Rep.bl _)⟩
  · split at w
    · exact .inr ⟨_, _, r1.bl_inv, r2.bl_inv, w _ g H (Ext.refl g H) ok (Rep.bl _)⟩
    · exact w.elim
  · exact w.elim

/-! ## argument lists, displays -/
def mNil (_ : Slots) : T (List D) := .ret []
def mCons (m : Slots → T D) (n : Slots → T (List D)) (σ : Slots) : T (List D) := (m σ).bind fun d => (n σ).bind fun ds => .ret (d :: ds)
variable {es : List Expr} {ms : Slots → T (List D)}
theorem sa_nil : SA X Γ E [] mNil := ⟨_, pa_nil, fun g0 H0 σd σ g S H Q rs w => w _ g H (Ext.refl g H) rs.ok Reps.nil⟩
theorem sa_cons (ha : SE X Γ E e me) (hr : SA X Γ E es ms) (hs : starEach (e :: es) X.env = (false, eval e X.env) :: starEach es X.env := by rfl) : SA X Γ E (e :: es) (mCons me ms) := by
  obtain ⟨ta, pa, qa⟩ := ha
  obtain ⟨tr, pr, qr⟩ := hr
  refine ⟨_, pa_cons pa pr hs, fun g0 H0 σd σ g S H Q rs w => useE qa rs w (fun _ _ _ h => h) fun d S1 v g1 H1 e1 rs1 r1 w1 => useA qr rs1 w1 (fun _ _ _ h => h.ext e1) fun ds S2 vs g2 H2 e2 rs2 r2 w2 => ?_⟩
  exact w2 _ g2 H2 (e1.trans e2) rs2.ok (Reps.cons (r1.mono (e2.mono rs1.ok)) r2)
def mTup (n : Slots → T (List D)) (σ : Slots) : T D := (n σ).bind fun ds => if ds.length ≤ lim then .ret (.tup ds) else .bad
def mLst (n : Slots → T (List D)) (σ : Slots) : T D := (n σ).bind fun ds => if ds.length ≤ lim then .ret (.lst ds) else .bad
theorem se_tup {k : Nat} (h : SA X Γ E es ms) : SE X Γ E (.Tuple es k pos) (mTup ms) := by
  obtain ⟨ta, pa, qa⟩ := h
  refine ⟨_, pe_tup pa, fun g0 H0 σd σ g S H Q rs w => useA qa rs w (fun _ _ _ h => h) fun ds S1 vs g1 H1 e1 rs1 r1 w1 => ?_⟩
  obtain ⟨c, w1⟩ := W_iteP w1
  exact ⟨by rw [r1.length]; exact lim_le c, fun p hp => newTup rs1.ok r1 hp (PQ.ext e1 w1)⟩
theorem se_lst (h : SA X Γ E es ms) : SE X Γ E (.List es pos) (mLst ms) := by
  obtain ⟨ta, pa, qa⟩ := h
  refine ⟨_, pe_lst pa, fun g0 H0 σd σ g S H Q rs w => useA qa rs w (fun _ _ _ h => h) fun ds S1 vs g1 H1 e1 rs1 r1 w1 => ?_⟩
  obtain ⟨c, w1⟩ := W_iteP w1
  exact ⟨by rw [r1.length]; exact lim_le c, fun p hp => newLst rs1.ok r1 hp (PQ.ext e1 w1)⟩

/-! ## calls -/
/-- what a def promises: it does what the plain function c does -/
def spD (K : PySem.W.Frag) (Γ : Gm) (np : Nat) (c : List D → T D) : Sp := fun vs H Q E => ∃ ds g S, ds.length = np ∧ Reps K Γ g H ds vs ∧ GOk K Γ g S H ∧ W (c ds) (PQ K Γ g H Q) (PX K Γ g H E) S
def mCall (c : List D → T D) (n : Slots → T (List D)) (σ : Slots) : T D := (n σ).bind c
/-- a def of the text and what it does -/
structure DefAt (P : Program) (w : World) (K : PySem.W.Frag) (Γ : Gm) (mg : Str → Option Value) (base : Heap) (k : Nat) (x : Str) (ps : List Str) (c : List D → T D) : Prop where
  ex : ∃ f fd, FnOk P w K mg base (L2.CX P w) k f fd ps (spD K Γ ps.length c) ∧ mg x = some (.ref f) ∧ PySem.W.keepIn K (.ref f) = true ∧ Binds K fd ps [] ∧ ∃ oc od osl, K.lookup f = some ⟨oc, od, .func fd, osl⟩
  ar : ∀ ds P Px S, W (c ds) P Px S → ds.length = ps.length
theorem se_call {x : Str} {ps : List Str} {c : List D → T D} {k : Nat} {p : Pos} (F : DefAt X.prog X.w X.K Γ X.mg X.base k x ps c) (hr : Room k X.A) (hp : Passes (L2.CX X.prog X.w) X E) (ha : SA X Γ E (e :: es) ms)
    (hg : Gl X x := by rfl) (hdb : (x == ("__debug__" : Str)) = false := by decide) (he : starEach (e :: es) X.env = (false, eval e X.env) :: starEach es X.env := by rfl) (hpl : (backTo pos (starEach es X.env)).any (·.1) = false := by rfl) :
    SE X Γ E (.Call (.Name x p) (e :: es) [] pos) (mCall c ms) := by
  obtain ⟨f, fd, Ff, hm, hk, hb, _⟩ := F.ex
  obtain ⟨ta, pa, qa⟩ := ha
  refine ⟨_, pe_call Ff hr hg hm hk hb .nil hp pa hdb he hpl, fun g0 H0 σd σ g S H Q rs w => useA qa rs w (fun _ _ _ h => h) fun ds S1 vs g1 H1 e1 rs1 r1 w1 => ?_⟩
  show spD X.K Γ ps.length c (vs ++ []) H1 Q E
  rw [List.append_nil]
  exact ⟨ds, g1, S1, F.ar _ _ _ _ w1, r1, rs1.ok, weakE e1 w1 fun _ _ h => h.ext e1⟩
/-- a built-in by values -/
def CaD (X : Cx) (Γ : Gm) (r : List V → Hp → VK → Prop) (c : List D → T D) : Prop :=
  ∀ g S H ds vs Q Px, GOk X.K Γ g S H → Reps X.K Γ g H ds vs → W (c ds) (PQ X.K Γ g H Q) Px S → r vs H Q
theorem se_callB {x : Str} {id : String} {r : List V → Hp → VK → Prop} {c : List D → T D} {p : Pos} (hc : CallR X (.builtin id) r) (hd : CaD X Γ r c) (hm : X.mg x = none) (hv : bootBuiltins x = some (.builtin id)) (ha : SA X Γ E (e :: es) ms) (hg : Gl X x := by rfl)
    (hn : x ≠ "__name__" := by decide) (hdb : (x == ("__debug__" : Str)) = false := by decide) (he : starEach (e :: es) X.env = (false, eval e X.env) :: starEach es X.env := by rfl) (hpl : (backTo pos (starEach es X.env)).any (·.1) = false := by rfl) :
    SE X Γ E (.Call (.Name x p) (e :: es) [] pos) (mCall c ms) := by
  obtain ⟨ta, pa, qa⟩ := ha
  refine ⟨_, pe_callB hc hg hm hv pa hn hdb he hpl, fun g0 H0 σd σ g S H Q rs w => useA qa rs w (fun _ _ _ h => h) fun ds S1 vs g1 H1 e1 rs1 r1 w1 => ?_⟩
  exact hd g1 S1 H1 ds vs Q _ rs1.ok r1 (W_mono _ (fun _ _ h => h.ext e1) (fun _ _ _ h => h) w1)
theorem se_callTy {x : Str} {id : String} {r : List V → Hp → VK → Prop} {c : List D → T D} {p : Pos} (hc : CallR X (.type id) r) (hd : CaD X Γ r c) (hm : X.mg x = none) (hv : bootBuiltins x = some (.type id)) (ha : SA X Γ E (e :: es) ms) (hg : Gl X x := by rfl)
    (hn : x ≠ "__name__" := by decide) (hdb : (x == ("__debug__" : Str)) = false := by decide) (he : starEach (e :: es) X.env = (false, eval e X.env) :: starEach es X.env := by rfl) (hpl : (backTo pos (starEach es X.env)).any (·.1) = false := by rfl) :
    SE X Γ E (.Call (.Name x p) (e :: es) [] pos) (mCall c ms) := by
  obtain ⟨ta, pa, qa⟩ := ha
  refine ⟨_, pe_callTy hc hg hm hv pa hn hdb he hpl, fun g0 H0 σd σ g S H Q rs w => useA qa rs w (fun _ _ _ h => h) fun ds S1 vs g1 H1 e1 rs1 r1 w1 => ?_⟩
  exact hd g1 S1 H1 ds vs Q _ rs1.ok r1 (W_mono _ (fun _ _ h => h.ext e1) (fun _ _ _ h => h) w1)
end
end KT
namespace KT
open PySem PySem.Spec PyProof.Rows L2 RZ

/-! ## what is walked -/
structure WkD (K : PySem.W.Frag) (Γ : Gm) (g : Gh) (H : Hp) (J : It) (ds : List D) : Prop where
  go : ∀ i g2 H2, Mono g H g2 H2 → i < ds.length → J.go i H2
  stop : ∀ g2 H2, Mono g H g2 H2 → J.stop ds.length H2
  yld : ∀ i g2 S2 H2 x H3, Mono g H g2 H2 → GOk K Γ g2 S2 H2 → i < ds.length → J.yld i H2 x H3 → ∃ d, ds[i]? = some d ∧ Ext g2 H2 g2 H3 ∧ GOk K Γ g2 S2 H3 ∧ Rep K Γ g2 H3 d x
theorem Mono.trans {g g1 g2 : Gh} {H H1 H2 : Hp} (a : Mono g H g1 H1) (b : Mono g1 H1 g2 H2) : Mono g H g2 H2 :=
  ⟨fun x h => b.fz x (a.fz x h), fun x xs f h => b.lst x xs (a.fz x f) (a.lst x xs f h), fun x xs h => b.tup x xs (a.tup x xs h), fun x o xs h => b.frz x o xs (a.frz x o xs h), fun x lo hi h => b.rng x lo hi (a.rng x lo hi h), fun c h => b.cup c (a.cup c h), fun i x h => b.sto i x (a.sto i x h)⟩
structure SI (X : Cx) (Γ : Gm) (E : XK) (tg iter : Expr) (m : Slots → T (List D)) : Prop where
  ex : ∃ wi, PI X tg iter wi ∧ ∀ g0 H0 σd σ g S H R, RS X.K Γ g0 H0 g S H σd σ → W (m σd) (fun ds S' => ∀ g' H' J, Ext g H g' H' → GOk X.K Γ g' S' H' → WkD X.K Γ g' H' J ds → R J H') (PX X.K Γ g H E) S → wi σ H R
def iAny (K : PySem.W.Frag) (te : TE) : TI := fun σ H R => te σ H fun x H1 =>
  (∃ a, x = .ref a ∧ (∃ xs, SqL K H1 a xs) ∧ R (Itl K a) H1) ∨ (∃ a, x = .ref a ∧ (∃ xs, SqT K H1 a xs) ∧ R (Itt K a) H1) ∨ (∃ z, x = .str z ∧ R (Its z) H1) ∨
    ∃ a lo hi, x = .ref a ∧ H1 a = some (.rng lo hi) ∧ (-(2 ^ 62) ≤ lo ∧ lo < 2 ^ 62 ∧ -(2 ^ 62) ≤ hi ∧ hi < 2 ^ 62) ∧ R (Itr lo (hi - lo).toNat) H1
section
variable {X : Cx} {Γ : Gm} {E : XK} {tg e e2 : Expr} {te : TE} {me me2 : Slots → T D} {pos p : Pos}
theorem pi_any (he : PE X e te) : PI X tg e (iAny X.K te) := by
  refine ⟨fun pins s σ H R I h => ?_⟩
  refine thn (he.run pins s σ H _ I h) fun v s1 ⟨x, H1, I1, r1, q1⟩ => ?_
  rcases q1 with ⟨a, ex, ⟨xs, hq⟩, q⟩ | ⟨a, ex, ⟨xs, hq⟩, q⟩ | ⟨z, ex, q⟩ | ⟨a, lo, hi, ex, hq, ⟨b1, b2, b3, b4⟩, q⟩
  · subst ex
    cases r1
    obtain ⟨its, rv, p, hz⟩ := I1.list hq
    refine wpAny_pyIter_list p.isList ?_
    refine ⟨s1.heap.objs.size, [s1.heap.objs.size], _, _, H1, rfl, I1.kept (t' := s1.toks) fun b o e => Heap.get?_push_of_some _ e, turn_list a _, ⟨_, Heap.get?_push_size _ rfl, rfl, rfl⟩, fun b hb => ?_, q⟩
    have e : b = s1.heap.objs.size := by simpa using hb
    subst e
    exact I1.fpOk (Nat.le_refl _) (I1.hok.fresh (Nat.le_refl _))
  · subst ex
    cases r1
    obtain ⟨its, rv, p, hz⟩ := I1.tuple hq
    refine wpAny_pyIter_tuple (show s1.heap.IsTuple a its.toArray from p) ?_
    refine ⟨s1.heap.objs.size, [s1.heap.objs.size], _, _, H1, rfl, I1.kept (t' := s1.toks) fun b o e => Heap.get?_push_of_some _ e, turn_tuple a _, ⟨_, Heap.get?_push_size _ rfl, rfl, rfl⟩, fun b hb => ?_, q⟩
    have e : b = s1.heap.objs.size := by simpa using hb
    subst e
    exact I1.fpOk (Nat.le_refl _) (I1.hok.fresh (Nat.le_refl _))
  · subst ex
    obtain ⟨t, rfl⟩ := r1
    cases ha : z.cps.all (· < 128)
    · exact wpAny_pyIter_wide ha (pi_one (tk := s1.toks) I1 _ (turn_str _ z t "str_iterator" (.inr rfl)) ⟨_, Heap.get?_push_size _ rfl, rfl, rfl⟩ q)
    · exact wpAny_pyIter_ascii ha (pi_one (tk := s1.toks) I1 _ (turn_str _ z t "str_ascii_iterator" (.inl rfl)) ⟨_, Heap.get?_push_size _ rfl, rfl, rfl⟩ q)
  · subst ex
    cases r1
    obtain ⟨t, u, v, ho⟩ := I1.hok a _ hq
    refine wpAny_pyIter_range (show IsRange s1.heap a lo hi 1 t u v from ho) (small_one b1 b2 b3 b4) ?_
    refine ⟨s1.heap.objs.size, [s1.heap.objs.size], _, _, H1, rfl, I1.kept (t' := s1.toks) fun b o e => Heap.get?_push_of_some _ e, turn_range _ lo (hi - lo).toNat, ?_, fun b hb => ?_, q⟩
    · have e1 : lo + ((0 : Nat) : Int) * 1 = lo := by simp
      have e2 : (((hi - lo).toNat : Nat) : Int) - ((0 : Nat) : Int) = Builtin.Range.rangeSize lo hi 1 := by rw [rangeSize_one]; split <;> omega
      show IsRangeIter _ _ (lo + ((0 : Nat) : Int) * 1) ((((hi - lo).toNat : Nat) : Int) - ((0 : Nat) : Int)) 1
      rw [e1, e2]
      exact Heap.get?_push_size _ rfl
    · have e : b = s1.heap.objs.size := by simpa using hb
      subst e
      exact I1.fpOk (Nat.le_refl _) (I1.hok.fresh (Nat.le_refl _))
def rngD (lo hi : Int) : List D := (List.range (hi - lo).toNat).map fun (i : Nat) => D.int (lo + (i : Int))
/-- the items of what is walked -/
def dItems : D → T (List D)
  | .tup xs => .ret xs
  | .lst xs => .ret xs
  | .str cs => .ret (cs.map fun c => .str [c])
  | .rng lo hi => if -(2 ^ 62) ≤ lo ∧ lo < 2 ^ 62 ∧ -(2 ^ 62) ≤ hi ∧ hi < 2 ^ 62 then .ret (rngD lo hi) else .bad
  | _ => .bad
theorem wk_list {K : PySem.W.Frag} {g : Gh} {H : Hp} {a : Addr} {xs : List V} {ds : List D} (f : g.fz a) (h : H a = some (.lst xs)) (r : Reps K Γ g H ds xs) : WkD K Γ g H (Itl K a) ds where
  go := fun i g2 H2 m hi => by
    obtain ⟨v, e, _⟩ := r.getD (List.getElem?_eq_getElem hi)
    exact ⟨xs, v, .inl (.inl (m.lst a xs f h)), e⟩
  stop := fun g2 H2 m => ⟨xs, .inl (.inl (m.lst a xs f h)), by rw [r.length]; exact Nat.le_refl _⟩
  yld := fun i g2 S2 H2 x H3 m ok hi y => by
    obtain ⟨e, y⟩ := y
    subst e
    obtain ⟨d, e1, e2⟩ := r.get (y xs (.inl (.inl (m.lst a xs f h))))
    exact ⟨d, e1, Ext.refl _ _, ok, e2.mono m⟩
theorem wk_tup {K : PySem.W.Frag} {g : Gh} {H : Hp} {a : Addr} {xs : List V} {ds : List D} (h : SqT K H a xs) (r : Reps K Γ g H ds xs) : WkD K Γ g H (Itt K a) ds where
  go := fun i g2 H2 m hi => by
    obtain ⟨v, e, _⟩ := r.getD (List.getElem?_eq_getElem hi)
    exact ⟨xs, v, m.sqT h, e⟩
  stop := fun g2 H2 m => ⟨xs, m.sqT h, by rw [r.length]; exact Nat.le_refl _⟩
  yld := fun i g2 S2 H2 x H3 m ok hi y => by
    obtain ⟨e, y⟩ := y
    subst e
    obtain ⟨d, e1, e2⟩ := r.get (y xs (m.sqT h))
    exact ⟨d, e1, Ext.refl _ _, ok, e2.mono m⟩
theorem si_any (he : SE X Γ E e me) : SI X Γ E tg e (fun σ => (me σ).bind dItems) := by
  obtain ⟨te, pe, qe⟩ := he
  refine ⟨_, pi_any pe, fun g0 H0 σd σ g S H R rs w => useE qe rs w (fun _ _ _ h => h) fun d S1 v g1 H1 e1 rs1 r1 w1 => ?_⟩
  unfold dItems at w1
  split at w1
  · simp only [Rep] at r1
    obtain ⟨a, xs, rfl, h1, h2⟩ := r1
    exact .inr (.inl ⟨a, rfl, ⟨xs, h1⟩, w1 g1 H1 _ e1 rs1.ok (wk_tup h1 h2)⟩)
  · simp only [Rep] at r1
    obtain ⟨a, xs, rfl, h1, h2⟩ := r1
    exact .inl ⟨a, rfl, ⟨xs, .inl (.inl h1.2)⟩, w1 g1 H1 _ e1 rs1.ok (wk_list h1.1 h1.2 h2)⟩
  · rename_i cs
    simp only [Rep] at r1
    subst r1
    refine .inr (.inr (.inl ⟨_, rfl, w1 g1 H1 _ e1 rs1.ok ⟨fun i g2 H2 m hi => ?_, fun g2 H2 m => ?_, fun i g2 S2 H2 x H3 m ok hi y => ?_⟩⟩))
    · show i < cs.toArray.size
      simpa using hi
    · show cs.toArray.size ≤ _
      simp
    · obtain ⟨e, c, e1, rfl⟩ := y
      subst e
      refine ⟨.str [c], ?_, Ext.refl _ _, ok, by simp only [Rep]⟩
      have : cs[i]? = some c := by simpa using e1
      simp [this]
  · rename_i lo hi
    obtain ⟨c, w1⟩ := W_iteP w1
    simp only [Rep] at r1
    obtain ⟨a, rfl, h1⟩ := r1
    refine .inr (.inr (.inr ⟨a, lo, hi, rfl, h1, c, w1 g1 H1 _ e1 rs1.ok ⟨fun i g2 H2 m hi' => ?_, fun g2 H2 m => ?_, fun i g2 S2 H2 x H3 m ok hi' y => ?_⟩⟩))
    · show i < (hi - lo).toNat
      simpa [rngD] using hi'
    · show (hi - lo).toNat ≤ _
      simp [rngD]
    · obtain ⟨e, rfl⟩ := y
      subst e
      refine ⟨.int (lo + (i : Int)), ?_, Ext.refl _ _, ok, Rep.int _⟩
      have hlt : i < (hi - lo).toNat := by simpa [rngD] using hi'
      simp [rngD, hlt]
  · exact w1.elim
/-- enumerate of a list -/
def enumD : Nat → List D → List D
  | _, [] => []
  | n, x :: r => .tup [.int (n : Int), x] :: enumD (n + 1) r
theorem enumD_get : ∀ (ds : List D) (n i : Nat), (enumD n ds)[i]? = ds[i]?.map fun d => D.tup [.int ((n + i : Nat) : Int), d]
  | [], n, i => by simp [enumD]
  | x :: r, n, 0 => by simp [enumD]
  | x :: r, n, i + 1 => by
    simp only [enumD, List.getElem?_cons_succ, enumD_get r (n + 1) i]
    rw [show n + 1 + i = n + (i + 1) by omega]
theorem enumD_len : ∀ (ds : List D) (n : Nat), (enumD n ds).length = ds.length
  | [], _ => rfl
  | x :: r, n => by simp [enumD, enumD_len r (n + 1)]
def dEnum : List D → T (List D)
  | [.lst xs] => .ret (enumD 0 xs)
  | _ => .bad
theorem pairNew {K : PySem.W.Frag} {g : Gh} {S : Sto} {H : Hp} {t : Addr} {a b : D} {x y : V} (ok : GOk K Γ g S H) (ht : H t = none) (ra : Rep K Γ g H a x) (rb : Rep K Γ g H b y) :
    Ext g H g (upd H t (.tup [x, y])) ∧ GOk K Γ g S (upd H t (.tup [x, y])) ∧ Rep K Γ g (upd H t (.tup [x, y])) (.tup [a, b]) (.ref t) :=
  ⟨Ext.new ht, ok.new ht, Rep.tup (.inl (.inl upd_same)) ((Reps.cons ra (Reps.cons rb Reps.nil)).mono ((Ext.new ht).mono ok))⟩
theorem si_enum {elts : List Expr} {kk : Nat} {tpos : Pos} {ms : Slots → T (List D)} (hm : X.mg "enumerate" = none) (ha : SA X Γ E [e] ms) (hg : Gl X "enumerate" := by rfl) (hs : starEach [e] X.env = [(false, eval e X.env)] := by rfl) :
    SI X Γ E (.Tuple elts kk tpos) (.Call (.Name "enumerate" p) [e] [] pos) (fun σ => (ms σ).bind dEnum) := by
  obtain ⟨ta, pa, qa⟩ := ha
  refine ⟨_, pi_enum hg hm pa hs, fun g0 H0 σd σ g S H R rs w => useA qa rs w (fun _ _ _ h => h) fun ds S1 vs g1 H1 e1 rs1 r1 w1 => ?_⟩
  unfold dEnum at w1
  split at w1
  · rename_i xs
    simp only [Reps] at r1
    obtain ⟨v, r, rfl, r1, rfl⟩ := r1
    simp only [Rep] at r1
    obtain ⟨a, vs, rfl, h1, h2⟩ := r1
    refine ⟨a, vs, rfl, .inl (.inl h1.2), w1 g1 H1 _ e1 rs1.ok ⟨fun i g2 H2 m hi => ?_, fun g2 H2 m => ?_, fun i g2 S2 H2 x H3 m ok hi y => ?_⟩⟩
    · rw [enumD_len] at hi
      obtain ⟨v, e, _⟩ := h2.getD (List.getElem?_eq_getElem hi)
      exact ⟨vs, v, .inl (.inl (m.lst a vs h1.1 h1.2)), e⟩
    · exact ⟨vs, .inl (.inl (m.lst a vs h1.1 h1.2)), by rw [h2.length, enumD_len]; exact Nat.le_refl _⟩
    · obtain ⟨t, z, rfl, ht, rfl, y⟩ := y
      obtain ⟨d, e1, e2⟩ := h2.get (y vs (.inl (.inl (m.lst a vs h1.1 h1.2))))
      obtain ⟨q1, q2, q3⟩ := pairNew ok ht (Rep.int (i : Int)) (e2.mono m)
      exact ⟨_, by rw [enumD_get, e1]; simp, q1, q2, q3⟩
  · exact w1.elim
/-- zip of two lists, or of two tuples -/
def zipD : List D → List D → List D
  | x :: r, y :: s => .tup [x, y] :: zipD r s
  | _, _ => []
theorem zipD_len : ∀ (a b : List D), (zipD a b).length = min a.length b.length
  | [], b => by simp [zipD]
  | x :: r, [] => by simp [zipD]
  | x :: r, y :: s => by simp [zipD, zipD_len r s] <;> omega
theorem zipD_get : ∀ (a b : List D) (i : Nat) {x y : D}, a[i]? = some x → b[i]? = some y → (zipD a b)[i]? = some (.tup [x, y])
  | [], _, i, _, _, h, _ => by simp at h
  | x :: r, [], i, _, _, _, h => by simp at h
  | x :: r, y :: s, 0, _, _, h, h' => by simp at h h'; subst h h'; simp [zipD]
  | x :: r, y :: s, i + 1, _, _, h, h' => by simpa [zipD] using zipD_get r s i (by simpa using h) (by simpa using h')
def dZip : List D → T (List D)
  | [.lst xs, .lst ys] => .ret (zipD xs ys)
  | [.tup xs, .tup ys] => .ret (zipD xs ys)
  | _ => .bad
theorem si_zip {elts : List Expr} {kk : Nat} {tpos : Pos} {ms : Slots → T (List D)} (hm : X.mg "zip" = none) (ha : SA X Γ E [e, e2] ms) (hg : Gl X "zip" := by rfl)
    (hs : starEach [e, e2] X.env = (false, eval e X.env) :: starEach [e2] X.env := by rfl) (hpl : (backTo pos (starEach [e2] X.env)).any (·.1) = false := by rfl) :
    SI X Γ E (.Tuple elts kk tpos) (.Call (.Name "zip" p) [e, e2] [] pos) (fun σ => (ms σ).bind dZip) := by
  obtain ⟨ta, pa, qa⟩ := ha
  refine ⟨_, pi_zipA hg hm pa hs hpl, fun g0 H0 σd σ g S H R rs w => useA qa rs w (fun _ _ _ h => h) fun ds S1 vs g1 H1 e1 rs1 r1 w1 => ?_⟩
  unfold dZip at w1
  split at w1
  · rename_i xs ys
    simp only [Reps] at r1
    obtain ⟨v, r, rfl, r1, v', r', rfl, r2, rfl⟩ := r1
    simp only [Rep] at r1 r2
    obtain ⟨a, vs, rfl, h1, h2⟩ := r1
    obtain ⟨b, us, rfl, h3, h4⟩ := r2
    refine ⟨a, b, vs, us, rfl, .inl ⟨.inl (.inl h1.2), .inl (.inl h3.2), w1 g1 H1 _ e1 rs1.ok ⟨fun i g2 H2 m hi => ?_, fun g2 H2 m => ?_, fun i g2 S2 H2 x H3 m ok hi y => ?_⟩⟩⟩
    · rw [zipD_len] at hi
      obtain ⟨v, e, _⟩ := h2.getD (List.getElem?_eq_getElem (show i < xs.length by omega))
      obtain ⟨u, e', _⟩ := h4.getD (List.getElem?_eq_getElem (show i < ys.length by omega))
      exact ⟨vs, us, v, u, .inl (.inl (m.lst a vs h1.1 h1.2)), .inl (.inl (m.lst b us h3.1 h3.2)), e, e'⟩
    · refine ⟨vs, us, .inl (.inl (m.lst a vs h1.1 h1.2)), .inl (.inl (m.lst b us h3.1 h3.2)), ?_⟩
      rw [h2.length, h4.length, zipD_len]
      omega
    · obtain ⟨t, z, z', rfl, ht, rfl, y, y'⟩ := y
      obtain ⟨d, e1, e2⟩ := h2.get (y vs (.inl (.inl (m.lst a vs h1.1 h1.2))))
      obtain ⟨d', e1', e2'⟩ := h4.get (y' us (.inl (.inl (m.lst b us h3.1 h3.2))))
      obtain ⟨q1, q2, q3⟩ := pairNew ok ht (e2.mono m) (e2'.mono m)
      exact ⟨_, zipD_get _ _ _ e1 e1', q1, q2, q3⟩
  · rename_i xs ys
    simp only [Reps] at r1
    obtain ⟨v, r, rfl, r1, v', r', rfl, r2, rfl⟩ := r1
    simp only [Rep] at r1 r2
    obtain ⟨a, vs, rfl, h1, h2⟩ := r1
    obtain ⟨b, us, rfl, h3, h4⟩ := r2
    refine ⟨a, b, vs, us, rfl, .inr ⟨h1, h3, w1 g1 H1 _ e1 rs1.ok ⟨fun i g2 H2 m hi => ?_, fun g2 H2 m => ?_, fun i g2 S2 H2 x H3 m ok hi y => ?_⟩⟩⟩
    · rw [zipD_len] at hi
      obtain ⟨v, e, _⟩ := h2.getD (List.getElem?_eq_getElem (show i < xs.length by omega))
      obtain ⟨u, e', _⟩ := h4.getD (List.getElem?_eq_getElem (show i < ys.length by omega))
      exact ⟨vs, us, v, u, m.sqT h1, m.sqT h3, e, e'⟩
    · refine ⟨vs, us, m.sqT h1, m.sqT h3, ?_⟩
      rw [h2.length, h4.length, zipD_len]
      omega
    · obtain ⟨t, z, z', rfl, ht, rfl, y, y'⟩ := y
      obtain ⟨d, e1, e2⟩ := h2.get (y vs (m.sqT h1))
      obtain ⟨d', e1', e2'⟩ := h4.get (y' us (m.sqT h3))
      obtain ⟨q1, q2, q3⟩ := pairNew ok ht (e2.mono m) (e2'.mono m)
      exact ⟨_, zipD_get _ _ _ e1 e1', q1, q2, q3⟩
  · exact w1.elim
end

/-! ## targets -/
inductive Tg where
  | nm (i : Nat) | tp (l : List Tg)
mutual
def Tg.asg : Tg → D → Slots → Option Slots
  | .nm i, d, σ => if i < σ.length then some (σ.set i (.val d)) else none
  | .tp l, d, σ => match d with
    | .tup ds => Tg.asgs l ds σ
    | _ => none
def Tg.asgs : List Tg → List D → Slots → Option Slots
  | [], ds, σ => match ds with | [] => some σ | _ => none
  | t :: r, ds, σ => match ds with
    | d :: ds => (t.asg d σ).bind fun σ' => Tg.asgs r ds σ'
    | _ => none
end
mutual
def Tg.ixs : Tg → List Nat
  | .nm i => [i]
  | .tp l => Tg.ixss l
def Tg.ixss : List Tg → List Nat
  | [] => []
  | t :: r => t.ixs ++ Tg.ixss r
end
def SameOut (is : List Nat) (σ σ' : St) : Prop := σ'.length = σ.length ∧ ∀ i, i ∉ is → σ'[i]? = σ[i]?
theorem SameOut.wipe {is : List Nat} {σ σ' : St} {vs : List Nat} (h : SameOut is σ σ') (hs : ∀ i ∈ is, i ∈ vs) : wipe σ' vs = wipe σ vs := by
  apply List.ext_getElem?
  intro i
  by_cases hi : i ∈ vs
  · have key : ∀ (τ : St) (vs : List Nat), i ∈ vs → (L2.wipe τ vs)[i]? = if i < τ.length then some none else none := by
      intro τ vs
      induction vs with
      | nil => intro h; simp at h
      | cons v vs ih =>
        intro h
        show ((L2.wipe τ vs).set v none)[i]? = _
        by_cases hv : v = i
        · subst hv
          rw [List.getElem?_set]
          simp only [if_true, wipe_length]
        · rw [List.getElem?_set_ne hv]
          exact ih ((List.mem_cons.mp h).resolve_left fun e => hv e.symm)
    rw [key _ _ hi, key _ _ hi, h.1]
  · rw [wipe_out hi, wipe_out hi]
    exact h.2 i fun e => hi (hs i e)
/-- the slots behind a store, whatever stands behind them -/
def Goes (K : PySem.W.Frag) (Γ : Gm) (g0 : Gh) (H0 : Hp) (g : Gh) (S : Sto) (H : Hp) (σd : Slots) (σ : St) (σd' : Slots) (σ' : St) : Prop := ∀ xs os, RS K Γ g0 H0 g S H (σd ++ xs) (σ ++ os) → RS K Γ g0 H0 g S H (σd' ++ xs) (σ' ++ os)
structure SG (X : Cx) (Γ : Gm) (tg : Expr) (t : Tg) : Prop where
  ex : ∃ gt, PG X tg gt ∧ ∀ g0 H0 σd σ g S H d v (Q : St → Hp → Prop) σd', RS X.K Γ g0 H0 g S H σd σ → Rep X.K Γ g H d v → t.asg d σd = some σd' → (∀ σ', Goes X.K Γ g0 H0 g S H σd σ σd' σ' → SameOut t.ixs σ σ' → Q σ' H) → gt v σ H Q
structure SGs (X : Cx) (Γ : Gm) (tgs : List Expr) (t : List Tg) : Prop where
  ex : ∃ gt, PGs X tgs gt ∧ ∀ g0 H0 σd σ g S H d v (Q : St → Hp → Prop) σd', RS X.K Γ g0 H0 g S H σd σ → Reps X.K Γ g H d v → Tg.asgs t d σd = some σd' → (∀ σ', Goes X.K Γ g0 H0 g S H σd σ σd' σ' → SameOut (Tg.ixss t) σ σ' → Q σ' H) → gt v σ H Q
section
variable {X : Cx} {Γ : Gm} {tg : Expr} {pos : Pos}
theorem Goes.rs {K : PySem.W.Frag} {g0 g : Gh} {H0 H : Hp} {S : Sto} {σd σd' : Slots} {σ σ' : St} (h : Goes K Γ g0 H0 g S H σd σ σd' σ') (rs : RS K Γ g0 H0 g S H σd σ) : RS K Γ g0 H0 g S H σd' σ' := by
  have := h [] []
  simp only [List.append_nil] at this
  exact this rs
theorem sg_nm (i : Nat) {x : Str} (hN : X.N.Nodup) (hi : X.N[i]? = some x := by rfl) (hx : Loc X.env.scope x := by first | exact Or.inl rfl | exact Or.inr rfl) (hf : X.fn x = true ∨ X.env.scope.names.lookup x = some .local := by first | exact .inl rfl | exact .inr rfl) : SG X Γ (.Name x pos) (.nm i) := by
  refine ⟨_, pg_name hN hi hx hf, fun g0 H0 σd σ g S H d v Q σd' rs r e k => ?_⟩
  simp only [Tg.asg] at e
  by_cases hlt : i < σd.length
  · rw [if_pos hlt] at e
    simp only [Option.some.injEq] at e
    subst e
    refine k _ (fun xs os rs' => ?_) ⟨by simp, fun j hj => by rw [List.getElem?_set_ne]; intro z; exact hj (by simp [Tg.ixs, z])⟩
    have := rs'.set i r
    rw [List.set_append_left _ _ hlt, List.set_append_left _ _ (by rw [rs.len]; exact hlt)] at this
    exact this
  · rw [if_neg hlt] at e; cases e
theorem sgs_nil : SGs X Γ [] [] := by
  refine ⟨_, pgs_nil, fun g0 H0 σd σ g S H d v Q σd' rs r e k => ?_⟩
  cases d with
  | nil =>
    simp only [Tg.asgs, Option.some.injEq] at e
    subst e
    simp only [Reps] at r
    exact ⟨r, k _ (fun _ _ h => h) ⟨rfl, fun _ _ => rfl⟩⟩
  | cons _ _ => simp [Tg.asgs] at e
theorem sgs_cons {es : List Expr} {t : Tg} {ts : List Tg} (h : SG X Γ tg t) (h' : SGs X Γ es ts) (hs : (assignEach (tg :: es) X.env).map (·.2) = assign tg X.env :: (assignEach es X.env).map (·.2) := by rfl) : SGs X Γ (tg :: es) (t :: ts) := by
  obtain ⟨g1, p1, q1⟩ := h
  obtain ⟨g2, p2, q2⟩ := h'
  refine ⟨_, pgs_cons p1 p2 hs, fun g0 H0 σd σ g S H d v Q σd' rs r e k => ?_⟩
  cases d with
  | nil => simp [Tg.asgs] at e
  | cons d ds =>
    simp only [Reps] at r
    obtain ⟨v, us, rfl, r1, r2⟩ := r
    simp only [Tg.asgs] at e
    obtain ⟨σd1, e1, e2⟩ := Option.bind_eq_some_iff.mp e
    refine ⟨v, us, rfl, q1 _ _ _ _ _ _ _ _ _ _ _ rs r1 e1 fun σ1 rs1 so1 => q2 _ _ _ _ _ _ _ _ _ _ _ (rs1.rs rs) r2 e2 fun σ2 rs2 so2 => k _ (fun xs os h => rs2 xs os (rs1 xs os h)) ⟨so2.1.trans so1.1, fun i hi => ?_⟩⟩
    simp only [Tg.ixss, List.mem_append, not_or] at hi
    exact (so2.2 i hi.2).trans (so1.2 i hi.1)
theorem asgs_len : ∀ (ts : List Tg) (ds : List D) (σ σ' : Slots), Tg.asgs ts ds σ = some σ' → ds.length = ts.length
  | [], [], _, _, _ => rfl
  | [], _ :: _, _, _, h => by simp [Tg.asgs] at h
  | _ :: _, [], _, _, h => by simp [Tg.asgs] at h
  | t :: ts, d :: ds, σ, σ', h => by
    simp only [Tg.asgs] at h
    obtain ⟨σ1, e1, e2⟩ := Option.bind_eq_some_iff.mp h
    simp [asgs_len ts ds _ _ e2]
theorem sg_tp {es : List Expr} {k : Nat} {ts : List Tg} (hc : X.calm = true) (h : SGs X Γ es ts)
    (hn : (assignEach es X.env).length = ts.length := by rfl) (hst : (assignEach es X.env).findIdx? (·.1) = none := by rfl) : SG X Γ (.Tuple es k pos) (.tp ts) := by
  obtain ⟨g1, p1, q1⟩ := h
  refine ⟨_, pg_tup hc p1 hn hst, fun g0 H0 σd σ g S H d v Q σd' rs r e kk => ?_⟩
  cases d with
  | tup ds =>
    simp only [Tg.asg] at e
    simp only [Rep] at r
    obtain ⟨a, xs, rfl, h1, h2⟩ := r
    exact ⟨a, xs, rfl, h1, by rw [h2.length]; exact asgs_len _ _ _ _ e, q1 _ _ _ _ _ _ _ _ _ _ _ rs h2 e fun σ' rs' so => kk σ' rs' so⟩
  | _ => simp [Tg.asg] at e
end
end KT
namespace KT
open PySem PySem.Spec PyProof.Rows L2 RZ

/-! ## readings that hang on the plain function alone -/
abbrev XE0 : XK := fun _ _ _ => False
def tCan (K : PySem.W.Frag) (Γ : Gm) (E : XK) (m : Slots → T D) : TE := fun σ H Q => ∃ g0 H0 σd g S, RS K Γ g0 H0 g S H σd σ ∧ W (m σd) (PQ K Γ g H Q) (PX K Γ g H E) S
def ttCan (K : PySem.W.Frag) (Γ : Gm) (E : XK) (m : Slots → T Bool) : TT := fun σ H Q => ∃ g0 H0 σd g S, RS K Γ g0 H0 g S H σd σ ∧ W (m σd) (PQb K Γ g H Q) (PX K Γ g H E) S
def iCan (K : PySem.W.Frag) (Γ : Gm) (E : XK) (m : Slots → T (List D)) : TI := fun σ H R => ∃ g0 H0 σd g S, RS K Γ g0 H0 g S H σd σ ∧ W (m σd) (fun ds S' => ∀ g' H' J, Ext g H g' H' → GOk K Γ g' S' H' → WkD K Γ g' H' J ds → R J H') (PX K Γ g H E) S
def gCan (K : PySem.W.Frag) (Γ : Gm) (t : Tg) : TG := fun v σ H Q => ∃ g0 H0 σd g S d σd', RS K Γ g0 H0 g S H σd σ ∧ Rep K Γ g H d v ∧ t.asg d σd = some σd' ∧ ∀ σ', Goes K Γ g0 H0 g S H σd σ σd' σ' → SameOut t.ixs σ σ' → Q σ' H
section
variable {X : Cx} {Γ : Gm} {E : XK} {e tg : Expr}
theorem SE.can {m : Slots → T D} (h : SE X Γ E e m) : PE X e (tCan X.K Γ E m) := by
  obtain ⟨t, p, q⟩ := h
  exact ⟨fun pins s σ H Q I ⟨g0, H0, σd, g, S, rs, w⟩ => p.run pins s σ H Q I (q _ _ _ _ _ _ _ _ rs w)⟩
theorem ST.can {m : Slots → T Bool} (h : ST X Γ E e m) : PT X e (ttCan X.K Γ E m) := by
  obtain ⟨t, p, q⟩ := h
  exact ⟨fun pins s σ H Q I ⟨g0, H0, σd, g, S, rs, w⟩ => p.run pins s σ H Q I (q _ _ _ _ _ _ _ _ rs w)⟩
theorem SI.can {m : Slots → T (List D)} (h : SI X Γ E tg e m) : PI X tg e (iCan X.K Γ E m) := by
  obtain ⟨t, p, q⟩ := h
  exact ⟨fun pins s σ H Q I ⟨g0, H0, σd, g, S, rs, w⟩ => p.run pins s σ H Q I (q _ _ _ _ _ _ _ _ rs w)⟩
theorem SG.can {t : Tg} (h : SG X Γ tg t) : PG X tg (gCan X.K Γ t) := by
  obtain ⟨gt, p, q⟩ := h
  exact ⟨fun pins s σ H v u Q I r ⟨g0, H0, σd, g, S, d, σd', rs, rd, e, k⟩ => p.run pins s σ H v u Q I r (q _ _ _ _ _ _ _ _ _ _ _ rs rd e k)⟩
/-- a clause's tests -/
structure STs (X : Cx) (Γ : Gm) (E : XK) (ifs : List Expr) (m : Slots → T Bool) : Prop where
  ex : PTs X ifs (ttCan X.K Γ E m)
def mYes (_ : Slots) : T Bool := .ret true
theorem sts_nil : STs X Γ E [] mYes := ⟨⟨fun pins s σ H Q I ⟨g0, H0, σd, g, S, rs, w⟩ => pts_nil.run pins s σ H Q I (w g H (Ext.refl g H) rs.ok)⟩⟩
theorem sts_one {c : Expr} {m : Slots → T Bool} (h : ST X Γ E c m) : STs X Γ E [c] m := ⟨pts_one h.can⟩
end

/-! ## fresh lists -/
def PO (K : PySem.W.Frag) (Γ : Gm) (g : Gh) (H : Hp) (Q : VK) : List D → Sto → Prop := fun ds S' => ∀ p xs g' H', Ext g H g' H' → GOk K Γ g' S' H' → H p = none → H' p = some (.lst xs) → ¬ g'.fz p → ¬ g'.mut p → Reps K Γ g' H' ds xs → Q (.ref p) H'
structure SO (X : Cx) (Γ : Gm) (E : XK) (e : Expr) (m : Slots → T (List D)) : Prop where
  ex : ∃ t, PE X e t ∧ ∀ g0 H0 σd σ g S H Q, RS X.K Γ g0 H0 g S H σd σ → W (m σd) (PO X.K Γ g H Q) (PX X.K Γ g H E) S → t σ H Q
def mFz (m : Slots → T (List D)) (σ : Slots) : T D := (m σ).bind fun ds => .ret (.lst ds)
section
variable {K : PySem.W.Frag} {Γ : Gm} {g g' g1 : Gh} {S : Sto} {H H' H1 : Hp} {p : Addr} {xs : List V}
theorem Ext.addF (e : Ext g H g' H') (h : H p = none) : Ext g H (g'.add p) H' :=
  ⟨fun b hb => .inl (e.fz b hb), fun b hb => hb.elim (e.fzn b) fun z => .inr (by rw [z]; exact h), e.cup, e.cupn, e.sto, e.keep, e.trk⟩
theorem GOk.addF (ok : GOk K Γ g S H) (h : H p = some (.lst xs)) (n : ¬ g.mut p) : GOk K Γ (g.add p) S H where
  cup := fun c hc => by
    obtain ⟨h1, h2, r⟩ := ok.cup c hc
    refine ⟨?_, h2, r⟩
    rintro (z | z)
    · exact h1 z
    · exact n (.inl (by rw [← z]; exact hc))
  fz := fun b hb => by
    rcases hb with hb | rfl
    · exact ok.fz b hb
    · exact ⟨xs, h⟩
  len := ok.len
  nd := ok.nd
  sto := fun i a o h1 h2 => (ok.sto i a o h1 h2).mono (Mono.add g H p) rfl
theorem PO.ext {Q : VK} (e : Ext g H g1 H1) {d : List D} {s : Sto} (h : PO K Γ g H Q d s) : PO K Γ g1 H1 Q d s := fun p xs g' H' e' ok n => h p xs g' H' (e.trans e') ok (e.trk p n)
end
section
variable {X : Cx} {Γ : Gm} {E : XK} {e tg iter elt : Expr}
theorem SO.se {m : Slots → T (List D)} (h : SO X Γ E e m) : SE X Γ E e (mFz m) := by
  obtain ⟨t, p, q⟩ := h
  refine ⟨t, p, fun g0 H0 σd σ g S H Q rs w => q _ _ _ _ _ _ _ _ rs (W_mono _ (fun ds s w1 p xs g' H' e' ok hn hp nf nm r => ?_) (fun _ _ _ h => h) (W_bind _ _ |>.mp w))⟩
  exact w1 _ (g'.add p) H' (e'.addF hn) (ok.addF hp nm) (Rep.lst (.inr rfl) hp (r.mono (Mono.add g' H' p)))

/-! ## comprehensions -/
def wipeD (σ : Slots) : List Nat → Slots
  | [] => σ
  | v :: vs => (wipeD σ vs).set v .emp
theorem RS.wipe {K : PySem.W.Frag} {g0 g : Gh} {S : Sto} {H0 H : Hp} {σd : Slots} {σ : St} (rs : RS K Γ g0 H0 g S H σd σ) : ∀ vs : List Nat, RS K Γ g0 H0 g S H (wipeD σd vs) (L2.wipe σ vs)
  | [] => rs
  | v :: vs => (RS.wipe rs vs).wipe1 v
def cTurn (t : Tg) (test : Slots → T Bool) (elt : Slots → T D) (σ : Slots) : List D → T (List D)
  | [] => .ret []
  | x :: r => match t.asg x σ with
    | none => .bad
    | some σ' => ((test σ').noexc).bind fun b => if b then ((elt σ').noexc).bind fun y => (cTurn t test elt σ r).bind fun ys => .ret (y :: ys) else cTurn t test elt σ r
def mComp (vs : List Nat) (t : Tg) (test : Slots → T Bool) (elt : Slots → T D) (items : Slots → T (List D)) (σ : Slots) : T (List D) := (items σ).bind fun xs => if xs.length ≤ lim then cTurn t test elt (wipeD σ vs) xs else .bad
theorem Ext.updN {g g' : Gh} {H H' : Hp} {p : Addr} {o : HO} (e : Ext g H g' H') (n : H p = none) (t : H' p ≠ none) : Ext g H g' (upd H' p o) :=
  ⟨e.fz, e.fzn, e.cup, e.cupn, e.sto, fun b u h m => by rw [upd_ne (ne_of_none h n)]; exact e.keep b u h m, fun b h => by
    by_cases hb : b = p
    · subst hb; exact n
    · rw [upd_ne hb] at h; exact e.trk b h⟩
theorem Mono.updL {g : Gh} {H : Hp} {p : Addr} {xs : List V} {o : HO} (h : H p = some (.lst xs)) (n : ¬ g.fz p) : Mono g H g (upd H p o) where
  fz := fun _ h => h
  lst := fun b ys f e => by
    have : b ≠ p := fun z => n (z ▸ f)
    rw [upd_ne this]; exact e
  tup := fun b ys e => by rw [upd_ne (ne_of e h (by simp))]; exact e
  frz := fun b u ys e => by rw [upd_ne (ne_of e h (by simp))]; exact e
  rng := fun b lo hi e => by rw [upd_ne (ne_of e h (by simp))]; exact e
  cup := fun _ h => h
  sto := fun _ _ h => h
theorem GOk.updL {K : PySem.W.Frag} {g : Gh} {S : Sto} {H : Hp} {p : Addr} {xs : List V} {o : HO} (ok : GOk K Γ g S H) (h : H p = some (.lst xs)) (n : ¬ g.fz p) (m : ¬ g.mut p) : GOk K Γ g S (upd H p o) where
  cup := fun c hc => by
    obtain ⟨h1, h2, x, y, e, r⟩ := ok.cup c hc
    have : c ≠ p := fun z => m (.inl (z ▸ hc))
    exact ⟨h1, h2, x, y, by rw [upd_ne this]; exact e, r⟩
  fz := fun b hb => by
    obtain ⟨xs, e⟩ := ok.fz b hb
    have : b ≠ p := fun z => n (z ▸ hb)
    exact ⟨xs, by rw [upd_ne this]; exact e⟩
  len := ok.len
  nd := ok.nd
  sto := fun i a ob h1 h2 => by
    have : a ≠ p := fun z => m (.inr (z ▸ List.mem_of_getElem? h1))
    exact (ok.sto i a ob h1 h2).mono (Mono.updL h n) (upd_ne this)
/-- a list that its slot owns is written -/
theorem RS.updO {K : PySem.W.Frag} {g0 g : Gh} {S : Sto} {H0 H : Hp} {σd : Slots} {σ : St} {i : Nat} {ds ds' : List D} {vs' : List V} (rs : RS K Γ g0 H0 g S H σd σ) (h : σd[i]? = some (.own ds)) (rr : Reps K Γ g H ds' vs') :
    ∃ a xs, σ[i]? = some (some (.ref a)) ∧ H a = some (.lst xs) ∧ Reps K Γ g H ds xs ∧ ¬ g.fz a ∧ ¬ g.mut a ∧ H0 a = none ∧ RS K Γ g0 H0 g S (upd H a (.lst vs')) (σd.set i (.own ds')) σ := by
  obtain ⟨ok, e0, as, h1, h2, h3⟩ := rs
  obtain ⟨o, l, e1, e2, a, xs, rfl, ha, hr, rfl⟩ := h1.get h
  have hm : a ∈ as.flatten := List.mem_flatten.mpr ⟨[a], List.mem_of_getElem? e2, by simp⟩
  obtain ⟨n1, n2, n3⟩ := h3 a hm
  have mo : Mono g H g (upd H a (.lst vs')) := Mono.updL ha n1
  refine ⟨a, xs, e1, ha, hr, n1, n2, n3, ok.updL ha n1 n2, e0.updN n3 (by rw [ha]; simp), as.set i [a], ?_, ?_, fun b hb => ?_⟩
  · -- the other slots
    have key : ∀ {σd : Slots} {σ : St} {as : List (List Addr)} {i : Nat}, RSs K Γ g H σd σ as → as[i]? = some [a] → σ[i]? = some (some (.ref a)) → as.flatten.Nodup → RSs K Γ g (upd H a (.lst vs')) (σd.set i (.own ds')) σ (as.set i [a]) := by
      intro σd
      induction σd with
      | nil => intro σ as i h e _ _; cases h.1; cases h.2; simp at e
      | cons x r ih =>
        intro σ as i h e eσ nd
        obtain ⟨o, t, a0, b0, rfl, rfl, q1, q2⟩ := h
        cases i with
        | zero =>
          simp at e eσ
          subst e eσ
          refine ⟨_, _, _, _, rfl, rfl, ⟨a, vs', rfl, upd_same, rr.mono mo, rfl⟩, q2.mono mo fun b hb => upd_ne fun z => ?_⟩
          subst z
          rw [List.flatten_cons] at nd
          exact (List.nodup_append.mp nd).2.2 b (by simp) b hb rfl
        | succ i =>
          simp at e eσ
          rw [List.flatten_cons] at nd
          refine ⟨_, _, _, _, rfl, rfl, q1.mono mo fun b hb => upd_ne fun z => ?_, ih q2 e eσ (List.nodup_append.mp nd).2.1⟩
          subst z
          exact (List.nodup_append.mp nd).2.2 b hb b (List.mem_flatten.mpr ⟨[b], List.mem_of_getElem? e, by simp⟩) rfl
    exact key h1 e2 e1 h2
  · have : as.set i [a] = as := by
      apply List.ext_getElem?
      intro j
      by_cases hj : i = j
      · subst hj
        rw [List.getElem?_set]
        simp only [if_true]
        rw [if_pos (List.getElem?_eq_some_iff.mp e2).1, e2]
      · rw [List.getElem?_set_ne hj]
    rw [this]; exact h2
  · rcases mem_flatten_set hb with hb | hb
    · simp at hb; subst hb; exact ⟨n1, n2, n3⟩
    · exact h3 b hb
/-- slots behind are dropped -/
theorem RSs.front {K : PySem.W.Frag} {g : Gh} {H : Hp} : ∀ {σd xs : Slots} {σ os : St} {as : List (List Addr)}, σ.length = σd.length → RSs K Γ g H (σd ++ xs) (σ ++ os) as → ∃ a b, as = a ++ b ∧ RSs K Γ g H σd σ a ∧ RSs K Γ g H xs os b
  | [], xs, σ, os, as, hl, h => by
    have : σ = [] := List.eq_nil_of_length_eq_zero hl
    subst this
    exact ⟨[], as, rfl, ⟨rfl, rfl⟩, h⟩
  | x :: r, xs, [], os, as, hl, h => by simp at hl
  | x :: r, xs, o :: t, os, as, hl, h => by
    obtain ⟨o', t', a, b, e, rfl, h1, h2⟩ := h
    simp only [List.cons_append, List.cons.injEq] at e
    obtain ⟨rfl, rfl⟩ := e
    obtain ⟨a', b', rfl, h3, h4⟩ := RSs.front (by simpa using hl) h2
    exact ⟨a :: a', b', rfl, ⟨_, _, _, _, rfl, rfl, h1, h3⟩, h4⟩
theorem RSs.back {K : PySem.W.Frag} {g : Gh} {H : Hp} : ∀ {σd xs : Slots} {σ os : St} {a b : List (List Addr)}, RSs K Γ g H σd σ a → RSs K Γ g H xs os b → RSs K Γ g H (σd ++ xs) (σ ++ os) (a ++ b)
  | [], xs, σ, os, a, b, h, h' => by cases h.1; cases h.2; exact h'
  | x :: r, xs, σ, os, a, b, h, h' => by
    obtain ⟨o, t, a, c, rfl, rfl, h1, h2⟩ := h
    exact ⟨_, _, _, _, rfl, rfl, h1, RSs.back h2 h'⟩
theorem RS.front {K : PySem.W.Frag} {g0 g : Gh} {S : Sto} {H0 H : Hp} {σd xs : Slots} {σ os : St} (hl : σ.length = σd.length) (rs : RS K Γ g0 H0 g S H (σd ++ xs) (σ ++ os)) : RS K Γ g0 H0 g S H σd σ := by
  obtain ⟨ok, e0, as, h1, h2, h3⟩ := rs
  obtain ⟨a, b, rfl, h4, _⟩ := h1.front hl
  rw [List.flatten_append] at h2
  exact ⟨ok, e0, a, h4, (List.nodup_append.mp h2).1, fun c hc => h3 c (by rw [List.flatten_append, List.mem_append]; exact .inl hc)⟩
/-- a new list is owned by one more slot -/
theorem RS.newO {K : PySem.W.Frag} {g0 g : Gh} {S : Sto} {H0 H : Hp} {σd : Slots} {σ : St} {L : Addr} {ds : List D} {vs : List V} (rs : RS K Γ g0 H0 g S H σd σ) (h : H L = some (.lst vs)) (r : Reps K Γ g H ds vs) (n1 : ¬ g.fz L) (n2 : ¬ g.mut L) (n3 : H0 L = none)
    (n4 : ∀ as, RSs K Γ g H σd σ as → L ∉ as.flatten) : RS K Γ g0 H0 g S H (σd ++ [.own ds]) (σ ++ [some (.ref L)]) := by
  obtain ⟨ok, e0, as, h1, h2, h3⟩ := rs
  refine ⟨ok, e0, as ++ [[L]], h1.back ⟨_, _, _, _, rfl, rfl, ⟨L, vs, rfl, h, r, rfl⟩, rfl, rfl⟩, ?_, fun b hb => ?_⟩
  · rw [List.flatten_append]
    refine List.nodup_append.mpr ⟨h2, by simp, fun a ha b hb e => ?_⟩
    subst e
    simp at hb; subst hb
    exact n4 as h1 ha
  · rw [List.flatten_append, List.mem_append] at hb
    rcases hb with hb | hb
    · exact h3 b hb
    · simp at hb; subst hb; exact ⟨n1, n2, n3⟩
theorem fresh_nf {K : PySem.W.Frag} {g : Gh} {S : Sto} {H : Hp} {L : Addr} (ok : GOk K Γ g S H) (h : H L = none) : ¬ g.fz L ∧ ¬ g.mut L := by
  refine ⟨fun f => ?_, fun f => ?_⟩
  · obtain ⟨xs, z⟩ := ok.fz L f; rw [h] at z; cases z
  · rcases f with f | f
    · obtain ⟨_, _, x, y, z, _⟩ := ok.cup L f; rw [h] at z; cases z
    · obtain ⟨i, hi, e⟩ := List.getElem_of_mem f
      have e' : g.sto[i]? = some L := by rw [List.getElem?_eq_getElem hi, e]
      have hl : i < S.length := by rw [← ok.len]; exact hi
      obtain ⟨C, dx, fs, _, z, _⟩ := ok.sto i L S[i] e' (by simp [hl])
      rw [h] at z; cases z
theorem RS.start {K : PySem.W.Frag} {g0 g : Gh} {S : Sto} {H0 H : Hp} {σd : Slots} {σ : St} {L : Addr} {ds : List D} {vs : List V} (rs : RS K Γ g0 H0 g S H σd σ) (h : H L = none) (r : Reps K Γ g H ds vs) : RS K Γ g0 H0 g S (upd H L (.lst vs)) (σd ++ [.own ds]) (σ ++ [some (.ref L)]) := by
  obtain ⟨n1, n2⟩ := fresh_nf rs.ok h
  have e : Ext g H g (upd H L (.lst vs)) := Ext.new h
  have ok := rs.ok.new (o := .lst vs) h
  have n4 : ∀ as, RSs K Γ g H σd σ as → L ∉ as.flatten := fun as q hb => by
    obtain ⟨xs, z⟩ := q.trk L hb; rw [h] at z; cases z
  obtain ⟨_, _, as, q1, q2, q3⟩ := id rs
  have nm : L ∉ as.flatten := n4 as q1
  refine ⟨ok, rs.ext.trans e, as ++ [[L]], (q1.mono (e.mono rs.ok) fun b hb => upd_ne fun z => nm (z ▸ hb)).back ⟨_, _, _, _, rfl, rfl, ⟨L, vs, rfl, upd_same, r.mono (e.mono rs.ok), rfl⟩, rfl, rfl⟩, ?_, fun b hb => ?_⟩
  · rw [List.flatten_append]
    refine List.nodup_append.mpr ⟨q2, by simp, fun a ha b hb e => ?_⟩
    subst e
    simp at hb; subst hb
    exact nm ha
  · rw [List.flatten_append, List.mem_append] at hb
    rcases hb with hb | hb
    · exact q3 b hb
    · simp at hb; subst hb; exact ⟨n1, n2, rs.ext.trk b h⟩
/-- a list that was new since is owned by one more slot -/
theorem RS.later {K : PySem.W.Frag} {g0 g g1 : Gh} {S S1 : Sto} {H0 H H1 : Hp} {σd : Slots} {σ : St} {L : Addr} {ds : List D} {xs : List V} (rs : RS K Γ g0 H0 g1 S1 H1 σd σ) (e : Ext g1 H1 g H) (ok : GOk K Γ g S H) (hL : H1 L = none) (hx : H L = some (.lst xs)) (hr : Reps K Γ g H ds xs) (nf : ¬ g.fz L) (nm : ¬ g.mut L) :
    RS K Γ g0 H0 g S H (σd ++ [.own ds]) (σ ++ [some (.ref L)]) := by
  obtain ⟨ok0, e0, as, h1, h2, h3⟩ := rs
  have trk := h1.trk
  have nL : L ∉ as.flatten := fun hb => by obtain ⟨xs, z⟩ := trk L hb; rw [hL] at z; cases z
  refine ⟨ok, e0.trans e, as ++ [[L]], (h1.mono (e.mono ok0) fun b hb => ?_).back ⟨_, _, _, _, rfl, rfl, ⟨L, xs, rfl, hx, hr, rfl⟩, rfl, rfl⟩, ?_, fun b hb => ?_⟩
  · obtain ⟨xs, z⟩ := trk b hb
    rw [z]
    exact e.keep b _ z (h3 b hb).2.1
  · rw [List.flatten_append]
    refine List.nodup_append.mpr ⟨h2, by simp, fun a ha b hb e => ?_⟩
    subst e
    simp at hb; subst hb
    exact nL ha
  · rw [List.flatten_append, List.mem_append] at hb
    rcases hb with hb | hb
    · obtain ⟨xs, z⟩ := trk b hb
      obtain ⟨n1, n2, n3⟩ := h3 b hb
      refine ⟨fun f => ?_, e.nomut z n2, n3⟩
      rcases e.fzn b f with f | f
      · exact n1 f
      · rw [z] at f; cases f
    · simp at hb; subst hb; exact ⟨nf, nm, e0.trk b hL⟩
/-- where a comprehension stands: its list is owned by one more slot -/
structure CompAt (K : PySem.W.Frag) (Γ : Gm) (g0 : Gh) (H0 : Hp) (gb : Gh) (Hb : Hp) (L : Addr) (σd : Slots) (σ : St) (g : Gh) (S : Sto) (H : Hp) (acc : List D) : Prop where
  rs : RS K Γ g0 H0 g S H (σd ++ [.own acc]) (σ ++ [some (.ref L)])
  ext : Ext gb Hb g H
  len : σ.length = σd.length
section
variable {K : PySem.W.Frag} {g0 gb g g' : Gh} {S S' : Sto} {H0 Hb H H' : Hp} {L : Addr} {acc : List D} {σd σd' : Slots} {σ σ' : St}
theorem CompAt.next (c : CompAt K Γ g0 H0 gb Hb L σd σ g S H acc) (e : Ext g H g' H') (ok : GOk K Γ g' S' H') : CompAt K Γ g0 H0 gb Hb L σd σ g' S' H' acc := ⟨c.rs.mono e ok, c.ext.trans e, c.len⟩
theorem CompAt.own (c : CompAt K Γ g0 H0 gb Hb L σd σ g S H acc) : (σd ++ [Slot.own acc])[σd.length]? = some (.own acc) := by simp
theorem CompAt.app (c : CompAt K Γ g0 H0 gb Hb L σd σ g S H acc) (n : Hb L = none) {d : D} {v : V} (r : Rep K Γ g H d v) : ∃ xs, H L = some (.lst xs) ∧ xs.length = acc.length ∧ CompAt K Γ g0 H0 gb Hb L σd σ g S (upd H L (.lst (xs ++ [v]))) (acc ++ [d]) := by
  obtain ⟨as, q1, _⟩ := id c.rs.sl
  obtain ⟨o, l, e1, _, a, xs, e3, ha, hr, _⟩ := q1.get c.own
  rw [e3] at e1
  have eL : L = a := by
    have : (σ ++ [some (V.ref L)])[σd.length]? = some (some (V.ref L)) := by rw [← c.len]; simp
    rw [this] at e1
    simpa using e1
  subst eL
  obtain ⟨a', xs', e1', ha', hr', n1, n2, n3, rs'⟩ := c.rs.updO (ds' := acc ++ [d]) (vs' := xs ++ [v]) c.own (hr.append (Reps.cons r Reps.nil))
  have ea : a' = L := by
    have : (σ ++ [some (V.ref L)])[σd.length]? = some (some (V.ref L)) := by rw [← c.len]; simp
    rw [this] at e1'
    simpa using e1'.symm
  subst ea
  rw [List.set_append_right _ _ (Nat.le_refl _), Nat.sub_self] at rs'
  exact ⟨xs, ha, hr.length, rs', c.ext.updN n (by rw [ha]; simp), c.len⟩
theorem CompAt.slots (c : CompAt K Γ g0 H0 gb Hb L σd σ g S H acc) : RS K Γ g0 H0 g S H σd σ := c.rs.front c.len
theorem CompAt.goes (c : CompAt K Γ g0 H0 gb Hb L σd σ g S H acc) (h : Goes K Γ g0 H0 g S H σd σ σd' σ') : CompAt K Γ g0 H0 gb Hb L σd' σ' g S H acc := ⟨h _ _ c.rs, c.ext, (h.rs c.slots).len⟩
theorem CompAt.wipe (c : CompAt K Γ g0 H0 gb Hb L σd σ g S H acc) (vs : List Nat) (hv : ∀ i ∈ vs, i < σd.length) : CompAt K Γ g0 H0 gb Hb L (wipeD σd vs) (L2.wipe σ vs) g S H acc := by
  have key : ∀ vs : List Nat, (∀ i ∈ vs, i < σd.length) → wipeD (σd ++ [.own acc]) vs = wipeD σd vs ++ [.own acc] ∧ L2.wipe (σ ++ [some (.ref L)]) vs = L2.wipe σ vs ++ [some (.ref L)] ∧ (wipeD σd vs).length = σd.length := by
    intro vs
    induction vs with
    | nil => intro _; exact ⟨rfl, rfl, rfl⟩
    | cons v vs ih =>
      intro hv
      obtain ⟨h1, h2, h3⟩ := ih fun i hi => hv i (by simp [hi])
      have hv' : v < σd.length := hv v (by simp)
      refine ⟨?_, ?_, ?_⟩
      · show (wipeD (σd ++ [.own acc]) vs).set v .emp = (wipeD σd vs).set v .emp ++ _
        rw [h1, List.set_append_left _ _ (by omega)]
      · show (L2.wipe (σ ++ [some (.ref L)]) vs).set v none = (L2.wipe σ vs).set v none ++ _
        rw [h2, List.set_append_left _ _ (by rw [wipe_length, c.len]; exact hv')]
      · show ((wipeD σd vs).set v .emp).length = _
        rw [List.length_set, h3]
  obtain ⟨h1, h2, h3⟩ := key vs hv
  have := c.rs.wipe vs
  rw [h1, h2] at this
  exact ⟨this, c.ext, by rw [wipe_length, c.len, h3]⟩
theorem CompAt.fin (c : CompAt K Γ g0 H0 gb Hb L σd σ g S H acc) : ∃ xs, H L = some (.lst xs) ∧ Reps K Γ g H acc xs ∧ ¬ g.fz L ∧ ¬ g.mut L := by
  obtain ⟨as, q1, _, q3⟩ := id c.rs.sl
  obtain ⟨o, l, e1, e2, a, xs, e3, ha, hr, e4⟩ := q1.get c.own
  rw [e3] at e1
  have eL : L = a := by
    have : (σ ++ [some (V.ref L)])[σd.length]? = some (some (V.ref L)) := by rw [← c.len]; simp
    rw [this] at e1
    simpa using e1
  subst eL
  have := q3 L (List.mem_flatten.mpr ⟨l, List.mem_of_getElem? e2, by simp [e4]⟩)
  exact ⟨xs, ha, hr, this.1, this.2.1⟩
end
abbrev blkX (X : Cx) (scope : Scope) (s : Shared) (H : Hp) (C : Addr) (cl : List (Str × Addr)) (fp : List Addr) : Cx := X.blk s H scope (compEnvC scope cl C X.env) fp
theorem drop_at {ds : List D} {i : Nat} {d : D} (h : ds[i]? = some d) : ds.drop i = d :: ds.drop (i + 1) := by
  obtain ⟨hlt, e⟩ := List.getElem?_eq_some_iff.mp h
  rw [← e]
  exact List.drop_eq_getElem_cons hlt
theorem wipe_wipe (τ : St) (vs : List Nat) : L2.wipe (L2.wipe τ vs) vs = L2.wipe τ vs := by
  apply List.ext_getElem?
  intro j
  by_cases hj : j ∈ vs
  · have key : ∀ (τ : St) (vs : List Nat), j ∈ vs → (L2.wipe τ vs)[j]? = if j < τ.length then some none else none := by
      intro τ vs
      induction vs with
      | nil => intro h; simp at h
      | cons v vs ih =>
        intro h
        show ((L2.wipe τ vs).set v none)[j]? = _
        by_cases hv : v = j
        · subst hv
          rw [List.getElem?_set]
          simp only [if_true, wipe_length]
        · rw [List.getElem?_set_ne hv]
          exact ih ((List.mem_cons.mp h).resolve_left fun e => hv e.symm)
    rw [key _ _ hj, key _ _ hj, wipe_length]
  · rw [wipe_out hj]
/-- one clause's turns, from a state on; P is wanted of the list behind -/
theorem turns {K : PySem.W.Frag} {vs : List Nat} {t : Tg} {test : Slots → T Bool} {me : Slots → T D} {g0 gb gw : Gh} {H0 Hb Hw : Hp} {L : Addr} {σd : Slots} {σ : St} {J : It} {ds acc0 : List D} {P : List D → Sto → Prop} {Px : Nat → List D → Sto → Prop} {Qd : Hp → Prop} {H1 : Hp}
    (hv : ∀ i ∈ t.ixs, i ∈ vs) (hL : Hb L = none) (wk : WkD K Γ gw Hw J ds) (hlen : acc0.length + ds.length ≤ lim)
    (h0 : ∃ g1 S1, CompAt K Γ g0 H0 gb Hb L (wipeD σd vs) (L2.wipe σ vs) g1 S1 H1 acc0 ∧ Mono gw Hw g1 H1 ∧ W (cTurn t test me (wipeD σd vs) ds) (fun ys s => P (acc0 ++ ys) s) Px S1)
    (hd : ∀ g2 S2 H2 acc, CompAt K Γ g0 H0 gb Hb L (wipeD σd vs) (L2.wipe σ vs) g2 S2 H2 acc → Mono gw Hw g2 H2 → P acc S2 → Qd H2) :
    ∃ W : Nat → Nat → Hp → Prop, (∃ m, W 0 m H1) ∧ ∀ i m H, W i m H → (J.stop i H ∧ Qd H) ∨ (J.go i H ∧ ∃ Nx : Hp → Prop, (∀ H', Nx H' → ∃ m', m' < m ∧ W (i + 1) m' H') ∧ ∀ x H', J.yld i H x H' → gCan K Γ t x (L2.wipe σ vs) H' fun σ2 H2 => L2.wipe σ2 vs = L2.wipe σ vs ∧ ttCan K Γ XE0 test σ2 H2 fun b H3 =>
        if b = true then tCan K Γ XE0 me σ2 H3 fun y H4 => ∃ acc, H4 L = some (.lst acc) ∧ acc.length < sizeLine ∧ Nx (upd H4 L (.lst (acc ++ [y]))) else Nx H3) := by
  refine ⟨fun i m H2 => m = ds.length - i ∧ i ≤ ds.length ∧ ∃ g2 S2 acc, CompAt K Γ g0 H0 gb Hb L (wipeD σd vs) (L2.wipe σ vs) g2 S2 H2 acc ∧ Mono gw Hw g2 H2 ∧ acc.length ≤ acc0.length + i ∧ W (cTurn t test me (wipeD σd vs) (ds.drop i)) (fun ys s => P (acc ++ ys) s) Px S2, ?_, ?_⟩
  · obtain ⟨g1, S1, ca, mo, w⟩ := h0
    exact ⟨ds.length, by simp, Nat.zero_le _, g1, S1, acc0, ca, mo, Nat.le_refl _, w⟩
  rintro i m H2 ⟨rfl, hi, g2, S2, acc, ca, mo, hacc, w2⟩
  by_cases hlt : i < ds.length
  · refine .inr ⟨wk.go i g2 H2 mo hlt, fun H3 => ∃ g3 S3 acc, CompAt K Γ g0 H0 gb Hb L (wipeD σd vs) (L2.wipe σ vs) g3 S3 H3 acc ∧ Mono gw Hw g3 H3 ∧ acc.length ≤ acc0.length + (i + 1) ∧ W (cTurn t test me (wipeD σd vs) (ds.drop (i + 1))) (fun ys s => P (acc ++ ys) s) Px S3, fun H3 p => ⟨ds.length - (i + 1), by omega, rfl, hlt, p⟩, fun x H3 y => ?_⟩
    obtain ⟨d, ed, e3, ok3, r3⟩ := wk.yld i g2 S2 H2 x H3 mo ca.rs.ok hlt y
    rw [drop_at ed] at w2
    have ca3 := ca.next e3 ok3
    have mo3 := mo.trans (e3.mono ca.rs.ok)
    have rs3 := ca3.slots
    unfold cTurn at w2
    cases ha : t.asg d (wipeD σd vs) with
    | none => rw [ha] at w2; exact w2.elim
    | some σd' =>
      rw [ha] at w2
      have w2 : W (((test σd').noexc).bind fun b => if b then ((me σd').noexc).bind fun y => (cTurn t test me (wipeD σd vs) (ds.drop (i + 1))).bind fun ys => .ret (y :: ys) else cTurn t test me (wipeD σd vs) (ds.drop (i + 1))) (fun ys s => P (acc ++ ys) s) Px S2 := w2
      refine ⟨g0, H0, wipeD σd vs, g2, S2, d, σd', rs3, r3, ha, fun σ' go so => ⟨(so.wipe hv).trans (wipe_wipe σ vs), ?_⟩⟩
      refine ⟨g0, H0, σd', g2, S2, go.rs rs3, W_noexc _ (W_mono _ (fun b S4 w4 g4 H4 e4 ok4 => ?_) (fun _ _ _ h => h) (W_bind _ _ |>.mp w2))⟩
      have ca4 := ca3.next e4 ok4
      have mo4 := mo3.trans (e4.mono ca3.rs.ok)
      cases b with
      | false => exact ⟨g4, S4, acc, ca4, mo4, by omega, w4⟩
      | true =>
        refine ⟨g0, H0, σd', g4, S4, (go.rs rs3).mono e4 ok4, W_noexc _ (W_mono _ (fun y S5 w5 v g5 H5 e5 ok5 r5 => ?_) (fun _ _ _ h => h) (W_bind _ _ |>.mp w4))⟩
        have ca5 := ca4.next e5 ok5
        have mo5 := mo4.trans (e5.mono ca4.rs.ok)
        obtain ⟨xs, hx, hl, ca6⟩ := ca5.app hL r5
        obtain ⟨_, _, _, nf, _⟩ := ca5.fin
        refine ⟨xs, hx, by rw [hl]; exact lim_lt (by omega), g5, S5, _, ca6, mo5.trans (Mono.updL hx nf), by simp; omega, ?_⟩
        refine W_mono _ (fun ys s w6 => ?_) (fun _ _ _ h => h) (W_bind _ _ |>.mp w5)
        show P ((acc ++ [y]) ++ ys) s
        rw [List.append_assoc]
        exact w6
  · have e : i = ds.length := by omega
    subst e
    rw [List.drop_length] at w2
    have w2 : P (acc ++ []) S2 := w2
    rw [List.append_nil] at w2
    exact .inl ⟨wk.stop g2 H2 mo, hd g2 S2 H2 acc ca mo w2⟩
theorem prop_comp {K : PySem.W.Frag} {vs : List Nat} {t : Tg} {test : Slots → T Bool} {me : Slots → T D} {mi : Slots → T (List D)} {wi : TI} (hi : ∀ g0 H0 σd σ g S H R, RS K Γ g0 H0 g S H σd σ → W (mi σd) (fun ds S' => ∀ g' H' J, Ext g H g' H' → GOk K Γ g' S' H' → WkD K Γ g' H' J ds → R J H') (PX K Γ g H E) S → wi σ H R)
    (hv : ∀ i ∈ t.ixs, i ∈ vs) : ∀ g0 H0 σd σ g S H Q, RS K Γ g0 H0 g S H σd σ → W (mComp vs t test me mi σd) (PO K Γ g H Q) (PX K Γ g H E) S → tLc wi (gCan K Γ t) (ttCan K Γ XE0 test) (tCan K Γ XE0 me) vs σ H Q := by
  intro g0 H0 σd σ g S H Q rs w
  refine hi _ _ _ _ _ _ _ _ rs (W_mono _ (fun ds S1 w1 g1 H1 J e1 ok1 wk L hL => ?_) (fun _ _ _ h => h) (W_bind _ _ |>.mp w))
  obtain ⟨hlen, w1⟩ := W_iteP w1
  have rsw := (rs.mono e1 ok1).wipe vs
  refine turns (acc0 := []) (P := PO K Γ g H Q) hv hL wk (by simpa using hlen) ⟨g1, S1, ⟨rsw.start hL Reps.nil, Ext.new hL, rsw.len⟩, (Ext.new hL).mono ok1, w1⟩ fun g2 S2 H2 acc ca mo p => ?_
  obtain ⟨xs, hx, hr, nf, nm⟩ := ca.fin
  exact p L xs g2 H2 (e1.trans ca.ext) ca.rs.ok (e1.trk L hL) hx nf nm hr
theorem so_comp {ifs : List Expr} {scope : Scope} {own : List (Str × Nat)} {pos : Pos} {t : Tg} {test : Slots → T Bool} {me : Slots → T D} {mi : Slots → T (List D)} (hc : X.calm = true) (hN : X.N.Nodup) (ok : BlkOk X.N X.env.scope scope own) (hv : ∀ i ∈ t.ixs, i ∈ own.map (·.2))
    (hi : SI X Γ E tg iter mi) (hg : ∀ s H C cl fp, SG (blkX X scope s H C cl fp) Γ tg t) (ht : ∀ s H C cl fp, STs (blkX X scope s H C cl fp) Γ XE0 ifs test) (he : ∀ s H C cl fp, SE (blkX X scope s H C cl fp) Γ XE0 elt me)
    (hs : ∀ x, foldedSetIterable iter X.env x = pure x := by intro _; rfl) : SO X Γ E (.ListComp elt [⟨tg, iter, ifs, 0⟩] scope pos) (mComp (own.map (·.2)) t test me mi) := by
  obtain ⟨wi, pi, qi⟩ := hi
  exact ⟨_, pe_lc hc hN pi ok (fun s H C cl fp => (hg s H C cl fp).can) (fun s H C cl fp => (ht s H C cl fp).ex) (fun s H C cl fp => (he s H C cl fp).can) hs, prop_comp qi hv⟩

/-! two clauses -/
def cTurn2 (t : Tg) (test : Slots → T Bool) (inner : Nat → Slots → T (List D)) (σ : Slots) : Nat → List D → T (List D)
  | _, [] => .ret []
  | n, x :: r => match t.asg x σ with
    | none => .bad
    | some σ' => ((test σ').noexc).bind fun b => if b then ((inner n σ').noexc).bind fun ys => (cTurn2 t test inner σ (n + ys.length) r).bind fun zs => .ret (ys ++ zs) else cTurn2 t test inner σ n r
def cInner (vs1 : List Nat) (t1 : Tg) (test1 : Slots → T Bool) (elt : Slots → T D) (items1 : Slots → T (List D)) (n : Nat) (σ : Slots) : T (List D) := (items1 σ).bind fun xs => if n + xs.length ≤ lim ∧ ∀ i ∈ vs1, i < σ.length then cTurn t1 test1 elt (wipeD σ vs1) xs else .bad
def mComp2 (vs vs1 : List Nat) (t : Tg) (test : Slots → T Bool) (items : Slots → T (List D)) (t1 : Tg) (test1 : Slots → T Bool) (elt : Slots → T D) (items1 : Slots → T (List D)) (σ : Slots) : T (List D) :=
  (items σ).bind fun xs => cTurn2 t test (cInner vs1 t1 test1 elt items1) (wipeD σ vs) 0 xs
theorem prop_comp2 {K : PySem.W.Frag} {vs vs1 : List Nat} {t t1 : Tg} {test test1 : Slots → T Bool} {me : Slots → T D} {mi mi1 : Slots → T (List D)} {wi : TI} (hi : ∀ g0 H0 σd σ g S H R, RS K Γ g0 H0 g S H σd σ → W (mi σd) (fun ds S' => ∀ g' H' J, Ext g H g' H' → GOk K Γ g' S' H' → WkD K Γ g' H' J ds → R J H') (PX K Γ g H E) S → wi σ H R)
    (hv : ∀ i ∈ t.ixs, i ∈ vs) (hv1 : ∀ i ∈ t1.ixs, i ∈ vs1) (hvs : ∀ i ∈ vs1, i ∈ vs) : ∀ g0 H0 σd σ g S H Q, RS K Γ g0 H0 g S H σd σ → W (mComp2 vs vs1 t test mi t1 test1 me mi1 σd) (PO K Γ g H Q) (PX K Γ g H E) S →
      tLc2 wi (gCan K Γ t) (ttCan K Γ XE0 test) (iCan K Γ XE0 mi1) (gCan K Γ t1) (ttCan K Γ XE0 test1) (tCan K Γ XE0 me) vs vs1 σ H Q := by
  intro g0 H0 σd σ g S H Q rs w
  refine hi _ _ _ _ _ _ _ _ rs (W_mono _ (fun ds S1 w1 g1 H1 J e1 ok1 wk L hL => ?_) (fun _ _ _ h => h) (W_bind _ _ |>.mp w))
  have rsw := (rs.mono e1 ok1).wipe vs
  have start : CompAt K Γ g0 H0 g1 H1 L (wipeD σd vs) (L2.wipe σ vs) g1 S1 (upd H1 L (.lst [])) [] := ⟨rsw.start hL Reps.nil, Ext.new hL, rsw.len⟩
  refine ⟨fun i m H2 => m = ds.length - i ∧ i ≤ ds.length ∧ ∃ g2 S2 acc, CompAt K Γ g0 H0 g1 H1 L (wipeD σd vs) (L2.wipe σ vs) g2 S2 H2 acc ∧ W (cTurn2 t test (cInner vs1 t1 test1 me mi1) (wipeD σd vs) acc.length (ds.drop i)) (fun ys s => PO K Γ g H Q (acc ++ ys) s) (PX K Γ g H E) S2,
    ⟨ds.length, by simp, Nat.zero_le _, g1, S1, [], start, w1⟩, ?_⟩
  rintro i m H2 ⟨rfl, hi, g2, S2, acc, ca, w2⟩
  by_cases hlt : i < ds.length
  · have mo : Mono g1 H1 g2 H2 := ca.ext.mono ok1
    refine .inr ⟨wk.go i g2 H2 mo hlt, fun H3 => ∃ g3 S3 acc, CompAt K Γ g0 H0 g1 H1 L (wipeD σd vs) (L2.wipe σ vs) g3 S3 H3 acc ∧ W (cTurn2 t test (cInner vs1 t1 test1 me mi1) (wipeD σd vs) acc.length (ds.drop (i + 1))) (fun ys s => PO K Γ g H Q (acc ++ ys) s) (PX K Γ g H E) S3, fun H3 p => ⟨ds.length - (i + 1), by omega, rfl, hlt, p⟩, fun x H3 y => ?_⟩
    obtain ⟨d, ed, e3, ok3, r3⟩ := wk.yld i g2 S2 H2 x H3 mo ca.rs.ok hlt y
    rw [drop_at ed] at w2
    have ca3 := ca.next e3 ok3
    have rs3 := ca3.slots
    unfold cTurn2 at w2
    cases ha : t.asg d (wipeD σd vs) with
    | none => rw [ha] at w2; exact w2.elim
    | some σd' =>
      rw [ha] at w2
      have w2 : W (((test σd').noexc).bind fun b => if b then ((cInner vs1 t1 test1 me mi1 acc.length σd').noexc).bind fun ys => (cTurn2 t test (cInner vs1 t1 test1 me mi1) (wipeD σd vs) (acc.length + ys.length) (ds.drop (i + 1))).bind fun zs => .ret (ys ++ zs) else cTurn2 t test (cInner vs1 t1 test1 me mi1) (wipeD σd vs) acc.length (ds.drop (i + 1))) (fun ys s => PO K Γ g H Q (acc ++ ys) s) (PX K Γ g H E) S2 := w2
      refine ⟨g0, H0, wipeD σd vs, g2, S2, d, σd', rs3, r3, ha, fun σ' go so => ⟨(so.wipe hv).trans (wipe_wipe σ vs), ?_⟩⟩
      have ca3' := ca3.goes go
      refine ⟨g0, H0, σd', g2, S2, go.rs rs3, W_noexc _ (W_mono _ (fun b S4 w4 g4 H4 e4 ok4 => ?_) (fun _ _ _ h => h) (W_bind _ _ |>.mp w2))⟩
      have ca4 := ca3.next e4 ok4
      cases b with
      | false => exact ⟨g4, S4, acc, ca4, w4⟩
      | true =>
        have rs4' := (go.rs rs3).mono e4 ok4
        have ca4' := ca3'.next e4 ok4
        have w4 := W_noexc (E' := PX K Γ g4 H4 XE0) _ (W_bind _ _ |>.mp w4)
        unfold cInner at w4
        refine ⟨g0, H0, σd', g4, S4, rs4', W_mono _ (fun ds1 S5 w5 g5 H5 J1 e5 ok5 wk1 => ?_) (fun _ _ _ h => h) (W_bind _ _ |>.mp w4)⟩
        obtain ⟨⟨hlen, hin⟩, w5⟩ := W_iteP w5
        have ca5 := (ca4'.next e5 ok5).wipe vs1 hin
        refine turns (acc0 := acc) (P := fun zs s => ∃ ys, zs = acc ++ ys ∧ W ((cTurn2 t test (cInner vs1 t1 test1 me mi1) (wipeD σd vs) (acc.length + ys.length) (ds.drop (i + 1))).bind fun zs => .ret (ys ++ zs)) (fun ys s => PO K Γ g H Q (acc ++ ys) s) (PX K Γ g H E) s) hv1 hL wk1 hlen
          ⟨g5, S5, ca5, Mono.refl _ _, W_mono _ (fun ys s h => ⟨ys, rfl, h⟩) (fun _ _ _ h => h) w5⟩ fun g6 S6 H6 acc6 ca6 mo6 p => ?_
        obtain ⟨ys, rfl, w6⟩ := p
        -- back to the outer slots
        obtain ⟨xs, hx, hr, nf, nm⟩ := ca6.fin
        have back : CompAt K Γ g0 H0 g1 H1 L (wipeD σd vs) (L2.wipe σ vs) g6 S6 H6 (acc ++ ys) :=
          ⟨rsw.later ca6.ext ca6.rs.ok hL hx hr nf nm, ca6.ext, rsw.len⟩
        refine ⟨g6, S6, acc ++ ys, back, ?_⟩
        rw [List.length_append]
        refine W_mono _ (fun zs s w7 => ?_) (fun _ _ _ h => h) (W_bind _ _ |>.mp w6)
        show PO K Γ g H Q ((acc ++ ys) ++ zs) s
        rw [List.append_assoc]
        exact w7
  · have e : i = ds.length := by omega
    subst e
    refine .inl ⟨wk.stop g2 H2 (ca.ext.mono ok1), ?_⟩
    rw [List.drop_length] at w2
    obtain ⟨xs, hx, hr, nf, nm⟩ := ca.fin
    have w2 : PO K Γ g H Q (acc ++ []) S2 := w2
    rw [List.append_nil] at w2
    exact w2 L xs g2 H2 (e1.trans ca.ext) ca.rs.ok (e1.trk L hL) hx nf nm hr
end
end KT
namespace KT
open PySem PySem.Spec PyProof.Rows L2 RZ
section
variable {X : Cx} {Γ : Gm} {E : XK} {pos : Pos} {a b e : Expr} {ma mb me : Slots → T D}

theorem so_comp2 {tg iter tg1 iter1 elt : Expr} {ifs ifs1 : List Expr} {scope : Scope} {own : List (Str × Nat)} {vs1 : List Nat} {t t1 : Tg} {test test1 : Slots → T Bool} {me : Slots → T D} {mi mi1 : Slots → T (List D)} (hc : X.calm = true) (hN : X.N.Nodup) (ok : BlkOk X.N X.env.scope scope own)
    (hv : ∀ i ∈ t.ixs, i ∈ own.map (·.2)) (hv1 : ∀ i ∈ t1.ixs, i ∈ vs1) (hvs : ∀ i ∈ vs1, i ∈ own.map (·.2))
    (hi : SI X Γ E tg iter mi) (hg : ∀ s H C cl fp, SG (blkX X scope s H C cl fp) Γ tg t) (ht : ∀ s H C cl fp, STs (blkX X scope s H C cl fp) Γ XE0 ifs test)
    (hi1 : ∀ s H C cl fp, SI (blkX X scope s H C cl fp) Γ XE0 tg1 iter1 mi1) (hg1 : ∀ s H C cl fp, SG (blkX X scope s H C cl fp) Γ tg1 t1) (ht1 : ∀ s H C cl fp, STs (blkX X scope s H C cl fp) Γ XE0 ifs1 test1) (he : ∀ s H C cl fp, SE (blkX X scope s H C cl fp) Γ XE0 elt me)
    (hs : ∀ x, foldedSetIterable iter X.env x = pure x := by intro _; rfl) (hs1 : ∀ env x, foldedSetIterable iter1 env x = pure x := by intro _ _; rfl) :
    SO X Γ E (.ListComp elt [⟨tg, iter, ifs, 0⟩, ⟨tg1, iter1, ifs1, 0⟩] scope pos) (mComp2 (own.map (·.2)) vs1 t test mi t1 test1 me mi1) := by
  obtain ⟨wi, pi, qi⟩ := hi
  exact ⟨_, pe_lc2 hc hN pi ok hvs (fun s H C cl fp => (hg s H C cl fp).can) (fun s H C cl fp => (ht s H C cl fp).ex) (fun s H C cl fp => (hi1 s H C cl fp).can) (fun s H C cl fp => (hg1 s H C cl fp).can) (fun s H C cl fp => (ht1 s H C cl fp).ex) (fun s H C cl fp => (he s H C cl fp).can) hs hs1, prop_comp2 qi hv hv1 hvs⟩

/-! ## subscripts -/
def dIx : D → D → T D := fun d e => match e with
  | .int i => match d with
    | .tup xs => match atI xs i with | some z => .ret z | none => .bad
    | .lst xs => match atI xs i with | some z => .ret z | none => .bad
    | .str cs => if cs.length ≤ lim then (match atI cs i with | some c => .ret (.str [c]) | none => .bad) else .bad
    | _ => .bad
  | _ => .bad
theorem Reps.atI {K : PySem.W.Frag} {g : Gh} {H : Hp} {ds : List D} {vs : List V} {i : Int} {d : D} (r : Reps K Γ g H ds vs) (h : L2.atI ds i = some d) : ∃ v, L2.atI vs i = some v ∧ Rep K Γ g H d v := by
  unfold L2.atI at h ⊢
  rw [r.length]
  obtain ⟨j, h1, h2⟩ := Option.bind_eq_some_iff.mp h
  obtain ⟨v, h3, h4⟩ := r.getD h2
  exact ⟨v, Option.bind_eq_some_iff.mpr ⟨j, h1, h3⟩, h4⟩
theorem od_ix : OpD X Γ E (rIx X.K) dIx := fun g S H d e x y Q ok r1 r2 w => by
  unfold dIx at w
  split at w
  · have e2 := r2.int_inv
    split at w
    · split at w
      · rename_i h
        simp only [Rep] at r1
        obtain ⟨p, xs, rfl, h1, h2⟩ := r1
        obtain ⟨v, e3, e4⟩ := h2.atI h
        exact .inr (.inl ⟨p, xs, _, v, rfl, e2, h1, e3, w _ g H (Ext.refl g H) ok e4⟩)
      · exact w.elim
    · split at w
      · rename_i h
        simp only [Rep] at r1
        obtain ⟨p, xs, rfl, h1, h2⟩ := r1
        obtain ⟨v, e3, e4⟩ := h2.atI h
        exact .inl ⟨p, xs, _, v, rfl, e2, .inl (.inl h1.2), e3, w _ g H (Ext.refl g H) ok e4⟩
      · exact w.elim
    · obtain ⟨c, w⟩ := W_iteP w
      split at w
      · rename_i h
        simp only [Rep] at r1
        refine .inr (.inr ⟨_, _, _, r1, e2, by rw [strLen]; exact lim_le c, h, w _ g H (Ext.refl g H) ok (by simp only [Rep])⟩)
      · exact w.elim
    · exact w.elim
  · exact w.elim
theorem se_ix (ha : SE X Γ E a ma) (hb : SE X Γ E b mb) (hs : PlainIx b := by exact fun _ _ => rfl) : SE X Γ E (.Subscript a b pos) (mBin dIx ma mb) := by
  obtain ⟨ta, pa, qa⟩ := ha
  obtain ⟨tb, pb, qb⟩ := hb
  exact ⟨_, pe_ix ix_seq pa pb hs, prop_bin od_ix qa qb⟩
/-! slices -/
def mNP (_ : Slots) : T (Option Int) := .ret none
def dPart : D → T (Option Int)
  | .int i => .ret (some i)
  | _ => .bad
def mSP (m : Slots → T D) (σ : Slots) : T (Option Int) := (m σ).bind dPart
structure SP0 (X : Cx) (Γ : Gm) (E : XK) (e : Option Expr) (m : Slots → T (Option Int)) : Prop where
  ex : ∃ t, L2.PO X e t ∧ ∀ g0 H0 σd σ g S H Q, RS X.K Γ g0 H0 g S H σd σ → W (m σd) (fun o S' => ∀ g' H', Ext g H g' H' → GOk X.K Γ g' S' H' → Q o H') (PX X.K Γ g H E) S → t σ H Q
theorem sp_none : SP0 X Γ E none mNP := ⟨_, po_none, fun g0 H0 σd σ g S H Q rs w => w g H (Ext.refl g H) rs.ok⟩
theorem sp_some (h : SE X Γ E e me) : SP0 X Γ E (some e) (mSP me) := by
  obtain ⟨t, p, q⟩ := h
  refine ⟨_, po_some p, fun g0 H0 σd σ g S H Q rs w => useE q rs w (fun _ _ _ h => h) fun d S1 v g1 H1 e1 rs1 r1 w1 => ?_⟩
  unfold dPart at w1
  split at w1
  · exact ⟨_, r1.int_inv, w1 g1 H1 e1 rs1.ok⟩
  · exact w1.elim
def cutD {α : Type} (xs : List α) (lo hi : Option Int) : List α := (xs.drop (HT.sIx xs.length 0 lo)).take (HT.sIx xs.length xs.length hi - HT.sIx xs.length 0 lo)
def dSl (d : D) (lo hi : Option Int) : T D := match d with
  | .tup xs => .ret (.tup (cutD xs lo hi))
  | .lst xs => .ret (.lst (cutD xs lo hi))
  | .str cs => if cs.length ≤ lim then .ret (.str (cutD cs lo hi)) else .bad
  | _ => .bad
def rSlAll (K : PySem.W.Frag) : V → Option Int → Option Int → Hp → VK → Prop := fun x lo hi H Q => rSlA K x lo hi H Q ∨ rSlL K x lo hi H Q ∨ (∃ z, x = .str z ∧ z.length ≤ sizeLine ∧ Q (.str (cutS z lo hi)) H)
theorem Reps.cut {K : PySem.W.Frag} {g : Gh} {H : Hp} {ds : List D} {vs : List V} (lo hi : Option Int) (r : Reps K Γ g H ds vs) : Reps K Γ g H (cutD ds lo hi) (cutV vs lo hi) := by
  unfold cutD cutV
  rw [r.length]
  exact (r.drop _).take _
theorem cutS_mk (cs : List Nat) (lo hi : Option Int) : cutS ⟨cs.toArray⟩ lo hi = ⟨(cutD cs lo hi).toArray⟩ := by
  unfold cutS cutD
  simp [Str.length]
theorem se_slice {lo hi : Option Expr} {ml mh : Slots → T (Option Int)} {p2 : Pos} (he : SE X Γ E e me) (hl : SP0 X Γ E lo ml) (hh : SP0 X Γ E hi mh) : SE X Γ E (.Subscript e (.Slice lo hi none p2) pos) (fun σ => (me σ).bind fun d => (ml σ).bind fun l => (mh σ).bind fun h => dSl d l h) := by
  obtain ⟨te, pe, qe⟩ := he
  obtain ⟨tl, pl, ql⟩ := hl
  obtain ⟨th, ph, qh⟩ := hh
  refine ⟨_, pe_slice (sl_tupA.or (sl_list.or sl_str)) pe pl ph, fun g0 H0 σd σ g S H Q rs w => useE qe rs w (fun _ _ _ h => h) fun d S1 v g1 H1 e1 rs1 r1 w1 => ?_⟩
  refine ql _ _ _ _ _ _ _ _ rs1 (W_mono _ (fun l S2 w2 g2 H2 e2 ok2 => ?_) (fun _ _ _ h => h.ext e1) (W_bind _ _ |>.mp w1))
  have rs2 := rs1.mono e2 ok2
  have r2 := r1.mono (e2.mono rs1.ok)
  have e12 := e1.trans e2
  refine qh _ _ _ _ _ _ _ _ rs2 (W_mono _ (fun h S3 w3 g3 H3 e3 ok3 => ?_) (fun _ _ _ h => h.ext e12) (W_bind _ _ |>.mp w2))
  have r3 := r2.mono (e3.mono rs2.ok)
  have e13 := e12.trans e3
  unfold dSl at w3
  split at w3
  · simp only [Rep] at r3
    obtain ⟨a, xs, rfl, h1, h2⟩ := r3
    refine .inl ⟨a, xs, rfl, h1, fun hw => ?_, fun _ p hp => newTup ok3 (h2.cut l h) hp (PQ.ext e13 w3)⟩
    refine w3 _ g3 H3 e13 ok3 (Rep.tup h1 ?_)
    have := h2.cut l h
    have e : cutV xs l h = xs := by
      unfold cutV
      rw [hw.1, hw.2]
      simp
    rwa [e] at this
  · simp only [Rep] at r3
    obtain ⟨a, xs, rfl, h1, h2⟩ := r3
    exact .inr (.inl ⟨a, xs, rfl, .inl (.inl h1.2), fun p hp => newLst ok3 (h2.cut l h) hp (PQ.ext e13 w3)⟩)
  · obtain ⟨c, w3⟩ := W_iteP w3
    simp only [Rep] at r3
    exact .inr (.inr ⟨_, r3, by rw [strLen]; exact lim_le c, w3 _ g3 H3 e13 ok3 (by simp only [Rep]; rw [cutS_mk])⟩)
  · exact w3.elim

/-! ## built-ins by values -/
def dLen : List D → T D
  | [d] => match d with
    | .tup xs => .ret (.int xs.length)
    | .lst xs => .ret (.int xs.length)
    | .str cs => if cs.length ≤ lim then .ret (.int cs.length) else .bad
    | _ => .bad
  | _ => .bad
theorem Reps.one {K : PySem.W.Frag} {g : Gh} {H : Hp} {d : D} {vs : List V} (r : Reps K Γ g H [d] vs) : ∃ v, vs = [v] ∧ Rep K Γ g H d v := by
  simp only [Reps] at r
  obtain ⟨v, r, rfl, h, rfl⟩ := r
  exact ⟨v, rfl, h⟩
theorem Reps.two {K : PySem.W.Frag} {g : Gh} {H : Hp} {d e : D} {vs : List V} (r : Reps K Γ g H [d, e] vs) : ∃ v u, vs = [v, u] ∧ Rep K Γ g H d v ∧ Rep K Γ g H e u := by
  simp only [Reps] at r
  obtain ⟨v, r, rfl, h, u, r', rfl, h', rfl⟩ := r
  exact ⟨v, u, rfl, h, h'⟩
theorem cd_len : CaD X Γ (fun xs H Q => ∃ x n, xs = [x] ∧ LenV X.K x H n ∧ Q (.int n) H) dLen := fun g S H ds vs Q Px ok r w => by
  unfold dLen at w
  split at w
  · obtain ⟨v, rfl, r0⟩ := r.one; clear r; have r := r0
    split at w
    · simp only [Rep] at r
      obtain ⟨a, xs, rfl, h1, h2⟩ := r
      exact ⟨_, _, rfl, .inr ⟨xs, h1, h2.length.symm⟩, w _ g H (Ext.refl g H) ok (Rep.int _)⟩
    · simp only [Rep] at r
      obtain ⟨a, xs, rfl, h1, h2⟩ := r
      exact ⟨_, _, rfl, .inl ⟨xs, .inl (.inl h1.2), h2.length.symm⟩, w _ g H (Ext.refl g H) ok (Rep.int _)⟩
    · obtain ⟨c, w⟩ := W_iteP w
      simp only [Rep] at r
      subst r
      exact ⟨_, _, rfl, ⟨by rw [strLen]; exact lim_le c, (strLen _).symm⟩, w _ g H (Ext.refl g H) ok (Rep.int _)⟩
    · exact w.elim
  · exact w.elim
def dTuple : List D → T D
  | [d] => match d with
    | .tup xs => .ret (.tup xs)
    | .lst xs => .ret (.tup xs)
    | _ => .bad
  | _ => .bad
theorem cd_tuple : CaD X Γ (fun xs H Q => ∃ p ys, xs = [.ref p] ∧ ((SqL X.K H p ys ∧ ∀ l, H l = none → Q (.ref l) (upd H l (.tup ys))) ∨ (SqT X.K H p ys ∧ Q (.ref p) H))) dTuple := fun g S H ds vs Q Px ok r w => by
  unfold dTuple at w
  split at w
  · obtain ⟨v, rfl, r0⟩ := r.one; clear r; have r := r0
    split at w
    · simp only [Rep] at r
      obtain ⟨a, xs, rfl, h1, h2⟩ := r
      exact ⟨a, xs, rfl, .inr ⟨h1, w _ g H (Ext.refl g H) ok (Rep.tup h1 h2)⟩⟩
    · simp only [Rep] at r
      obtain ⟨a, xs, rfl, h1, h2⟩ := r
      exact ⟨a, xs, rfl, .inl ⟨.inl (.inl h1.2), fun p hp => newTup ok h2 hp w⟩⟩
    · exact w.elim
  · exact w.elim
/-- range(n), range(a, b) as values -/
theorem cr_range1 : CallR X (.type "range") (fun vs H Q => ∃ j, vs = [V.int j] ∧ ∀ p, H p = none → Q (.ref p) (upd H p (.rng 0 j))) := by
  intro pins s σ H vs us Q I r h
  obtain ⟨j, rfl, q⟩ := h
  obtain ⟨u2, rfl, rj⟩ := vals1 r
  obtain ⟨u, rfl⟩ := rj
  refine call_range_1 ⟨.ref s.heap.objs.size, upd H s.heap.objs.size (.rng 0 j), I.laid (t' := s.toks + 1 + 1) (fun b o e => Heap.get?_push_of_some _ e) (Nat.le_refl _) ?_, rfl, q _ (I.hok.fresh (Nat.le_refl _))⟩
  exact ⟨s.toks, u, s.toks + 1, Heap.get?_push_size _ rfl⟩
def dRange : List D → T D
  | [d] => match d with
    | .int j => .ret (.rng 0 j)
    | _ => .bad
  | [d, e] => match d, e with
    | .int i, .int j => .ret (.rng i j)
    | _, _ => .bad
  | _ => .bad
theorem newRng {K : PySem.W.Frag} {g : Gh} {S : Sto} {H : Hp} {p : Addr} {lo hi : Int} {Q : VK} (ok : GOk K Γ g S H) (hp : H p = none) (w : PQ K Γ g H Q (.rng lo hi) S) : Q (.ref p) (upd H p (.rng lo hi)) :=
  w _ g _ (Ext.new hp) (ok.new hp) (by simp only [Rep]; exact ⟨p, rfl, upd_same⟩)
theorem cd_range : CaD X Γ (fun xs H Q => (∃ j, xs = [V.int j] ∧ ∀ p, H p = none → Q (.ref p) (upd H p (.rng 0 j))) ∨ ∃ i j, xs = [V.int i, V.int j] ∧ ∀ p, H p = none → Q (.ref p) (upd H p (.rng i j))) dRange := fun g S H ds vs Q Px ok r w => by
  unfold dRange at w
  split at w
  · obtain ⟨v, rfl, r0⟩ := r.one; clear r; have r := r0
    split at w
    · exact .inl ⟨_, by rw [r.int_inv], fun p hp => newRng ok hp w⟩
    · exact w.elim
  · obtain ⟨v, u, rfl, r0, r'⟩ := r.two; clear r; have r := r0
    split at w
    · exact .inr ⟨_, _, by rw [r.int_inv, r'.int_inv], fun p hp => newRng ok hp w⟩
    · exact w.elim
  · exact w.elim
theorem cr_rangeA : CallR X (.type "range") (fun xs H Q => (∃ j, xs = [V.int j] ∧ ∀ p, H p = none → Q (.ref p) (upd H p (.rng 0 j))) ∨ ∃ i j, xs = [V.int i, V.int j] ∧ ∀ p, H p = none → Q (.ref p) (upd H p (.rng i j))) := cr_range1.or cr_range2
/-- all, any, sum of a list -/
def bls? : List D → Option (List Bool)
  | [] => some []
  | d :: r => match d with
    | .bl b => (bls? r).map fun bs => b :: bs
    | _ => none
def ints? : List D → Option (List Int)
  | [] => some []
  | d :: r => match d with
    | .int b => (ints? r).map fun bs => b :: bs
    | _ => none
theorem rep_bls {K : PySem.W.Frag} {g : Gh} {H : Hp} : ∀ {ds : List D} {vs : List V} {bs : List Bool}, bls? ds = some bs → Reps K Γ g H ds vs → vs = bs.map V.bl
  | [], _, bs, h, r => by simp only [Reps] at r; simp only [bls?, Option.some.injEq] at h; subst h r; rfl
  | d :: ds, _, bs, h, r => by
    simp only [Reps] at r
    obtain ⟨v, t, rfl, h1, h2⟩ := r
    unfold bls? at h
    split at h
    · obtain ⟨cs, e, rfl⟩ := Option.map_eq_some_iff.mp h
      rw [h1.bl_inv, rep_bls e h2]; rfl
    · cases h
theorem rep_ints {K : PySem.W.Frag} {g : Gh} {H : Hp} : ∀ {ds : List D} {vs : List V} {bs : List Int}, ints? ds = some bs → Reps K Γ g H ds vs → vs = bs.map V.int
  | [], _, bs, h, r => by simp only [Reps] at r; simp only [ints?, Option.some.injEq] at h; subst h r; rfl
  | d :: ds, _, bs, h, r => by
    simp only [Reps] at r
    obtain ⟨v, t, rfl, h1, h2⟩ := r
    unfold ints? at h
    split at h
    · obtain ⟨cs, e, rfl⟩ := Option.map_eq_some_iff.mp h
      rw [h1.int_inv, rep_ints e h2]; rfl
    · cases h
def dAll : List D → T D
  | [.lst xs] => match bls? xs with | some bs => .ret (.bl (bs.all id)) | none => .bad
  | _ => .bad
def dAny : List D → T D
  | [.lst xs] => match bls? xs with | some bs => .ret (.bl (bs.any id)) | none => .bad
  | _ => .bad
def dSum : List D → T D
  | [.lst xs] => match ints? xs with | some bs => .ret (.int bs.sum) | none => .bad
  | _ => .bad
theorem cd_all : CaD X Γ (rAll X.K) dAll := fun g S H ds vs Q Px ok r w => by
  unfold dAll at w
  split at w
  · obtain ⟨v, rfl, r0⟩ := r.one; clear r; have r := r0
    split at w
    · rename_i h
      simp only [Rep] at r
      obtain ⟨a, us, rfl, h1, h2⟩ := r
      have := rep_bls h h2
      subst this
      exact ⟨a, _, rfl, .inl (.inl h1.2), w _ g H (Ext.refl g H) ok (Rep.bl _)⟩
    · exact w.elim
  · exact w.elim
theorem cd_any : CaD X Γ (rAny X.K) dAny := fun g S H ds vs Q Px ok r w => by
  unfold dAny at w
  split at w
  · obtain ⟨v, rfl, r0⟩ := r.one; clear r; have r := r0
    split at w
    · rename_i h
      simp only [Rep] at r
      obtain ⟨a, us, rfl, h1, h2⟩ := r
      have := rep_bls h h2
      subst this
      exact ⟨a, _, rfl, .inl (.inl h1.2), w _ g H (Ext.refl g H) ok (Rep.bl _)⟩
    · exact w.elim
  · exact w.elim
theorem cd_sum : CaD X Γ (rSum X.K) dSum := fun g S H ds vs Q Px ok r w => by
  unfold dSum at w
  split at w
  · obtain ⟨v, rfl, r0⟩ := r.one; clear r; have r := r0
    split at w
    · rename_i h
      simp only [Rep] at r
      obtain ⟨a, us, rfl, h1, h2⟩ := r
      have := rep_ints h h2
      subst this
      exact ⟨a, _, rfl, .inl (.inl h1.2), w _ g H (Ext.refl g H) ok (Rep.int _)⟩
    · exact w.elim
  · exact w.elim
def dMax2 : List D → T D
  | [.int i, .int j] => .ret (.int (if j > i then j else i))
  | _ => .bad
theorem cd_max2 : CaD X Γ (fun xs H Q => ∃ i j, xs = [V.int i, V.int j] ∧ Q (.int (if j > i then j else i)) H) dMax2 := fun g S H ds vs Q Px ok r w => by
  unfold dMax2 at w
  split at w
  · obtain ⟨v, u, rfl, r0, r'⟩ := r.two; clear r; have r := r0
    exact ⟨_, _, by rw [r.int_inv, r'.int_inv], w _ g H (Ext.refl g H) ok (Rep.int _)⟩
  · exact w.elim
def dInt : List D → T D
  | [d] => match d with
    | .int i => .ret (.int i)
    | .bl k => .ret (.int (if k then 1 else 0))
    | _ => .bad
  | _ => .bad
theorem cd_int : CaD X Γ (fun xs H Q => (∃ i, xs = [V.int i] ∧ Q (.int i) H) ∨ ∃ k, xs = [V.bl k] ∧ Q (.int (if k then 1 else 0)) H) dInt := fun g S H ds vs Q Px ok r w => by
  unfold dInt at w
  split at w
  · obtain ⟨v, rfl, r0⟩ := r.one; clear r; have r := r0
    split at w
    · exact .inl ⟨_, by rw [r.int_inv], w _ g H (Ext.refl g H) ok (Rep.int _)⟩
    · exact .inr ⟨_, by rw [r.bl_inv], w _ g H (Ext.refl g H) ok (Rep.int _)⟩
    · exact w.elim
  · exact w.elim
/-- list(x) of a list, a tuple, a range -/
def dList : List D → T D
  | [d] => match d with
    | .tup xs => .ret (.lst xs)
    | .lst xs => .ret (.lst xs)
    | _ => .bad
  | _ => .bad
theorem cd_list : CaD X Γ (fun xs H Q => ∃ p ys, xs = [.ref p] ∧ (SqL X.K H p ys ∨ SqT X.K H p ys) ∧ ∀ l, H l = none → Q (.ref l) (upd H l (.lst ys))) dList := fun g S H ds vs Q Px ok r w => by
  unfold dList at w
  split at w
  · obtain ⟨v, rfl, r0⟩ := r.one; clear r; have r := r0
    split at w
    · simp only [Rep] at r
      obtain ⟨a, xs, rfl, h1, h2⟩ := r
      exact ⟨a, xs, rfl, .inr h1, fun p hp => newLst ok h2 hp w⟩
    · simp only [Rep] at r
      obtain ⟨a, xs, rfl, h1, h2⟩ := r
      exact ⟨a, xs, rfl, .inl (.inl (.inl h1.2)), fun p hp => newLst ok h2 hp w⟩
    · exact w.elim
  · exact w.elim
/-- isinstance(x, T), T a built-in class -/
inductive Ty where
  | tup | int | bl | str | lst
def Ty.nm : Ty → String
  | .tup => "tuple"
  | .int => "int"
  | .bl => "bool"
  | .str => "str"
  | .lst => "list"
def D.ty? : D → Option String
  | .non => some "NoneType"
  | .bl _ => some "bool"
  | .int _ => some "int"
  | .str _ => some "str"
  | .tup _ => some "tuple"
  | .lst _ => some "list"
  | _ => none
def Ty.has : Ty → D → Option Bool
  | .tup, d => match d with | .tup _ => some true | .non | .bl _ | .int _ | .str _ | .lst _ => some false | _ => none
  | .int, d => match d with | .int _ | .bl _ => some true | .non | .tup _ | .str _ | .lst _ => some false | _ => none
  | .bl, d => match d with | .bl _ => some true | .non | .tup _ | .int _ | .str _ | .lst _ => some false | _ => none
  | .str, d => match d with | .str _ => some true | .non | .tup _ | .int _ | .bl _ | .lst _ => some false | _ => none
  | .lst, d => match d with | .lst _ => some true | .non | .tup _ | .int _ | .bl _ | .str _ => some false | _ => none
def dIsi (t : Ty) (d : D) : T D := match t.has d with
  | some b => .ret (.bl b)
  | none => .bad
theorem rep_ty {K : PySem.W.Frag} {g : Gh} {H : Hp} {d : D} {v : V} {T : String} (r : Rep K Γ g H d v) (h : d.ty? = some T) : TyX K H v (.type T) := by
  cases d <;> simp only [D.ty?, Option.some.injEq, reduceCtorEq] at h
  · subst h; simp only [Rep] at r; subst r; exact .base .non
  · subst h; simp only [Rep] at r; subst r; exact .base (.bl _)
  · subst h; simp only [Rep] at r; subst r; exact .base (.int _)
  · subst h; simp only [Rep] at r; subst r; exact .base (.str _)
  · subst h
    simp only [Rep] at r
    obtain ⟨a, xs, rfl, h1, _⟩ := r
    rcases h1 with (h1 | ⟨o, h1⟩) | ⟨o, its, n, h1, h2, _⟩
    · exact .base (.tup h1)
    · exact .fTuple h1
    · exact .kTuple h1 h2
  · subst h
    simp only [Rep] at r
    obtain ⟨a, xs, rfl, h1, _⟩ := r
    exact .base (.lst h1.2)
theorem has_kit (t : Ty) (d : D) (b : Bool) (h : t.has d = some b) : ∃ T, d.ty? = some T ∧ kitB T t.nm = some b := by
  cases t <;> cases d <;> simp only [Ty.has, Option.some.injEq, reduceCtorEq] at h <;> subst h <;> exact ⟨_, rfl, by decide +kernel⟩
theorem se_isi (t : Ty) {p p2 : Pos} {T : String} (hT : t.nm = T) (ha : SE X Γ E a ma) (hm : X.mg "isinstance" = none) (hmT : X.mg (Str.ofString T) = none) (hb : bootBuiltins (Str.ofString T) = some (.type T)) (hg : Gl X "isinstance" := by rfl) (hgT : Gl X (Str.ofString T) := by rfl)
    (hn : Str.ofString T ≠ "__name__" := by decide) (hdb : (Str.ofString T == ("__debug__" : Str)) = false := by decide)
    (h1 : starEach [a, .Name (Str.ofString T) p2] X.env = (false, eval a X.env) :: starEach [.Name (Str.ofString T) p2] X.env := by rfl) : SE X Γ E (.Call (.Name "isinstance" p) [a, .Name (Str.ofString T) p2] [] pos) (mUn (dIsi t) ma) := by
  obtain ⟨ta, pa, qa⟩ := ha
  refine ⟨_, pe_callB call_isi hg hm boot_isinstance (pa_cons pa (pa_cons (pe_bltn (v := .ty T) hgT hmT hb rfl hn hdb) pa_nil) h1) (by decide) (by decide) h1 (by rfl), fun g0 H0 σd σ g S H Q rs w => useE qa rs w (fun _ _ _ h => h) fun d S1 v g1 H1 e1 rs1 r1 w1 => ?_⟩
  unfold dIsi at w1
  split at w1
  · rename_i b h
    obtain ⟨T', h2, h3⟩ := has_kit t d b h
    rw [hT] at h3
    exact ⟨v, .ty T, .type T', .type T, b, rfl, .ty T, rep_ty r1 h2, kit_ty h3, w1 _ g1 H1 e1 rs1.ok (Rep.bl _)⟩
  · exact w1.elim
end
end KT
namespace KT
open PySem PySem.Spec PyProof.Rows L2 RZ

/-! ## statements -/
inductive Fl where
  | nx | bk | ct | rt (d : D)
def PSt (K : PySem.W.Frag) (Γ : Gm) (g0 : Gh) (H0 : Hp) (g : Gh) (H : Hp) (Dn : Ends) : Slots × Fl → Sto → Prop := fun r S' => ∀ g' H' σ', RS K Γ g0 H0 g' S' H' r.1 σ' → Mono g H g' H' → match r.2 with
  | .nx => Dn.nx σ' H'
  | .bk => Dn.bk σ' H'
  | .ct => Dn.ct σ' H'
  | .rt d => ∀ v, Rep K Γ g' H' d v → Dn.rt v H'
abbrev PropS (K : PySem.W.Frag) (Γ : Gm) (E : XK) (m : Slots → T (Slots × Fl)) (t : TS) : Prop := ∀ g0 H0 σd σ g S H Dn, RS K Γ g0 H0 g S H σd σ → W (m σd) (PSt K Γ g0 H0 g H Dn) (PX K Γ g0 H0 E) S → t Dn σ H
structure SS (X : Cx) (Γ : Gm) (E : XK) (st : Stmt) (m : Slots → T (Slots × Fl)) : Prop where
  ex : ∃ t, PS X st t ∧ PropS X.K Γ E m t
structure SSs (X : Cx) (Γ : Gm) (E : XK) (st : List Stmt) (m : Slots → T (Slots × Fl)) : Prop where
  ex : ∃ t, PSs X st t ∧ PropS X.K Γ E m t
section
variable {K : PySem.W.Frag} {Γ : Gm} {g0 g g1 : Gh} {S S1 : Sto} {H0 H H1 : Hp} {σd : Slots} {σ : St}
theorem PSt.mono {Dn : Ends} {r : Slots × Fl} {s : Sto} (m : Mono g H g1 H1) (h : PSt K Γ g0 H0 g H Dn r s) : PSt K Γ g0 H0 g1 H1 Dn r s := fun g' H' σ' rs mo => h g' H' σ' rs (m.trans mo)
theorem pxS {E : XK} (rs : RS K Γ g0 H0 g S H σd σ) {c : Nat} {as : List D} {s : Sto} (h : PX K Γ g0 H0 E c as s) : PX K Γ g H E c as s := h.ext rs.ext
end
def sNil (σ : Slots) : T (Slots × Fl) := .ret (σ, .nx)
def sSeq (m n : Slots → T (Slots × Fl)) (σ : Slots) : T (Slots × Fl) := (m σ).bind fun r => match r.2 with
  | .nx => n r.1
  | _ => .ret r
section
variable {X : Cx} {Γ : Gm} {E : XK} {pos : Pos} {a b e : Expr} {me : Slots → T D} {m n : Slots → T (Slots × Fl)} {st : Stmt} {rest sa sb : List Stmt} {mt : Slots → T Bool}
theorem sss_nil : SSs X Γ E [] sNil := ⟨_, pss_nil, fun g0 H0 σd σ g S H Dn rs w => w g H σ rs (Mono.refl _ _)⟩
theorem sss_cons (h1 : SS X Γ E st m) (h2 : SSs X Γ E rest n) : SSs X Γ E (st :: rest) (sSeq m n) := by
  obtain ⟨t, p, q⟩ := h1
  obtain ⟨u, p', q'⟩ := h2
  refine ⟨_, pss_cons p p', fun g0 H0 σd σ g S H Dn rs w => ?_⟩
  refine q _ _ _ _ _ _ _ { Dn with nx := u Dn } rs (W_mono _ (fun r S1 w1 g1 H1 σ1 rs1 mo => ?_) (fun _ _ _ h => h) (W_bind _ _ |>.mp w))
  obtain ⟨σd1, fl⟩ := r
  cases fl with
  | nx => exact q' _ _ _ _ _ _ _ Dn rs1 (W_mono _ (fun r s h => h.mono mo) (fun _ _ _ h => h) w1)
  | bk => exact w1 g1 H1 σ1 rs1 mo
  | ct => exact w1 g1 H1 σ1 rs1 mo
  | rt d => exact w1 g1 H1 σ1 rs1 mo
theorem sss_one (h1 : SS X Γ E st m) : SSs X Γ E [st] m := by
  obtain ⟨t, p, q⟩ := h1
  exact ⟨_, pss_one p, q⟩
theorem ss_pass : SS X Γ E (.Pass pos) sNil := ⟨_, ps_pass, fun g0 H0 σd σ g S H Dn rs w => w g H σ rs (Mono.refl _ _)⟩
def sCt (σ : Slots) : T (Slots × Fl) := .ret (σ, .ct)
theorem ss_continue : SS X Γ E (.Continue pos) sCt := ⟨_, ps_continue, fun g0 H0 σd σ g S H Dn rs w => w g H σ rs (Mono.refl _ _)⟩
def sRet (me : Slots → T D) (σ : Slots) : T (Slots × Fl) := (me σ).bind fun d => .ret (σ, .rt d)
theorem ss_ret (he : SE X Γ E e me) : SS X Γ E (.Return (some e) pos) (sRet me) := by
  obtain ⟨t, p, q⟩ := he
  refine ⟨_, ps_ret p, fun g0 H0 σd σ g S H Dn rs w => ?_⟩
  refine q _ _ _ _ _ _ _ _ rs (W_mono _ (fun d S1 w1 v g1 H1 e1 ok1 r1 => ?_) (fun _ _ _ h => pxS rs h) (W_bind _ _ |>.mp w))
  exact w1 g1 H1 σ (rs.mono e1 ok1) (e1.mono rs.ok) v r1
def sIf (mt : Slots → T Bool) (m n : Slots → T (Slots × Fl)) (σ : Slots) : T (Slots × Fl) := (mt σ).bind fun b => if b then m σ else n σ
theorem ss_if {c : Expr} (hc : ST X Γ E c mt) (ha : SSs X Γ E sa m) (hb : SSs X Γ E sb n) : SS X Γ E (.If c sa sb pos) (sIf mt m n) := by
  obtain ⟨tc, pc, qc⟩ := hc
  obtain ⟨ta, pa, qa⟩ := ha
  obtain ⟨tb, pb, qb⟩ := hb
  refine ⟨_, ps_if pc pa pb, fun g0 H0 σd σ g S H Dn rs w => ?_⟩
  refine qc _ _ _ _ _ _ _ _ rs (W_mono _ (fun b S1 w1 g1 H1 e1 ok1 => ?_) (fun _ _ _ h => pxS rs h) (W_bind _ _ |>.mp w))
  have rs1 := rs.mono e1 ok1
  have mo := e1.mono rs.ok
  cases b with
  | true => exact qa _ _ _ _ _ _ _ Dn rs1 (W_mono _ (fun _ _ h => h.mono mo) (fun _ _ _ h => h) w1)
  | false => exact qb _ _ _ _ _ _ _ Dn rs1 (W_mono _ (fun _ _ h => h.mono mo) (fun _ _ _ h => h) w1)
def sExpr (me : Slots → T D) (σ : Slots) : T (Slots × Fl) := (me σ).bind fun _ => .ret (σ, .nx)
theorem ss_expr (he : SE X Γ E e me) (hs : swapsWith e none pos.line X.env = pure false := by rfl) : SS X Γ E (.Expr e pos) (sExpr me) := by
  obtain ⟨t, p, q⟩ := he
  refine ⟨_, ps_expr p hs, fun g0 H0 σd σ g S H Dn rs w => ?_⟩
  refine q _ _ _ _ _ _ _ _ rs (W_mono _ (fun d S1 w1 v g1 H1 e1 ok1 r1 => ?_) (fun _ _ _ h => pxS rs h) (W_bind _ _ |>.mp w))
  exact w1 g1 H1 σ (rs.mono e1 ok1) (e1.mono rs.ok)
/-! stores -/
def sSet (i : Nat) (me : Slots → T D) (σ : Slots) : T (Slots × Fl) := (me σ).bind fun d => .ret (σ.set i (.val d), .nx)
theorem prop_set {i : Nat} {te : TE} (q : PropE X.K Γ E me te) : PropS X.K Γ E (sSet i me) (tAsg te (gName i)) := fun g0 H0 σd σ g S H Dn rs w => by
  refine q _ _ _ _ _ _ _ _ rs (W_mono _ (fun d S1 w1 => ?_) (fun _ _ _ h => pxS rs h) (W_bind _ _ |>.mp w))
  intro v g1 H1 e1 ok1 r1
  exact w1 g1 H1 _ ((rs.mono e1 ok1).set i r1) (e1.mono rs.ok)
theorem ss_set (i : Nat) {x : Str} {pos' : Pos} (hN : X.N.Nodup) (he : SE X Γ E e me) (hi : X.N[i]? = some x := by rfl) (hx : Loc X.env.scope x := by first | exact Or.inl rfl | exact Or.inr rfl) (hs : swapsWith e (some (.Name x pos')) pos.line X.env = pure false := by rfl)
    (hf : X.fn x = true ∨ X.env.scope.names.lookup x = some .local := by first | exact .inl rfl | exact .inr rfl) : SS X Γ E (.Assign [.Name x pos'] e pos) (sSet i me) := by
  obtain ⟨t, p, q⟩ := he
  exact ⟨_, ps_set hN hi hx p hs hf, prop_set q⟩
/-- a name gets a list of its own -/
def sOwn (i : Nat) (mo : Slots → T (List D)) (σ : Slots) : T (Slots × Fl) := (mo σ).bind fun ds => if i < σ.length then .ret (σ.set i (.own ds), .nx) else .bad
theorem RS.setO {K : PySem.W.Frag} {g0 g g' : Gh} {S S' : Sto} {H0 H H' : Hp} {σd : Slots} {σ : St} {i : Nat} {p : Addr} {ds : List D} {xs : List V} (rs : RS K Γ g0 H0 g S H σd σ) (e : Ext g H g' H') (ok : GOk K Γ g' S' H') (hn : H p = none) (hp : H' p = some (.lst xs)) (nf : ¬ g'.fz p) (nm : ¬ g'.mut p) (r : Reps K Γ g' H' ds xs) :
    RS K Γ g0 H0 g' S' H' (σd.set i (.own ds)) (σ.set i (some (.ref p))) := by
  have rs' := rs.later e ok hn hp r nf nm
  obtain ⟨ok0, e0, as, h1, h2, h3⟩ := rs'
  obtain ⟨a, b, rfl, h4, h5⟩ := h1.front rs.len
  obtain ⟨o, t, c, d, e1, rfl, h6, h7⟩ := h5
  obtain ⟨e2, rfl⟩ := h7
  cases e1
  obtain ⟨q, ys, e3, hq, hr, rfl⟩ := h6
  cases e3
  rw [List.flatten_append] at h2 h3
  obtain ⟨n1, n2, n3⟩ := List.nodup_append.mp h2
  refine ⟨ok0, e0, a.set i [p], h4.set i ⟨p, ys, rfl, hq, hr, rfl⟩, nodup_flatten_set n1 (by simp) fun b hb j l hj el hm => ?_, fun b hb => ?_⟩
  · simp at hb; subst hb
    exact n3 b (List.mem_flatten.mpr ⟨l, List.mem_of_getElem? el, hm⟩) b (by simp) rfl
  · rcases mem_flatten_set hb with hb | hb
    · exact h3 b (List.mem_append.mpr (.inr (by simpa using hb)))
    · exact h3 b (List.mem_append.mpr (.inl hb))
abbrev PropO (K : PySem.W.Frag) (Γ : Gm) (E : XK) (m : Slots → T (List D)) (t : TE) : Prop := ∀ g0 H0 σd σ g S H Q, RS K Γ g0 H0 g S H σd σ → W (m σd) (PO K Γ g H Q) (PX K Γ g H E) S → t σ H Q
theorem prop_own {i : Nat} {te : TE} {mo : Slots → T (List D)} (q : PropO X.K Γ E mo te) : PropS X.K Γ E (sOwn i mo) (tAsg te (gName i)) := fun g0 H0 σd σ g S H Dn rs w => by
  refine q _ _ _ _ _ _ _ _ rs (W_mono _ (fun ds S1 w1 => ?_) (fun _ _ _ h => pxS rs h) (W_bind _ _ |>.mp w))
  intro p xs g1 H1 e1 ok1 hn hp nf nm r1
  obtain ⟨c, w1⟩ := W_iteP w1
  exact w1 g1 H1 _ (rs.setO e1 ok1 hn hp nf nm r1) (e1.mono rs.ok)
theorem ss_own (i : Nat) {x : Str} {pos' : Pos} {mo : Slots → T (List D)} (hN : X.N.Nodup) (he : SO X Γ E e mo) (hi : X.N[i]? = some x := by rfl) (hx : Loc X.env.scope x := by first | exact Or.inl rfl | exact Or.inr rfl) (hs : swapsWith e (some (.Name x pos')) pos.line X.env = pure false := by rfl)
    (hf : X.fn x = true ∨ X.env.scope.names.lookup x = some .local := by first | exact .inl rfl | exact .inr rfl) : SS X Γ E (.Assign [.Name x pos'] e pos) (sOwn i mo) := by
  obtain ⟨t, p, q⟩ := he
  exact ⟨_, ps_set hN hi hx p hs hf, prop_own q⟩
/-- name = [..] on one line -/
theorem ss_setLc (i : Nat) {x : Str} {py pos' : Pos} {elt tg iter : Expr} {ifs : List Expr} {scope : Scope} {own : List (Str × Nat)} {t : Tg} {test : Slots → T Bool} {me : Slots → T D} {mi : Slots → T (List D)} (hc : X.calm = true) (hN : X.N.Nodup) (ok : BlkOk X.N X.env.scope scope own) (hv : ∀ i ∈ t.ixs, i ∈ own.map (·.2))
    (hi : SI X Γ E tg iter mi) (hg : ∀ s H C cl fp, SG (blkX X scope s H C cl fp) Γ tg t) (ht : ∀ s H C cl fp, STs (blkX X scope s H C cl fp) Γ XE0 ifs test) (he : ∀ s H C cl fp, SE (blkX X scope s H C cl fp) Γ XE0 elt me)
    (hsw : swapsWith (.ListComp elt [⟨tg, iter, ifs, 0⟩] scope pos') (some (.Name x py)) pos.line X.env = pure true) (hs : ∀ x, foldedSetIterable iter X.env x = pure x := by intro _; rfl) (hix : X.N[i]? = some x := by rfl) (hx : X.env.scope.names.lookup x = some .local := by rfl) :
    SS X Γ E (.Assign [.Name x py] (.ListComp elt [⟨tg, iter, ifs, 0⟩] scope pos') pos) (sSet i (mFz (mComp (own.map (·.2)) t test me mi))) := by
  obtain ⟨wi, pi, qi⟩ := hi
  refine ⟨_, ps_setLc (te := tCan X.K Γ XE0 me) (g := gCan X.K Γ t) (tt := ttCan X.K Γ XE0 test) hc hN hix hx hsw pi ok (fun s H C cl fp => (hg s H C cl fp).can) (fun s H C cl fp => (ht s H C cl fp).ex) (fun s H C cl fp => (he s H C cl fp).can) hs, prop_set (i := i) fun g0 H0 σd σ g S H Q rs w => ?_⟩
  refine prop_comp qi hv _ _ _ _ _ _ _ _ rs (W_mono _ (fun ds s w1 p xs g' H' e' ok hn hp nf nm r => ?_) (fun _ _ _ h => h) (W_bind _ _ |>.mp w))
  exact w1 _ (g'.add p) H' (e'.addF hn) (ok.addF hp nm) (Rep.lst (.inr rfl) hp (r.mono (Mono.add g' H' p)))
theorem ss_ownLc (i : Nat) {x : Str} {py pos' : Pos} {elt tg iter : Expr} {ifs : List Expr} {scope : Scope} {own : List (Str × Nat)} {t : Tg} {test : Slots → T Bool} {me : Slots → T D} {mi : Slots → T (List D)} (hc : X.calm = true) (hN : X.N.Nodup) (ok : BlkOk X.N X.env.scope scope own) (hv : ∀ i ∈ t.ixs, i ∈ own.map (·.2))
    (hi : SI X Γ E tg iter mi) (hg : ∀ s H C cl fp, SG (blkX X scope s H C cl fp) Γ tg t) (ht : ∀ s H C cl fp, STs (blkX X scope s H C cl fp) Γ XE0 ifs test) (he : ∀ s H C cl fp, SE (blkX X scope s H C cl fp) Γ XE0 elt me)
    (hsw : swapsWith (.ListComp elt [⟨tg, iter, ifs, 0⟩] scope pos') (some (.Name x py)) pos.line X.env = pure true) (hs : ∀ x, foldedSetIterable iter X.env x = pure x := by intro _; rfl) (hix : X.N[i]? = some x := by rfl) (hx : X.env.scope.names.lookup x = some .local := by rfl) :
    SS X Γ E (.Assign [.Name x py] (.ListComp elt [⟨tg, iter, ifs, 0⟩] scope pos') pos) (sOwn i (mComp (own.map (·.2)) t test me mi)) := by
  obtain ⟨wi, pi, qi⟩ := hi
  exact ⟨_, ps_setLc (te := tCan X.K Γ XE0 me) (g := gCan X.K Γ t) (tt := ttCan X.K Γ XE0 test) hc hN hix hx hsw pi ok (fun s H C cl fp => (hg s H C cl fp).can) (fun s H C cl fp => (ht s H C cl fp).ex) (fun s H C cl fp => (he s H C cl fp).can) hs, prop_own (prop_comp qi hv)⟩
theorem ss_setLc2 (i : Nat) {x : Str} {py pos' : Pos} {elt tg iter tg1 iter1 : Expr} {ifs ifs1 : List Expr} {scope : Scope} {own : List (Str × Nat)} {vs1 : List Nat} {t t1 : Tg} {test test1 : Slots → T Bool} {me : Slots → T D} {mi mi1 : Slots → T (List D)} (hc : X.calm = true) (hN : X.N.Nodup) (ok : BlkOk X.N X.env.scope scope own)
    (hv : ∀ i ∈ t.ixs, i ∈ own.map (·.2)) (hv1 : ∀ i ∈ t1.ixs, i ∈ vs1) (hvs : ∀ i ∈ vs1, i ∈ own.map (·.2))
    (hi : SI X Γ E tg iter mi) (hg : ∀ s H C cl fp, SG (blkX X scope s H C cl fp) Γ tg t) (ht : ∀ s H C cl fp, STs (blkX X scope s H C cl fp) Γ XE0 ifs test)
    (hi1 : ∀ s H C cl fp, SI (blkX X scope s H C cl fp) Γ XE0 tg1 iter1 mi1) (hg1 : ∀ s H C cl fp, SG (blkX X scope s H C cl fp) Γ tg1 t1) (ht1 : ∀ s H C cl fp, STs (blkX X scope s H C cl fp) Γ XE0 ifs1 test1) (he : ∀ s H C cl fp, SE (blkX X scope s H C cl fp) Γ XE0 elt me)
    (hsw : swapsWith (.ListComp elt [⟨tg, iter, ifs, 0⟩, ⟨tg1, iter1, ifs1, 0⟩] scope pos') (some (.Name x py)) pos.line X.env = pure true) (hs : ∀ x, foldedSetIterable iter X.env x = pure x := by intro _; rfl) (hs1 : ∀ env x, foldedSetIterable iter1 env x = pure x := by intro _ _; rfl) (hix : X.N[i]? = some x := by rfl) (hx : X.env.scope.names.lookup x = some .local := by rfl) :
    SS X Γ E (.Assign [.Name x py] (.ListComp elt [⟨tg, iter, ifs, 0⟩, ⟨tg1, iter1, ifs1, 0⟩] scope pos') pos) (sSet i (mFz (mComp2 (own.map (·.2)) vs1 t test mi t1 test1 me mi1))) := by
  obtain ⟨wi, pi, qi⟩ := hi
  refine ⟨_, ps_setLc2 (te := tCan X.K Γ XE0 me) (g := gCan X.K Γ t) (tt := ttCan X.K Γ XE0 test) (g1 := gCan X.K Γ t1) (tt1 := ttCan X.K Γ XE0 test1) (wi1 := iCan X.K Γ XE0 mi1) hc hN hix hx hsw pi ok hvs (fun s H C cl fp => (hg s H C cl fp).can) (fun s H C cl fp => (ht s H C cl fp).ex) (fun s H C cl fp => (hi1 s H C cl fp).can) (fun s H C cl fp => (hg1 s H C cl fp).can) (fun s H C cl fp => (ht1 s H C cl fp).ex) (fun s H C cl fp => (he s H C cl fp).can) hs hs1, prop_set (i := i) fun g0 H0 σd σ g S H Q rs w => ?_⟩
  refine prop_comp2 qi hv hv1 hvs _ _ _ _ _ _ _ _ rs (W_mono _ (fun ds s w1 p xs g' H' e' ok hn hp nf nm r => ?_) (fun _ _ _ h => h) (W_bind _ _ |>.mp w))
  exact w1 _ (g'.add p) H' (e'.addF hn) (ok.addF hp nm) (Rep.lst (.inr rfl) hp (r.mono (Mono.add g' H' p)))
/-- any target -/
def sAsg (t : Tg) (me : Slots → T D) (σ : Slots) : T (Slots × Fl) := (me σ).bind fun d => match t.asg d σ with
  | some σ' => .ret (σ', .nx)
  | none => .bad
theorem ss_asg {tg : Expr} {t : Tg} (he : SE X Γ E e me) (hg : SG X Γ tg t) (hs : swapsWithSole [tg] e pos.line X.env = pure false := by rfl) (hw : swappedStores [tg] e X.env = pure none := by rfl) (h1 : (assignEach [tg] X.env).map (·.2) = [assign tg X.env] := by rfl) :
    SS X Γ E (.Assign [tg] e pos) (sAsg t me) := by
  obtain ⟨te, pe, qe⟩ := he
  obtain ⟨gt, pg, qg⟩ := hg
  refine ⟨_, ps_asg pe pg hs hw h1, fun g0 H0 σd σ g S H Dn rs w => ?_⟩
  refine qe _ _ _ _ _ _ _ _ rs (W_mono _ (fun d S1 w1 v g1 H1 e1 ok1 r1 => ?_) (fun _ _ _ h => pxS rs h) (W_bind _ _ |>.mp w))
  have rs1 := rs.mono e1 ok1
  cases ha : t.asg d σd with
  | none => rw [ha] at w1; exact w1.elim
  | some σd' =>
    rw [ha] at w1
    exact qg _ _ _ _ _ _ _ _ _ _ _ rs1 r1 ha fun σ' go so => w1 g1 H1 σ' (go.rs rs1) (e1.mono rs.ok)
/-- a, b = x, y -/
def sPar (i j : Nat) (ms : Slots → T (List D)) (σ : Slots) : T (Slots × Fl) := (ms σ).bind fun ds => match ds with
  | [d, e] => .ret ((σ.set i (.val d)).set j (.val e), .nx)
  | _ => .bad
theorem ss_par (i j : Nat) {x y : Str} {px py pt : Pos} {kt k2 : Nat} {pt2 : Pos} {ms : Slots → T (List D)} (hc : X.calm = true) (hN : X.N.Nodup) (ha : SA X Γ E [a, b] ms) (hi : X.N[i]? = some x := by rfl) (hj : X.N[j]? = some y := by rfl) (hij : i ≠ j := by decide)
    (hx : X.env.scope.names.lookup x = some .local := by rfl) (hy : X.env.scope.names.lookup y = some .local := by rfl) (hw : swappedStores [.Tuple [.Name x px, .Name y py] kt pt] (.Tuple [a, b] k2 pt2) X.env = pure (some [x, y]) := by rfl)
    (hs : swapsWithSole [.Tuple [.Name x px, .Name y py] kt pt] (.Tuple [a, b] k2 pt2) pos.line X.env = pure false := by rfl) : SS X Γ E (.Assign [.Tuple [.Name x px, .Name y py] kt pt] (.Tuple [a, b] k2 pt2) pos) (sPar i j ms) := by
  obtain ⟨ta, pa, qa⟩ := ha
  refine ⟨_, ps_par hc hN hi hj hij hx hy pa hw hs, fun g0 H0 σd σ g S H Dn rs w => ?_⟩
  refine qa _ _ _ _ _ _ _ _ rs (W_mono _ (fun ds S1 w1 v g1 H1 e1 ok1 r1 => ?_) (fun _ _ _ h => pxS rs h) (W_bind _ _ |>.mp w))
  split at w1
  · obtain ⟨v, u, rfl, r1, r2⟩ := r1.two
    exact ⟨v, u, rfl, w1 g1 H1 _ (((rs.mono e1 ok1).set i r1).set j r2) (e1.mono rs.ok)⟩
  · exact w1.elim
def sPar3 (i j l : Nat) (ms : Slots → T (List D)) (σ : Slots) : T (Slots × Fl) := (ms σ).bind fun ds => match ds with
  | [d, e, f] => .ret (((σ.set i (.val d)).set j (.val e)).set l (.val f), .nx)
  | _ => .bad
theorem ss_par3 (i j l : Nat) {x y z : Str} {c : Expr} {px py pz pt : Pos} {kt k2 : Nat} {pt2 : Pos} {ms : Slots → T (List D)} (hc : X.calm = true) (hN : X.N.Nodup) (ha : SA X Γ E [a, b, c] ms) (hi : X.N[i]? = some x := by rfl) (hj : X.N[j]? = some y := by rfl) (hl : X.N[l]? = some z := by rfl) (hij : i ≠ j := by decide) (hil : i ≠ l := by decide) (hjl : j ≠ l := by decide)
    (hx : X.env.scope.names.lookup x = some .local := by rfl) (hy : X.env.scope.names.lookup y = some .local := by rfl) (hz : X.env.scope.names.lookup z = some .local := by rfl) (hw : swappedStores [.Tuple [.Name x px, .Name y py, .Name z pz] kt pt] (.Tuple [a, b, c] k2 pt2) X.env = pure (some [x, y, z]) := by rfl)
    (hs : swapsWithSole [.Tuple [.Name x px, .Name y py, .Name z pz] kt pt] (.Tuple [a, b, c] k2 pt2) pos.line X.env = pure false := by rfl) : SS X Γ E (.Assign [.Tuple [.Name x px, .Name y py, .Name z pz] kt pt] (.Tuple [a, b, c] k2 pt2) pos) (sPar3 i j l ms) := by
  obtain ⟨ta, pa, qa⟩ := ha
  refine ⟨_, ps_par3 hc hN hi hj hl hij hil hjl hx hy hz pa hw hs, fun g0 H0 σd σ g S H Dn rs w => ?_⟩
  refine qa _ _ _ _ _ _ _ _ rs (W_mono _ (fun ds S1 w1 v g1 H1 e1 ok1 r1 => ?_) (fun _ _ _ h => pxS rs h) (W_bind _ _ |>.mp w))
  split at w1
  · simp only [Reps] at r1
    obtain ⟨v, _, rfl, r1, u, _, rfl, r2, z, _, rfl, r3, rfl⟩ := r1
    exact ⟨v, u, z, rfl, w1 g1 H1 _ ((((rs.mono e1 ok1).set i r1).set j r2).set l r3) (e1.mono rs.ok)⟩
  · exact w1.elim
/-- x += e, x an int or a text -/
def sAug (i : Nat) (me : Slots → T D) (σ : Slots) : T (Slots × Fl) := match σ[i]? with
  | some (.val d) => (me σ).bind fun e => (match d, e with
    | .int a, .int b => T.ret (D.int (a + b))
    | .str a, .str b => if a.length + b.length ≤ lim then T.ret (D.str (a ++ b)) else T.bad
    | _, _ => (T.bad : T D)).bind fun z => .ret (σ.set i (.val z), .nx)
  | _ => .bad
theorem ss_aug (i : Nat) {x : Str} {pos' : Pos} (hN : X.N.Nodup) (he : SE X Γ E e me) (hi : X.N[i]? = some x := by rfl) (hx : Loc X.env.scope x := by first | exact Or.inl rfl | exact Or.inr rfl) (hf : X.fn x = true ∨ X.env.scope.names.lookup x = some .local := by first | exact .inl rfl | exact .inr rfl) :
    SS X Γ E (.AugAssign (.Name x pos') .Add e pos) (sAug i me) := by
  obtain ⟨te, pe, qe⟩ := he
  refine ⟨_, ps_aug hN hi hx pe (ti := fun x y H Q => (rI0 fun i j => .int (i + j)) x y H Q ∨ ∃ i j, x = .str i ∧ y = .str j ∧ i.length + j.length ≤ sizeLine ∧ Q (.str (i ++ j)) H) (fun pins s σ H x y v u Q I r1 r2 h => (iop_add.or iop_add_str) pins s σ H x y v u Q I r1 r2 h) hf, fun g0 H0 σd σ g S H Dn rs w => ?_⟩
  unfold sAug at w
  split at w
  · rename_i d hd
    obtain ⟨v, e0, r0⟩ := rs.val hd
    refine ⟨v, e0, qe _ _ _ _ _ _ _ _ rs (W_mono _ (fun d' S1 w1 v' g1 H1 e1 ok1 r1 => ?_) (fun _ _ _ h => pxS rs h) (W_bind _ _ |>.mp w))⟩
    have rs1 := rs.mono e1 ok1
    have r0' := r0.mono (e1.mono rs.ok)
    split at w1
    · exact .inl ⟨_, _, r0'.int_inv, r1.int_inv, w1 g1 H1 _ (rs1.set i (Rep.int _)) (e1.mono rs.ok)⟩
    · split at w1
      · rename_i hl
        simp only [Rep] at r0' r1
        refine .inr ⟨_, _, r0', r1, by rw [strLen, strLen]; exact lim_le hl, ?_⟩
        refine w1 g1 H1 _ (rs1.set i (d := .str (_ ++ _)) ?_) (e1.mono rs.ok)
        simp only [Rep]
        congr 1
        show (Str.append _ _ : Str) = _
        simp [Str.append]
      · exact w1.elim
    · exact w1.elim
  · exact w.elim
/-! loops -/
def fFor (t : Tg) (body : Slots → T (Slots × Fl)) : List D → Slots → T (Slots × Fl)
  | [], σ => .ret (σ, .nx)
  | x :: r, σ => match t.asg x σ with
    | none => .bad
    | some σ1 => (body σ1).bind fun z => match z.2 with
      | .nx => fFor t body r z.1
      | .ct => fFor t body r z.1
      | .bk => .ret (z.1, .nx)
      | .rt d => .ret (z.1, .rt d)
def sFor (mi : Slots → T (List D)) (t : Tg) (body : Slots → T (Slots × Fl)) (σ : Slots) : T (Slots × Fl) := (mi σ).bind fun xs => fFor t body xs σ
theorem ss_for {tg iter : Expr} {t : Tg} {mi : Slots → T (List D)} (hp : PassesOwn (model X.prog X.w) X.A X.env X.xe) (hc : X.calm = true) (hi : SI X Γ E tg iter mi) (hg : SG X Γ tg t) (hb : SSs X Γ E sa m) (hs : ∀ x, foldedSetIterable iter X.env x = pure x := by intro _; rfl) :
    SS X Γ E (.For tg iter sa [] pos) (sFor mi t m) := by
  obtain ⟨wi, pi, qi⟩ := hi
  obtain ⟨gt, pg, qg⟩ := hg
  obtain ⟨tb, pb, qb⟩ := hb
  refine ⟨_, ps_for hp hc pi pg pb hs, fun g0 H0 σd σ g S H Dn rs w => ?_⟩
  refine qi _ _ _ _ _ _ _ _ rs (W_mono _ (fun ds S1 w1 g1 H1 J e1 ok1 wk => ?_) (fun _ _ _ h => pxS rs h) (W_bind _ _ |>.mp w))
  have rs1 := rs.mono e1 ok1
  have mo1 := e1.mono rs.ok
  refine ⟨fun i m2 σ2 H2 => m2 = ds.length - i ∧ i ≤ ds.length ∧ ∃ σd2 g2 S2, RS X.K Γ g0 H0 g2 S2 H2 σd2 σ2 ∧ Mono g1 H1 g2 H2 ∧ W (fFor t m (ds.drop i) σd2) (PSt X.K Γ g0 H0 g H Dn) (PX X.K Γ g0 H0 E) S2,
    ⟨ds.length, by simp, Nat.zero_le _, σd, g1, S1, rs1, Mono.refl _ _, w1⟩, ?_⟩
  rintro i m2 σ2 H2 ⟨rfl, hle, σd2, g2, S2, rs2, mo2, w2⟩
  by_cases hlt : i < ds.length
  · refine .inr ⟨wk.go i g2 H2 mo2 hlt, fun σ3 H3 => ∃ σd3 g3 S3, RS X.K Γ g0 H0 g3 S3 H3 σd3 σ3 ∧ Mono g1 H1 g3 H3 ∧ W (fFor t m (ds.drop (i + 1)) σd3) (PSt X.K Γ g0 H0 g H Dn) (PX X.K Γ g0 H0 E) S3, fun σ3 H3 p => ⟨ds.length - (i + 1), by omega, rfl, hlt, p⟩, fun x H3 y => ?_⟩
    obtain ⟨d, ed, e3, ok3, r3⟩ := wk.yld i g2 S2 H2 x H3 mo2 rs2.ok hlt y
    rw [drop_at ed] at w2
    have rs3 := rs2.mono e3 ok3
    have mo3 := mo2.trans (e3.mono rs2.ok)
    unfold fFor at w2
    cases ha : t.asg d σd2 with
    | none => rw [ha] at w2; exact w2.elim
    | some σd' =>
      rw [ha] at w2
      refine qg _ _ _ _ _ _ _ _ _ _ _ rs3 r3 ha fun σ' go so => ?_
      have rs4 := go.rs rs3
      refine qb _ _ _ _ _ _ _ _ rs4 (W_mono _ (fun z S5 w5 g5 H5 σ5 rs5 mo5 => ?_) (fun _ _ _ h => h) (W_bind _ _ |>.mp w2))
      obtain ⟨σd5, fl⟩ := z
      have mo35 := mo3.trans mo5
      cases fl with
      | nx => exact ⟨σd5, g5, S5, rs5, mo35, w5⟩
      | ct => exact ⟨σd5, g5, S5, rs5, mo35, w5⟩
      | bk => exact w5 g5 H5 σ5 rs5 (mo1.trans mo35)
      | rt d => exact w5 g5 H5 σ5 rs5 (mo1.trans mo35)
  · have e : i = ds.length := by omega
    subst e
    rw [List.drop_length] at w2
    exact .inl ⟨wk.stop g2 H2 mo2, w2 g2 H2 σ2 rs2 (mo1.trans mo2)⟩
def fWh (mt : Slots → T Bool) (body : Slots → T (Slots × Fl)) : Nat → Slots → T (Slots × Fl)
  | 0, _ => .bad
  | n + 1, σ => (mt σ).bind fun b => if b then (body σ).bind fun z => (match z.2 with
      | .nx => fWh mt body n z.1
      | .ct => fWh mt body n z.1
      | .bk => .ret (z.1, .nx)
      | .rt d => .ret (z.1, .rt d)) else .ret (σ, .nx)
def sWh (n : Nat) (mt : Slots → T Bool) (body : Slots → T (Slots × Fl)) (σ : Slots) : T (Slots × Fl) := fWh mt body n σ
theorem ss_while (n : Nat) {c : Expr} (hp : PassesOwn (model X.prog X.w) X.A X.env X.xe) (hc : ST X Γ E c mt) (hb : SSs X Γ E sa m) : SS X Γ E (.While c sa [] pos) (sWh n mt m) := by
  obtain ⟨tc, pc, qc⟩ := hc
  obtain ⟨tb, pb, qb⟩ := hb
  refine ⟨_, ps_while hp pc pb, fun g0 H0 σd σ g S H Dn rs w => ?_⟩
  refine ⟨fun k σ2 H2 => ∃ σd2 g2 S2, RS X.K Γ g0 H0 g2 S2 H2 σd2 σ2 ∧ Mono g H g2 H2 ∧ W (fWh mt m k σd2) (PSt X.K Γ g0 H0 g H Dn) (PX X.K Γ g0 H0 E) S2, ⟨n, σd, g, S, rs, Mono.refl _ _, w⟩, ?_⟩
  rintro k σ2 H2 ⟨σd2, g2, S2, rs2, mo2, w2⟩
  cases k with
  | zero => exact w2.elim
  | succ k =>
    unfold fWh at w2
    refine qc _ _ _ _ _ _ _ _ rs2 (W_mono _ (fun b S3 w3 g3 H3 e3 ok3 => ?_) (fun _ _ _ h => pxS rs2 h) (W_bind _ _ |>.mp w2))
    have rs3 := rs2.mono e3 ok3
    have mo3 := mo2.trans (e3.mono rs2.ok)
    cases b with
    | false => exact w3 g3 H3 σ2 rs3 mo3
    | true =>
      refine ⟨fun σ4 H4 => ∃ σd4 g4 S4, RS X.K Γ g0 H0 g4 S4 H4 σd4 σ4 ∧ Mono g H g4 H4 ∧ W (fWh mt m k σd4) (PSt X.K Γ g0 H0 g H Dn) (PX X.K Γ g0 H0 E) S4, fun σ4 H4 p => ⟨k, Nat.lt_succ_self _, p⟩, ?_⟩
      refine qb _ _ _ _ _ _ _ _ rs3 (W_mono _ (fun z S5 w5 g5 H5 σ5 rs5 mo5 => ?_) (fun _ _ _ h => h) (W_bind _ _ |>.mp w3))
      obtain ⟨σd5, fl⟩ := z
      have mo35 := mo3.trans mo5
      cases fl with
      | nx => exact ⟨σd5, g5, S5, rs5, mo35, w5⟩
      | ct => exact ⟨σd5, g5, S5, rs5, mo35, w5⟩
      | bk => exact w5 g5 H5 σ5 rs5 mo35
      | rt d => exact w5 g5 H5 σ5 rs5 mo35
end
end KT
namespace KT
open PySem PySem.Spec PyProof.Rows L2 RZ

/-! ## own lists in statements -/
section
variable {K : PySem.W.Frag} {Γ : Gm} {g0 g g1 : Gh} {S S1 : Sto} {H0 H H1 : Hp} {σd : Slots} {σ : St}
theorem RS.own (rs : RS K Γ g0 H0 g S H σd σ) {i : Nat} {ds : List D} (h : σd[i]? = some (.own ds)) : ∃ a xs, σ[i]? = some (some (.ref a)) ∧ H a = some (.lst xs) ∧ Reps K Γ g H ds xs ∧ ¬ g.fz a ∧ ¬ g.mut a ∧ H0 a = none := by
  obtain ⟨a, xs, h1, h2, h3, h4, h5, h6, _⟩ := rs.updO h (ds' := []) (vs' := []) Reps.nil
  exact ⟨a, xs, h1, h2, h3, h4, h5, h6⟩
theorem RS.wr (rs : RS K Γ g0 H0 g S H σd σ) {i : Nat} {ds ds' : List D} {vs' : List V} {a : Addr} (h : σd[i]? = some (.own ds)) (ha : σ[i]? = some (some (.ref a))) (rr : Reps K Γ g H ds' vs') :
    RS K Γ g0 H0 g S (upd H a (.lst vs')) (σd.set i (.own ds')) σ ∧ Mono g H g (upd H a (.lst vs')) := by
  obtain ⟨b, xs, h1, h2, h3, h4, h5, h6, h7⟩ := rs.updO h rr
  rw [ha] at h1
  cases h1
  exact ⟨h7, Mono.updL h2 h4⟩
end
theorem set_same {α : Type} {l : List α} {i : Nat} {a : α} (h : l[i]? = some a) : l.set i a = l := by
  apply List.ext_getElem?
  intro j
  by_cases hj : i = j
  · subst hj
    rw [List.getElem?_set_self (List.getElem?_eq_some_iff.mp h).1, h]
  · rw [List.getElem?_set_ne hj]
section
variable {X : Cx} {Γ : Gm} {E : XK} {pos : Pos} {e e2 : Expr} {es : List Expr} {me mi : Slots → T D} {ms : Slots → T (List D)} {m : Slots → T (Slots × Fl)} {st : Stmt} {sts : List Stmt}
def sApp (i : Nat) (ms : Slots → T (List D)) (σ : Slots) : T (Slots × Fl) := match σ[i]? with
  | some (.own ds) => (ms σ).bind fun es => match es with
    | [d] => if ds.length < lim then .ret (σ.set i (.own (ds ++ [d])), .nx) else .bad
    | _ => .bad
  | _ => .bad
theorem ss_app (i : Nat) {x : Str} {p1 p2 p3 : Pos} (ha : SA X Γ E (e :: es) ms) (hN : X.N[i]? = some x := by rfl) (hv : Vis X.env.scope x := by first | exact Or.inl rfl | exact Or.inr (Or.inl rfl) | exact Or.inr (Or.inr rfl)) (hd : (x == ("__debug__" : Str)) = false := by decide) (hcd : (x == ("__classdict__" : Str)) = false := by decide)
    (hs : swapsWith (.Call (.Attribute (.Name x p1) "append" p2) (e :: es) [] p3) none pos.line X.env = pure false := by rfl)
    (hbase : attributeBase (.Name x p1) "append" X.env (eval (.Name x p1) X.env) = eval (.Name x p1) X.env := by rfl)
    (hfew : ((backTo p3 (starEach (e :: es) X.env)).all (fun x => !x.1) && (backToKw p3 (keywordEach [] X.env)).all (fun x => x.1.isSome)
      && decide ((e :: es).length + ([] : List Keyword).length + (if ([] : List Keyword).isEmpty then 0 else 1) < 30)) = true := by rfl)
    (hline : (p2.endLine == p3.line) = true := by rfl) (hst : starEach (e :: es) X.env = (false, eval e X.env) :: starEach es X.env := by rfl) (hplain : (backTo p3 (starEach es X.env)).any (·.1) = false := by rfl) :
    SS X Γ E (.Expr (.Call (.Attribute (.Name x p1) "append" p2) (e :: es) [] p3) pos) (sApp i ms) := by
  obtain ⟨ta, pa, qa⟩ := ha
  refine ⟨_, ps_expr (pe_bm PySem.F.plainAttrs_list PySem.F.slot_list_append PySem.F.type_list_append mt_append (pe_var (i := i) hN hv hd hcd) pa hbase hfew hline hst hplain) hs, fun g0 H0 σd σ g S H Dn rs w => ?_⟩
  unfold sApp at w
  split at w
  · rename_i ds hd
    obtain ⟨a, xs, h1, h2, h3, h4, h5, h6⟩ := rs.own hd
    refine ⟨_, h1, .inl ⟨rfl, xs, .inl (.inl h2)⟩, qa _ _ _ _ _ _ _ _ rs (W_mono _ (fun es S1 w1 vs g1 H1 e1 ok1 r1 => ?_) (fun _ _ _ h => pxS rs h) (W_bind _ _ |>.mp w))⟩
    split at w1
    · obtain ⟨c, w1⟩ := W_iteP w1
      obtain ⟨v, rfl, rv⟩ := r1.one
      have rs1 := rs.mono e1 ok1
      obtain ⟨b, ys, j1, j2, j3, _⟩ := rs1.own hd
      rw [h1] at j1; cases j1
      have hl := j3.length
      obtain ⟨rs2, mo2⟩ := rs1.wr hd h1 (j3.append (Reps.cons rv Reps.nil))
      exact ⟨a, ys, v, rfl, rfl, j2, lim_lt (by omega), w1 g1 _ σ rs2 ((e1.mono rs.ok).trans mo2)⟩
    · exact w1.elim
  · exact w.elim
/-- x += [..] -/
def sExt (i : Nat) (me : Slots → T D) (σ : Slots) : T (Slots × Fl) := match σ[i]? with
  | some (.own ds) => (me σ).bind fun e => match e with
    | .lst es => if ds.length + es.length ≤ lim then .ret (σ.set i (.own (ds ++ es)), .nx) else .bad
    | _ => .bad
  | _ => .bad
theorem ss_ext (i : Nat) {x : Str} {pos' : Pos} (hN : X.N.Nodup) (he : SE X Γ E e me) (hi : X.N[i]? = some x := by rfl) (hx : Loc X.env.scope x := by first | exact Or.inl rfl | exact Or.inr rfl) (hf : X.fn x = true ∨ X.env.scope.names.lookup x = some .local := by first | exact .inl rfl | exact .inr rfl) :
    SS X Γ E (.AugAssign (.Name x pos') .Add e pos) (sExt i me) := by
  obtain ⟨te, pe, qe⟩ := he
  refine ⟨_, ps_aug hN hi hx pe (ti := fun x y H Q => rExt2 x y H Q) (fun pins s σ H x y v u Q I r1 r2 h => iop_ext pins s σ H x y v u Q I r1 r2 h) hf, fun g0 H0 σd σ g S H Dn rs w => ?_⟩
  unfold sExt at w
  split at w
  · rename_i ds hd
    obtain ⟨a, xs, h1, h2, h3, h4, h5, h6⟩ := rs.own hd
    refine ⟨_, h1, qe _ _ _ _ _ _ _ _ rs (W_mono _ (fun d' S1 w1 v' g1 H1 e1 ok1 r1 => ?_) (fun _ _ _ h => pxS rs h) (W_bind _ _ |>.mp w))⟩
    split at w1
    · obtain ⟨c, w1⟩ := W_iteP w1
      have rs1 := rs.mono e1 ok1
      obtain ⟨b, ys, j1, j2, j3, _⟩ := rs1.own hd
      rw [h1] at j1; cases j1
      simp only [Rep] at r1
      obtain ⟨b, zs, rfl, ⟨_, k1⟩, k2⟩ := r1
      have hl := j3.length
      have hl2 := k2.length
      obtain ⟨rs2, mo2⟩ := rs1.wr hd h1 (j3.append k2)
      refine ⟨a, b, ys, zs, rfl, rfl, j2, k1, lim_le (by omega), ?_⟩
      show Dn.nx (σ.set i (some (.ref a))) _
      rw [set_same h1]
      exact w1 g1 _ σ rs2 ((e1.mono rs.ok).trans mo2)
    · exact w1.elim
  · exact w.elim
/-- x = y.pop() -/
def sPop (i j : Nat) (σ : Slots) : T (Slots × Fl) := match σ[i]? with
  | some (.own ds) => if i = j then .bad else match ds[ds.length - 1]? with
    | some d => .ret ((σ.set i (.own ds.dropLast)).set j (.val d), .nx)
    | none => .bad
  | _ => .bad
theorem ss_pop (i j : Nat) {x y : Str} {p1 p2 p3 pos' : Pos} (hNd : X.N.Nodup) (hN : X.N[i]? = some x := by rfl) (hi : X.N[j]? = some y := by rfl) (hv : Vis X.env.scope x := by first | exact Or.inl rfl | exact Or.inr (Or.inl rfl) | exact Or.inr (Or.inr rfl)) (hd : (x == ("__debug__" : Str)) = false := by decide) (hcd : (x == ("__classdict__" : Str)) = false := by decide)
    (hx : Loc X.env.scope y := by first | exact Or.inl rfl | exact Or.inr rfl) (hs : swapsWith (.Call (.Attribute (.Name x p1) "pop" p2) [] [] p3) (some (.Name y pos')) pos.line X.env = pure false := by rfl)
    (hf : X.fn y = true ∨ X.env.scope.names.lookup y = some .local := by first | exact .inl rfl | exact .inr rfl)
    (hbase : attributeBase (.Name x p1) "pop" X.env (eval (.Name x p1) X.env) = eval (.Name x p1) X.env := by rfl) (hline : (p2.endLine == p3.line) = true := by rfl) :
    SS X Γ E (.Assign [.Name y pos'] (.Call (.Attribute (.Name x p1) "pop" p2) [] [] p3) pos) (sPop i j) := by
  refine ⟨_, ps_set hNd hi hx (pe_bm0 PySem.F.plainAttrs_list PySem.F.slot_list_pop PySem.F.type_list_pop mt_pop (pe_var (i := i) hN hv hd hcd) hbase hline) hs hf, fun g0 H0 σd σ g S H Dn rs w => ?_⟩
  unfold sPop at w
  split at w
  · rename_i ds hd
    split at w
    · exact w.elim
    · rename_i hij
      split at w
      · rename_i d hd2
        obtain ⟨a, xs, h1, h2, h3, h4, h5, h6⟩ := rs.own hd
        have hl := h3.length
        obtain ⟨v, hv, rv⟩ := h3.getD hd2
        obtain ⟨rs2, mo2⟩ := rs.wr hd h1 h3.dropLast
        refine ⟨_, h1, .inl ⟨rfl, xs, .inl (.inl h2)⟩, a, xs, v, rfl, rfl, h2, by rw [hl]; exact hv, ?_⟩
        exact w g _ _ (rs2.set j (rv.mono mo2)) mo2
      · exact w.elim
  · exact w.elim
/-- x[k] = e -/
def sPut (i : Nat) (me mi : Slots → T D) (σ : Slots) : T (Slots × Fl) := (me σ).bind fun d => match σ[i]? with
  | some (.own ds) => (mi σ).bind fun k => match k with
    | .int k => match ixN ds.length k with
      | some j => .ret (σ.set i (.own (ds.set j d)), .nx)
      | none => .bad
    | _ => .bad
  | _ => .bad
theorem ss_put (i : Nat) {x : Str} {p1 p2 : Pos} {k : Expr} (he : SE X Γ E e me) (hk : SE X Γ E k mi) (hN : X.N[i]? = some x := by rfl) (hv : Vis X.env.scope x := by first | exact Or.inl rfl | exact Or.inr (Or.inl rfl) | exact Or.inr (Or.inr rfl)) (hd : (x == ("__debug__" : Str)) = false := by decide) (hcd : (x == ("__classdict__" : Str)) = false := by decide)
    (hs : swapsWithSole [.Subscript (.Name x p1) k p2] e pos.line X.env = pure false := by rfl) (hw : swappedStores [.Subscript (.Name x p1) k p2] e X.env = pure none := by rfl) (h1 : (assignEach [.Subscript (.Name x p1) k p2] X.env).map (·.2) = [assign (.Subscript (.Name x p1) k p2) X.env] := by rfl)
    (ha : ∀ v, assign (.Subscript (.Name x p1) k p2) X.env v = (do
      let ov ← holding [v] (eval (.Name x p1) X.env)
      let iv ← holding [v, ov] (eval k X.env)
      standAt p2
      holding [v, ov, iv] (setItem ov iv v)
      release [v, ov, iv] []) := by intro _; rfl) :
    SS X Γ E (.Assign [.Subscript (.Name x p1) k p2] e pos) (sPut i me mi) := by
  obtain ⟨te, pe, qe⟩ := he
  obtain ⟨tk, pk, qk⟩ := hk
  refine ⟨_, ps_asg pe (pg_sub (pe_var (i := i) hN hv hd hcd) pk set_list ha) hs hw h1, fun g0 H0 σd σ g S H Dn rs w => ?_⟩
  refine qe _ _ _ _ _ _ _ _ rs (W_mono _ (fun d S1 w1 v g1 H1 e1 ok1 r1 => ?_) (fun _ _ _ h => pxS rs h) (W_bind _ _ |>.mp w))
  have rs1 := rs.mono e1 ok1
  unfold sPut at w
  split at w1
  · rename_i ds hd
    obtain ⟨a, xs, h1, h2, h3, h4, h5, h6⟩ := rs1.own hd
    refine ⟨_, h1, qk _ _ _ _ _ _ _ _ rs1 (W_mono _ (fun d' S2 w2 v' g2 H2 e2 ok2 r2 => ?_) (fun _ _ _ h => pxS rs1 h) (W_bind _ _ |>.mp w1))⟩
    split at w2
    · split at w2
      · rename_i j hj
        have rs2 := rs1.mono e2 ok2
        obtain ⟨b, ys, j1, j2, j3, _⟩ := rs2.own hd
        rw [h1] at j1; cases j1
        have hl := j3.length
        obtain ⟨rs3, mo3⟩ := rs2.wr hd h1 (j3.set j (r1.mono (e2.mono rs1.ok)))
        exact ⟨a, ys, _, j, rfl, r2.int_inv, j2, by rw [hl]; exact hj, w2 g2 _ σ rs3 (((e1.mono rs.ok).trans (e2.mono rs1.ok)).trans mo3)⟩
      · exact w2.elim
    · exact w2.elim
  · exact w1.elim

/-! ## a list is given up: nobody changes it any more -/
theorem RS.fz {K : PySem.W.Frag} {g0 g : Gh} {S : Sto} {H0 H : Hp} {σd : Slots} {σ : St} {i : Nat} {ds : List D} (rs : RS K Γ g0 H0 g S H σd σ) (h : σd[i]? = some (.own ds)) : ∃ a, RS K Γ g0 H0 (g.add a) S H (σd.set i (.val (.lst ds))) σ := by
  obtain ⟨ok, e0, as, h1, h2, h3⟩ := rs
  obtain ⟨o, l, e1, e2, a, xs, rfl, ha, hr, rfl⟩ := h1.get h
  have hm : a ∈ as.flatten := List.mem_flatten.mpr ⟨[a], List.mem_of_getElem? e2, by simp⟩
  obtain ⟨n1, n2, n3⟩ := h3 a hm
  have q := (h1.mono (Mono.add g H a) fun _ _ => rfl).set i (x := .val (.lst ds)) (o := some (.ref a)) (a := []) ⟨rfl, _, rfl, Rep.lst (.inr rfl) ha (hr.mono (Mono.add g H a))⟩
  rw [set_same e1] at q
  refine ⟨a, ok.addF ha n2, e0.addF n3, as.set i [], q, nodup_flatten_set h2 List.nodup_nil fun b hb => by simp at hb, fun b hb => ?_⟩
  obtain ⟨l, hl, hbl⟩ := List.mem_flatten.mp hb
  obtain ⟨j, hj, ej⟩ := List.getElem_of_mem hl
  have ej' : (as.set i [])[j]? = some l := by rw [List.getElem?_eq_getElem hj, ej]
  by_cases hij : i = j
  · subst hij
    rw [List.getElem?_set_self (by rw [List.length_set] at hj; exact hj)] at ej'
    cases ej'
    simp at hbl
  · rw [List.getElem?_set_ne hij] at ej'
    obtain ⟨m1, m2, m3⟩ := h3 b (List.mem_flatten.mpr ⟨l, List.mem_of_getElem? ej', hbl⟩)
    refine ⟨?_, m2, m3⟩
    rintro (z | z)
    · exact m1 z
    · subst z
      exact flatten_apart h2 e2 ej' hij (by simp) hbl
def sFz (i : Nat) (m : Slots → T (Slots × Fl)) (σ : Slots) : T (Slots × Fl) := match σ[i]? with
  | some (.own ds) => m (σ.set i (.val (.lst ds)))
  | _ => .bad
theorem prop_fz {t : TS} (i : Nat) (q : PropS X.K Γ E m t) : PropS X.K Γ E (sFz i m) t := fun g0 H0 σd σ g S H Dn rs w => by
  unfold sFz at w
  split at w
  · rename_i ds hd
    obtain ⟨a, rs'⟩ := rs.fz hd
    exact q _ _ _ _ _ _ _ Dn rs' (W_mono _ (fun _ _ h => h.mono (Mono.add g H a)) (fun _ _ _ h => h) w)
  · exact w.elim
theorem ss_fz (i : Nat) (h : SS X Γ E st m) : SS X Γ E st (sFz i m) := by
  obtain ⟨t, p, q⟩ := h
  exact ⟨t, p, prop_fz i q⟩
theorem sss_fz (i : Nat) (h : SSs X Γ E sts m) : SSs X Γ E sts (sFz i m) := by
  obtain ⟨t, p, q⟩ := h
  exact ⟨t, p, prop_fz i q⟩
def sBad (_ : Slots) : T (Slots × Fl) := .bad
theorem ss_never : SS X Γ E st sBad := ⟨_, ps_never, fun g0 H0 σd σ g S H Dn rs w => w.elim⟩
end

/-! ## looking at own lists -/
mutual
def D.noL : D → Bool
  | .tup ds => D.noLs ds
  | .lst _ => false
  | _ => true
def D.noLs : List D → Bool
  | [] => true
  | d :: r => d.noL && D.noLs r
end
def T.nosto {α : Type} : T α → T α
  | .ret a => .ret a
  | .bad => .bad
  | .exc _ _ => .bad
  | .draw n k => .draw n fun r => (k r).nosto
  | .get _ => .bad
  | .put _ _ => .bad
theorem W_nosto {α : Type} {Q : α → Sto → Prop} {E E' : Nat → List D → Sto → Prop} (m : T α) : ∀ {s : Sto}, W m.nosto Q E s → W m (fun a s' => Q a s' ∧ s' = s) E' s := by
  induction m with
  | ret a => intro s h; exact ⟨h, rfl⟩
  | bad => intro s; exact id
  | exc c as => intro s h; exact h.elim
  | draw n k ih => intro s h; exact ⟨h.1, fun r hr => ih r (h.2 r hr)⟩
  | get k ih => intro s h; exact h.elim
  | put s k ih => intro s' h; exact h.elim
def viewS : Slot → Slot
  | .own ds => .val (.lst ds)
  | .own2 dss => .val (.lst (dss.map .lst))
  | x => x
def viewD (σ : Slots) : Slots := σ.map viewS
def mPeek (m : Slots → T D) (σ : Slots) : T D := .get fun s => if s.isEmpty then (m (viewD σ)).nosto.bind fun d => if d.noL then .ret d else .bad else .bad
def mPeekT (m : Slots → T Bool) (σ : Slots) : T Bool := .get fun s => if s.isEmpty then (m (viewD σ)).nosto else .bad
def mPeekO (m : Slots → T (List D)) (σ : Slots) : T (List D) := .get fun s => if s.isEmpty then (m (viewD σ)).nosto.bind fun d => if D.noLs d then .ret d else .bad else .bad
def Gh.addL (g : Gh) (l : List Addr) : Gh := { g with fz := fun b => g.fz b ∨ b ∈ l }
def Gh.cut (g : Gh) (l : List Addr) : Gh := { g with fz := fun b => g.fz b ∧ b ∉ l }
section
variable {K : PySem.W.Frag} {Γ : Gm} {g0 g g1 g' : Gh} {S S1 : Sto} {H0 H H1 H' : Hp} {σd : Slots} {σ : St} {l : List Addr}
theorem Mono.addL (g : Gh) (H : Hp) (l : List Addr) : Mono g H (g.addL l) H := ⟨fun _ h => .inl h, fun _ _ _ h => h, fun _ _ h => h, fun _ _ _ h => h, fun _ _ _ h => h, fun _ h => h, fun _ _ h => h⟩
mutual
theorem Rep.cut : ∀ {d : D} {v : V}, d.noL = true → Rep K Γ g H d v → Rep K Γ (g.cut l) H d v
  | .non, _, _, h => by simp only [Rep] at h ⊢; exact h
  | .bl b, _, _, h => by simp only [Rep] at h ⊢; exact h
  | .int i, _, _, h => by simp only [Rep] at h ⊢; exact h
  | .str cs, _, _, h => by simp only [Rep] at h ⊢; exact h
  | .tup ds, _, n, h => by
    simp only [Rep] at h ⊢
    obtain ⟨a, xs, e, h1, h2⟩ := h
    exact ⟨a, xs, e, h1, Reps.cut' (by simpa only [D.noL] using n) h2⟩
  | .lst ds, _, n, h => by simp [D.noL] at n
  | .rng lo hi, _, _, h => by simp only [Rep] at h ⊢; exact h
  | .cup, _, _, h => by simp only [Rep] at h ⊢; exact h
  | .fn i, _, _, h => by simp only [Rep] at h ⊢; exact h
  | .obj i, _, _, h => by simp only [Rep] at h ⊢; exact h
  | .scr, _, _, h => by simp only [Rep] at h ⊢; exact h
theorem Reps.cut' : ∀ {ds : List D} {vs : List V}, D.noLs ds = true → Reps K Γ g H ds vs → Reps K Γ (g.cut l) H ds vs
  | [], _, _, h => by simp only [Reps] at h ⊢; exact h
  | d :: ds, _, n, h => by
    simp only [Reps] at h ⊢
    simp only [D.noLs, Bool.and_eq_true] at n
    obtain ⟨v, r, e, h1, h2⟩ := h
    exact ⟨v, r, e, Rep.cut n.1 h1, Reps.cut' n.2 h2⟩
end
theorem RepB.view : ∀ {dss : List (List D)} {bs : List Addr}, (∀ b ∈ bs, b ∈ l) → RepB K Γ g H dss bs → Reps K Γ (g.addL l) H (dss.map .lst) (bs.map V.ref)
  | [], _, _, h => by cases (show _ = [] from h); exact Reps.nil
  | ds :: r, _, k, h => by
    obtain ⟨b, t, rfl, ⟨xs, e, h1⟩, h2⟩ := h
    exact Reps.cons (Rep.lst (.inr (k b (by simp))) e (h1.mono (Mono.addL g H l))) (RepB.view (fun c hc => k c (by simp [hc])) h2)
theorem RSl.view {x : Slot} {o : Option V} {as : List Addr} (k : ∀ b ∈ as, b ∈ l) (h : RSl K Γ g H x o as) : RSl K Γ (g.addL l) H (viewS x) o [] := by
  cases x with
  | emp => rfl
  | val d =>
    obtain ⟨h0, v, h1, h2⟩ := h
    exact ⟨rfl, v, h1, h2.mono (Mono.addL g H l)⟩
  | own ds =>
    obtain ⟨a, xs, h1, h2, h3, rfl⟩ := h
    exact ⟨rfl, _, h1, Rep.lst (.inr (k a (by simp))) h2 (h3.mono (Mono.addL g H l))⟩
  | own2 dss =>
    obtain ⟨a, bs, h1, h2, h3, rfl⟩ := h
    exact ⟨rfl, _, h1, Rep.lst (.inr (k a (by simp))) h2 (h3.view fun b hb => k b (by simp [hb]))⟩
theorem RSs.view : ∀ {σd : Slots} {σ : St} {as : List (List Addr)}, (∀ b ∈ as.flatten, b ∈ l) → RSs K Γ g H σd σ as → ∃ bs, RSs K Γ (g.addL l) H (viewD σd) σ bs ∧ bs.flatten = []
  | [], _, _, _, h => ⟨[], ⟨h.1, rfl⟩, rfl⟩
  | x :: r, _, _, k, h => by
    obtain ⟨o, t, a, b, rfl, rfl, h1, h2⟩ := h
    obtain ⟨bs, h3, h4⟩ := RSs.view (fun c hc => k c (by simp only [List.flatten_cons, List.mem_append]; exact .inr hc)) h2
    exact ⟨[] :: bs, ⟨o, t, [], bs, rfl, rfl, h1.view fun c hc => k c (by simp [hc]), h3⟩, by simpa using h4⟩
theorem RS.view (rs : RS K Γ g0 H0 g S H σd σ) (hS : S = []) : ∃ l, RS K Γ g0 H0 (g.addL l) S H (viewD σd) σ ∧ (∀ b ∈ l, ¬ g.fz b) ∧ (∀ b ∈ l, ∃ xs, H b = some (.lst xs)) ∧ ∀ {g' H'}, Ext (g.addL l) H g' H' → GOk K Γ g' S H' → Ext g H (g'.cut l) H' ∧ GOk K Γ (g'.cut l) S H' := by
  obtain ⟨ok, e0, as, h1, h2, h3⟩ := rs
  obtain ⟨bs, h4, h5⟩ := h1.view (l := as.flatten) fun _ h => h
  have trk := h1.trk
  refine ⟨as.flatten, ⟨⟨fun c hc => ?_, fun b hb => ?_, ok.len, ok.nd, fun i a o q1 q2 => (ok.sto i a o q1 q2).mono (Mono.addL g H _) rfl⟩, ⟨fun b hb => .inl (e0.fz b hb), fun b hb => ?_, e0.cup, e0.cupn, e0.sto, e0.keep, e0.trk⟩, bs, h4, by rw [h5]; exact List.nodup_nil, fun b hb => by rw [h5] at hb; simp at hb⟩, fun b hb => (h3 b hb).1, trk, fun {g' H'} e ok' => ⟨⟨fun b hb => ⟨e.fz b (.inl hb), fun z => (h3 b z).1 hb⟩, fun b hb => ?_, e.cup, e.cupn, e.sto, e.keep, e.trk⟩, ⟨fun c hc => ?_, fun b hb => ok'.fz b hb.1, ok'.len, ok'.nd, fun i a o q1 q2 => by rw [hS] at q2; simp at q2⟩⟩⟩
  · obtain ⟨q1, q2, q3⟩ := ok.cup c hc
    refine ⟨?_, q2, q3⟩
    rintro (z | z)
    · exact q1 z
    · exact (h3 c z).2.1 (.inl hc)
  · rcases hb with hb | hb
    · exact ok.fz b hb
    · exact trk b hb
  · rcases hb with hb | hb
    · exact e0.fzn b hb
    · exact .inr (h3 b hb).2.2
  · rcases e.fzn b hb.1 with z | z
    · rcases z with z | z
      · exact .inl z
      · exact absurd z hb.2
    · exact .inr z
  · obtain ⟨q1, q2, q3⟩ := ok'.cup c hc
    exact ⟨fun z => q1 z.1, q2, q3⟩
end
section
variable {X : Cx} {Γ : Gm} {E : XK} {e : Expr} {m : Slots → T D} {mt : Slots → T Bool} {mo : Slots → T (List D)}
theorem prop_peek {t : TE} (q : PropE X.K Γ E m t) : PropE X.K Γ E (mPeek m) t := fun g0 H0 σd σ g S H Q rs w => by
  unfold mPeek at w
  have w : W (if S.isEmpty then (m (viewD σd)).nosto.bind fun d => if d.noL then .ret d else .bad else .bad) _ _ S := w
  obtain ⟨hS, w⟩ := W_ite w
  have hS : S = [] := List.isEmpty_iff.mp hS
  obtain ⟨l, rs', n1, n2, k⟩ := rs.view hS
  refine q _ _ _ _ _ _ _ _ rs' (W_mono _ (fun d s ⟨w1, es⟩ v g' H' e' ok' r' => ?_) (fun _ _ _ h => h) (W_nosto _ (E := PX X.K Γ g H E) (E' := PX X.K Γ (g.addL l) H E) (W_bind _ _ |>.mp w)))
  subst es
  obtain ⟨hn, w1⟩ := W_ite w1
  obtain ⟨e2, ok2⟩ := k e' ok'
  exact w1 v _ H' e2 ok2 (r'.cut hn)
theorem se_peek (h : SE X Γ E e m) : SE X Γ E e (mPeek m) := by
  obtain ⟨t, p, q⟩ := h
  exact ⟨t, p, prop_peek q⟩
theorem prop_peekT {t : TT} (q : PropT X.K Γ E mt t) : PropT X.K Γ E (mPeekT mt) t := fun g0 H0 σd σ g S H Q rs w => by
  unfold mPeekT at w
  have w : W (if S.isEmpty then (mt (viewD σd)).nosto else .bad) _ _ S := w
  obtain ⟨hS, w⟩ := W_ite w
  have hS : S = [] := List.isEmpty_iff.mp hS
  obtain ⟨l, rs', n1, n2, k⟩ := rs.view hS
  refine q _ _ _ _ _ _ _ _ rs' (W_mono _ (fun d s ⟨w1, es⟩ g' H' e' ok' => ?_) (fun _ _ _ h => h) (W_nosto _ (E := PX X.K Γ g H E) (E' := PX X.K Γ (g.addL l) H E) w))
  subst es
  obtain ⟨e2, ok2⟩ := k e' ok'
  exact w1 _ H' e2 ok2
theorem st_peek (h : ST X Γ E e mt) : ST X Γ E e (mPeekT mt) := by
  obtain ⟨t, p, q⟩ := h
  exact ⟨t, p, prop_peekT q⟩
theorem prop_peekO {t : TE} (q : PropO X.K Γ E mo t) : PropO X.K Γ E (mPeekO mo) t := fun g0 H0 σd σ g S H Q rs w => by
  unfold mPeekO at w
  have w : W (if S.isEmpty then (mo (viewD σd)).nosto.bind fun d => if D.noLs d then .ret d else .bad else .bad) _ _ S := w
  obtain ⟨hS, w⟩ := W_ite w
  have hS : S = [] := List.isEmpty_iff.mp hS
  obtain ⟨l, rs', n1, n2, k⟩ := rs.view hS
  refine q _ _ _ _ _ _ _ _ rs' (W_mono _ (fun d s ⟨w1, es⟩ p xs g' H' e' ok' hn hp nf nm r' => ?_) (fun _ _ _ h => h) (W_nosto _ (E := PX X.K Γ g H E) (E' := PX X.K Γ (g.addL l) H E) (W_bind _ _ |>.mp w)))
  subst es
  obtain ⟨hn2, w1⟩ := W_ite w1
  obtain ⟨e2, ok2⟩ := k e' ok'
  exact w1 p xs _ H' e2 ok2 hn hp (fun z => nf z.1) nm (r'.cut' hn2)
theorem so_peek (h : SO X Γ E e mo) : SO X Γ E e (mPeekO mo) := by
  obtain ⟨t, p, q⟩ := h
  exact ⟨t, p, prop_peekO q⟩
end

/-! ## displays as own lists -/
section
variable {X : Cx} {Γ : Gm} {E : XK} {pos : Pos} {e a b : Expr} {es : List Expr} {ms : Slots → T (List D)}
def mLsO (n : Slots → T (List D)) (σ : Slots) : T (List D) := (n σ).bind fun ds => if ds.length ≤ lim then .ret ds else .bad
theorem so_lst (h : SA X Γ E es ms) : SO X Γ E (.List es pos) (mLsO ms) := by
  obtain ⟨ta, pa, qa⟩ := h
  refine ⟨_, pe_lst pa, fun g0 H0 σd σ g S H Q rs w => useA qa rs w (fun _ _ _ h => h) fun ds S1 vs g1 H1 e1 rs1 r1 w1 => ?_⟩
  obtain ⟨c, w1⟩ := W_iteP w1
  refine ⟨by rw [r1.length]; exact lim_le c, fun p hp => ?_⟩
  obtain ⟨n1, n2⟩ := fresh_nf rs1.ok hp
  exact w1 p vs g1 _ (e1.trans (Ext.new hp)) (rs1.ok.new hp) (e1.trk p hp) upd_same n1 n2 (r1.mono ((Ext.new hp).mono rs1.ok))
end

/-! ## defs -/
def startD (n : Nat) (ds : List D) : Slots := ds.map .val ++ List.replicate (n - ds.length) .emp
def runB (np n : Nat) (m : Slots → T (Slots × Fl)) (ds : List D) : T D := if ds.length = np then (m (startD n ds)).bind fun r => match r.2 with
  | .nx => .ret .non
  | .rt d => .ret d
  | _ => .bad else .bad
theorem rs_vals {K : PySem.W.Frag} {Γ : Gm} {g : Gh} {H : Hp} : ∀ {ds : List D} {vs : List V}, Reps K Γ g H ds vs → RSs K Γ g H (ds.map .val) (vs.map some) (ds.map fun _ => [])
  | [], _, h => by simp only [Reps] at h; subst h; exact ⟨rfl, rfl⟩
  | d :: ds, _, h => by
    simp only [Reps] at h
    obtain ⟨v, r, rfl, h1, h2⟩ := h
    exact ⟨_, _, _, _, rfl, rfl, ⟨rfl, v, rfl, h1⟩, rs_vals h2⟩
theorem rs_emps {K : PySem.W.Frag} {Γ : Gm} {g : Gh} {H : Hp} : ∀ n : Nat, RSs K Γ g H (List.replicate n .emp) (List.replicate n none) (List.replicate n [])
  | 0 => ⟨rfl, rfl⟩
  | n + 1 => ⟨_, _, _, _, rfl, rfl, rfl, rs_emps n⟩
theorem flat_nil {α β : Type} (l : List α) (n : Nat) : ((l.map fun _ => ([] : List β)) ++ List.replicate n []).flatten = [] := by
  rw [List.flatten_eq_nil_iff]
  intro x hx
  rcases List.mem_append.mp hx with h | h
  · obtain ⟨_, _, rfl⟩ := List.mem_map.mp h; rfl
  · exact (List.mem_replicate.mp h).2
theorem rs_start {K : PySem.W.Frag} {Γ : Gm} {g : Gh} {S : Sto} {H : Hp} {ds : List D} {vs : List V} {N : List Str} (ok : GOk K Γ g S H) (r : Reps K Γ g H ds vs) : RS K Γ g H g S H (startD N.length ds) (L2.start N vs) := by
  refine ⟨ok, Ext.refl g H, (ds.map fun _ => []) ++ List.replicate (N.length - ds.length) [], ?_, by rw [flat_nil]; exact List.nodup_nil, fun b hb => by rw [flat_nil] at hb; simp at hb⟩
  unfold startD L2.start
  rw [r.length]
  exact (rs_vals r).back (rs_emps _)
section
variable {P : Program} {w : World} {K : PySem.W.Frag} {Γ : Gm} {mg : Str → Option Value} {base : Heap}
theorem fn_okD {x qual : Str} {st : Stmt} {f : Addr} {fd : FuncData} {N ps : List Str} {k : Nat} {m : Slots → T (Slots × Fl)} (F : Fun K x qual st f fd) (S : FnScope N ps (defScope st))
    (hb : ∀ (cdv : Value) (A : Around) (outer : List Env) (s : Shared) (H : Hp) (E : XK), Room k (A.deeper (envOfC qual (defScope st) s.heap.objs.size f cdv)) →
      SSs (cxOf (L2.CX P w) P w K mg base N qual (defScope st) f cdv A outer s H E) Γ E (defBody st) m) :
    FnOk P w K mg base (L2.CX P w) (k + 1) f fd ps (spD K Γ ps.length (runB ps.length N.length m)) := by
  refine F.okX S (fun vs H Q E h => ?_) (fun cdv A outer s H vs Q E hr h => ?_)
  · obtain ⟨ds, g, S, hl, r, _⟩ := h
    rw [r.length, hl]
  · obtain ⟨ds, g, S', hl, r, ok, wp⟩ := h
    obtain ⟨t, p, q⟩ := hb cdv A outer s H E hr
    refine ⟨t, p, q g H _ _ g S' H _ (rs_start ok r) ?_⟩
    unfold runB at wp
    rw [if_pos hl] at wp
    refine W_mono _ (fun z S1 w1 g1 H1 σ1 rs1 mo => ?_) (fun _ _ _ h => h) (W_bind _ _ |>.mp wp)
    obtain ⟨σ2, fl⟩ := z
    cases fl with
    | nx => exact w1 _ g1 H1 rs1.ext rs1.ok Rep.non
    | bk => exact w1.elim
    | ct => exact w1.elim
    | rt d => exact fun v rv => w1 v g1 H1 rs1.ext rs1.ok rv
theorem runB_ar {np n : Nat} {m : Slots → T (Slots × Fl)} {ds : List D} {Q : D → Sto → Prop} {Px : Nat → List D → Sto → Prop} {S : Sto} (h : W (runB np n m ds) Q Px S) : ds.length = np := by
  unfold runB at h
  split at h
  · rename_i e; exact e
  · exact h.elim
/-- nothing is asked -/
theorem fn_bad {f : Addr} {fd : FuncData} {ps : List Str} {k : Nat} : FnOk P w K mg base (L2.CX P w) k f fd ps (spD K Γ ps.length fun _ => .bad) := by
  have no : ∀ vs H Q E, ¬ spD K Γ ps.length (fun _ => .bad) vs H Q E := fun vs H Q E ⟨ds, g, S, _, _, _, h⟩ => h
  exact ⟨fun vs H Q E h => absurd h (no vs H Q E), fun A outer s H args us vs Q E _ _ _ _ h => absurd h (no vs H Q E)⟩
end
/-- a def that may be called from the body at hand -/
theorem passD {P : Program} {w : World} {K : PySem.W.Frag} {mg : Str → Option Value} {base : Heap} {N : List Str} {qual : Str} {sc : Scope} {f : Addr} {cdv : Value} {A : Around} {outer : List Env} {s : Shared} {H : Hp} {E : XK} :
    Passes (L2.CX P w) (cxOf (L2.CX P w) P w K mg base N qual sc f cdv A outer s H E) E :=
  passes_call (X := cxOf (L2.CX P w) P w K mg base N qual sc f cdv A outer s H E) (takes_of rfl rfl rfl rfl) fun _ _ _ _ h => h
theorem ownD {P : Program} {w : World} {K : PySem.W.Frag} {mg : Str → Option Value} {base : Heap} {N : List Str} {qual : Str} {sc : Scope} {f : Addr} {cdv : Value} {A : Around} {outer : List Env} {s : Shared} {H : Hp} {E : XK} :
    PassesOwn (model P w) (A.deeper (envOfC qual sc s.heap.objs.size f cdv)) (envOfC qual sc s.heap.objs.size f cdv) (cxOf (L2.CX P w) P w K mg base N qual sc f cdv A outer s H E).xe :=
  passes_of (X := cxOf (L2.CX P w) P w K mg base N qual sc f cdv A outer s H E) rfl
end KT
namespace KT
open PySem PySem.Spec PyProof.Rows L2 RZ

section
variable {X : Cx} {Γ : Gm} {E : XK} {pos : Pos}
theorem se_gintE {x : Str} {i : Int} (hm : ∃ t, X.mg x = some (.int i t)) (hg : Gl X x := by rfl) (hd : (x == ("__debug__" : Str)) = false := by decide) : SE X Γ E (.Name x pos) (mC (.int i)) := by
  obtain ⟨t, hm⟩ := hm
  exact se_gint hm hg hd
theorem SO.sa {e : Expr} {m : Slots → T (List D)} (h : SO X Γ E e m) : SE X Γ E e (mFz m) := h.se
end
section
variable {P : Program} {w : World} {K : PySem.W.Frag} {Γ : Gm} {mg : Str → Option Value} {base : Heap} {k : Nat}
abbrev HasF (K : PySem.W.Frag) (mg : Str → Option Value) (x : Str) (st : Stmt) (ps : List Str) : Prop := ∃ f fd, Fun K x x st f fd ∧ mg x = some (.ref f) ∧ Binds K fd ps []
theorem Fun.lk {x q : Str} {st : Stmt} {f : Addr} {fd : FuncData} (F : Fun K x q st f fd) : ∃ oc od osl, K.lookup f = some ⟨oc, od, .func fd, osl⟩ := by
  obtain ⟨oc, od, kV, doc, pm, an, cdv, ct, osl, e, lk, hcd⟩ := F.ex
  exact ⟨oc, od, osl, lk⟩
theorem defAt {x : Str} {st : Stmt} {N ps : List Str} {m : Slots → T (Slots × Fl)} (hf : HasF K mg x st ps) (S : FnScope N ps (defScope st))
    (hb : ∀ (f : Addr) (cdv : Value) (A : Around) (outer : List Env) (s : Shared) (H : Hp) (E : XK), Room k (A.deeper (envOfC x (defScope st) s.heap.objs.size f cdv)) →
      SSs (cxOf (L2.CX P w) P w K mg base N x (defScope st) f cdv A outer s H E) Γ E (defBody st) m) : DefAt P w K Γ mg base (k + 1) x ps (runB ps.length N.length m) := by
  obtain ⟨f, fd, F, h1, h2⟩ := hf
  exact ⟨⟨f, fd, fn_okD F S (hb f), h1, F.kp, h2, Fun.lk F⟩, fun ds Q Px S h => runB_ar h⟩
theorem defBad {x : Str} {st : Stmt} {ps : List Str} (hf : HasF K mg x st ps) : DefAt P w K Γ mg base k x ps (fun _ => .bad) := by
  obtain ⟨f, fd, F, h1, h2⟩ := hf
  exact ⟨⟨f, fd, fn_bad, h1, F.kp, h2, Fun.lk F⟩, fun ds Q Px S h => h.elim⟩
end

/-! the built-ins' names -/
theorem bt_int : bootBuiltins "int" = some (.type "int") := by decide +kernel
theorem bt_str : bootBuiltins "str" = some (.type "str") := by decide +kernel
theorem bt_bool : bootBuiltins "bool" = some (.type "bool") := by decide +kernel
theorem bt_list : bootBuiltins "list" = some (.type "list") := by decide +kernel
theorem bt_tuple : bootBuiltins "tuple" = some (.type "tuple") := by decide +kernel
theorem bt_range : bootBuiltins "range" = some (.type "range") := by decide +kernel
theorem bt_set : bootBuiltins "set" = some (.type "set") := by decide +kernel
theorem bt_dict : bootBuiltins "dict" = some (.type "dict") := by decide +kernel
theorem bt_zip : bootBuiltins "zip" = some (.type "zip") := by decide +kernel
theorem bt_enumerate : bootBuiltins "enumerate" = some (.type "enumerate") := by decide +kernel
theorem bt_len : bootBuiltins "len" = some (.builtin "len") := by decide +kernel
theorem bt_sum : bootBuiltins "sum" = some (.builtin "sum") := by decide +kernel
theorem bt_all : bootBuiltins "all" = some (.builtin "all") := by decide +kernel
theorem bt_any : bootBuiltins "any" = some (.builtin "any") := by decide +kernel
theorem bt_max : bootBuiltins "max" = some (.builtin "max") := by decide +kernel
theorem bt_min : bootBuiltins "min" = some (.builtin "min") := by decide +kernel
theorem bt_abs : bootBuiltins "abs" = some (.builtin "abs") := by decide +kernel
theorem bt_sorted : bootBuiltins "sorted" = some (.builtin "sorted") := by decide +kernel
theorem bt_isinstance : bootBuiltins "isinstance" = some (.builtin "isinstance") := by decide +kernel
/-! ## runs told by computing -/
def T.chk {α : Type} (p : α → Bool) : T α → Bool
  | .ret a => p a
  | .bad => false
  | .exc _ _ => false
  | .draw n k => decide (0 < n) && (List.range n).all fun r => (k r).chk p
  | .get k => (k []).chk p
  | .put _ _ => false
theorem chk_W {α : Type} {p : α → Bool} {E : Nat → List D → Sto → Prop} (m : T α) (h : m.chk p = true) : W m (fun a s => p a = true ∧ s = []) E [] := by
  induction m with
  | ret a => exact ⟨h, rfl⟩
  | bad => exact absurd h (by simp [T.chk])
  | exc c as => exact absurd h (by simp [T.chk])
  | draw n k ih =>
    simp only [T.chk, Bool.and_eq_true, decide_eq_true_eq, List.all_eq_true, List.mem_range] at h
    exact ⟨h.1, fun r hr => ih r (h.2 r hr)⟩
  | get k ih => exact ih [] h
  | put s k ih => exact absurd h (by simp [T.chk])
def D.tru : D → Bool
  | .bl true => true
  | _ => false
theorem tru_eq {d : D} (h : d.tru = true) : d = .bl true := by
  unfold D.tru at h
  split at h
  · rfl
  · cases h

/-! ## the law -/
def Γ0 : Gm := ⟨fun _ => none, fun _ => none, fun _ => []⟩
def gh0 : Gh := ⟨fun _ => False, fun _ => False, []⟩
theorem gok0 {K : PySem.W.Frag} {Γ : Gm} {H : Hp} : GOk K Γ gh0 [] H := ⟨fun c h => h.elim, fun b h => h.elim, rfl, List.nodup_nil, fun i a o h => by simp [gh0] at h⟩
theorem law_sp {Γ : Gm} {c : List D → T D} (h : W (c [.scr]) (fun d _ => d = .bl true) (fun _ _ _ => False) []) (K : PySem.W.Frag) (H : Hp) (a : Addr) (ns : List Int) (hl : ns.length ≤ 63) (hO : Only H) (hS : SqL K H a (ns.map V.int)) :
    spD K Γ 1 c [.ref a] H (fun v _ => v = .bl true) fun _ _ _ => False := by
  refine ⟨[.scr], gh0, [], rfl, Reps.cons ?_ Reps.nil, gok0, W_mono _ (fun d s hd => ?_) (fun _ _ _ h => h.elim) h⟩
  · simp only [Rep]
    refine ⟨a, ns, rfl, hl, ?_⟩
    rcases hS with (hS | hS) | hS
    · rcases hO a with z | ⟨o, xs, z⟩ <;> rw [hS] at z <;> cases z
    · exact .inl hS
    · exact .inr hS
  · subst hd
    intro v g' H' _ _ r
    exact r.bl_inv

theorem law_fn {P : Program} {w : World} {K : PySem.W.Frag} {Γ : Gm} {mg : Str → Option Value} {fa : Addr} {st : Stmt} {c : List D → T D} {k : Nat} (hf : HasF K mg "law" st ["script"]) (hfa : mg "law" = some (.ref fa))
    (hb : ∀ (kV doc pm : Value) (an : Option Addr) (cdv ct : Value) (s : Shared) (u : Value), BindsTo s (PySem.W.fnOf "law" "law" (defArgs st) (defBody st) (defScope st) .none kV doc pm an cdv ct) ⟨[u], []⟩ [("script", u)])
    (D : ∀ base, DefAt P w K Γ mg base k "law" ["script"] c) :
    ∃ fd : FuncData, (∀ (s : Shared) (u : Value), BindsTo s fd ⟨[u], []⟩ [("script", u)]) ∧ ∀ base : Heap, K.In base → base.Ns mainGlobals mg → FnOk P w K mg base (L2.CX P w) k fa fd ["script"] (spD K Γ 1 c) := by
  obtain ⟨f, fd, F, h1, h2⟩ := hf
  obtain ⟨oc, od, kV, doc, pm, an, cdv, ct, osl, rfl, lk, hcd⟩ := F.ex
  have e : f = fa := by
    have := h1.symm.trans hfa
    cases this; rfl
  subst e
  refine ⟨_, hb kV doc pm an cdv ct, fun base _ _ => ?_⟩
  obtain ⟨f', fd', G, g1, g2, g3, oc', od', osl', lk'⟩ := (D base).ex
  have e : f' = f := by
    have := g1.symm.trans h1
    cases this; rfl
  subst e
  rw [lk] at lk'
  cases lk'
  exact G
theorem cx_no {P : Program} {w : World} {H : Hp} {s : Shared} {e : Value} {s' : Shared} (h : L2.CX P w [] H s (fun _ _ _ => False) e s') : False := by
  obtain ⟨_, _, _, _, _, _, _, _, _, _, _, _, z⟩ := h
  exact z

/-! ## cups and rolls -/
def dCup : List D → T D
  | [.scr] => .ret .cup
  | _ => .bad
def dRoll : List D → T D
  | [.cup, .int n] => if 0 < n ∧ n < 1073741824 then .draw n.toNat fun r => .ret (.int r) else .bad
  | _ => .bad
theorem atI_two0 {x y : V} : L2.atI [x, y] 0 = some x := rfl
theorem atI_two1 {x y : V} : L2.atI [x, y] 1 = some y := rfl
theorem Scr.seq {K : PySem.W.Frag} {H : Hp} {a : Addr} {xs : List V} (h : Scr K H a xs) : SqL K H a xs := by
  rcases h with h | h
  · exact .inl (.inr h)
  · exact .inr h
theorem GOk.updCup {K : PySem.W.Frag} {Γ : Gm} {g : Gh} {S : Sto} {H : Hp} {c : Addr} (ok : GOk K Γ g S H) (h : g.cup c) {x y : Int} (hx : 0 ≤ x) (hy : 0 ≤ y) (hz : y < 2 ^ 40) : GOk K Γ g S (upd H c (.lst [.int x, .int y])) ∧ Ext g H g (upd H c (.lst [.int x, .int y])) := by
  obtain ⟨n1, n2, x0, y0, e0, _⟩ := ok.cup c h
  have ex : Ext g H g (upd H c (.lst [.int x, .int y])) := ⟨fun _ h => h, fun _ h => .inl h, fun _ h => h, fun _ h => .inl h, ⟨[], by simp, fun _ h => by simp at h⟩, fun b u e m => by
    have : b ≠ c := fun z => m (.inl (z ▸ h))
    rw [upd_ne this]; exact e, fun b e => by
    by_cases hb : b = c
    · subst hb; rw [upd_same] at e; cases e
    · rwa [upd_ne hb] at e⟩
  refine ⟨⟨fun d hd => ?_, fun b hb => ?_, ok.len, ok.nd, fun i a o h1 h2 => ?_⟩, ex⟩
  · obtain ⟨m1, m2, m3⟩ := ok.cup d hd
    by_cases hb : d = c
    · subst hb; exact ⟨m1, m2, x, y, upd_same, hx, hy, hz⟩
    · rw [upd_ne hb]; exact ⟨m1, m2, m3⟩
  · obtain ⟨xs, e⟩ := ok.fz b hb
    have : b ≠ c := fun z => n1 (z ▸ hb)
    exact ⟨xs, by rw [upd_ne this]; exact e⟩
  · have : a ≠ c := fun z => n2 (z ▸ List.mem_of_getElem? h1)
    exact (ok.sto i a o h1 h2).mono (ex.mono ok) (upd_ne this)
theorem newCup {K : PySem.W.Frag} {Γ : Gm} {g : Gh} {S : Sto} {H : Hp} {q : Addr} {x y : Int} (ok : GOk K Γ g S H) (hq : H q = none) (hx : 0 ≤ x) (hy : 0 ≤ y) (hz : y < 2 ^ 40) :
    Ext g H { g with cup := fun b => g.cup b ∨ b = q } (upd H q (.lst [.int x, .int y])) ∧ GOk K Γ { g with cup := fun b => g.cup b ∨ b = q } S (upd H q (.lst [.int x, .int y])) := by
  obtain ⟨n1, n2⟩ := fresh_nf ok hq
  have e0 : Ext g H g (upd H q (.lst [.int x, .int y])) := Ext.new hq
  have ok0 := ok.new (o := .lst [.int x, .int y]) hq
  have mo : Mono g (upd H q (.lst [.int x, .int y])) { g with cup := fun b => g.cup b ∨ b = q } (upd H q (.lst [.int x, .int y])) := ⟨fun _ h => h, fun _ _ _ h => h, fun _ _ h => h, fun _ _ _ h => h, fun _ _ _ h => h, fun _ h => .inl h, fun _ _ h => h⟩
  refine ⟨⟨e0.fz, e0.fzn, fun c h => .inl h, fun c h => h.elim .inl fun z => .inr (by rw [z]; exact hq), e0.sto, e0.keep, e0.trk⟩, ⟨fun c h => ?_, ok0.fz, ok0.len, ok0.nd, fun i a o h1 h2 => (ok0.sto i a o h1 h2).mono mo rfl⟩⟩
  rcases h with h | rfl
  · exact ok0.cup c h
  · exact ⟨n1, fun z => n2 (.inr z), x, y, upd_same, hx, hy, hz⟩
theorem nz {i : Int} (h : (i != 0) = true) : i ≠ 0 := by simpa using h
theorem fmod_range {i n : Int} (h : 0 < n) : 0 ≤ i.fmod n ∧ i.fmod n < n := by
  rw [Int.fmod_eq_emod_of_nonneg i (by omega)]
  exact ⟨Int.emod_nonneg _ (by omega), Int.emod_lt_of_pos _ h⟩
/-- the roll's end -/
theorem roll_end {K : PySem.W.Frag} {Γ : Gm} {g g0 : Gh} {S : Sto} {H0 H : Hp} {Q : VK} {i n : Int} (h : 0 < n) (e : Ext g0 H0 g H) (ok : GOk K Γ g S H) (w : ∀ r, r < n.toNat → PQ K Γ g0 H0 Q (.int (r : Int)) S) : Q (.int (i.fmod n)) H := by
  obtain ⟨h1, h2⟩ := fmod_range (i := i) h
  have := w (i.fmod n).toNat (by omega)
  rw [Int.toNat_of_nonneg h1] at this
  exact this _ g H e ok (Rep.int _)
end KT
namespace KT
open PySem PySem.Spec PyProof.Rows L2 RZ

section
variable {X : Cx} {Γ : Gm} {E : XK} {pos : Pos} {e a b : Expr} {es : List Expr} {me ma mb : Slots → T D} {ms : Slots → T (List D)} {st : Stmt}
def mSlice (me : Slots → T D) (ml mh : Slots → T (Option Int)) (σ : Slots) : T D := (me σ).bind fun d => (ml σ).bind fun l => (mh σ).bind fun h => dSl d l h
theorem se_slc {lo hi : Option Expr} {ml mh : Slots → T (Option Int)} {p2 : Pos} (he : SE X Γ E e me) (hl : SP0 X Γ E lo ml) (hh : SP0 X Γ E hi mh) : SE X Γ E (.Subscript e (.Slice lo hi none p2) pos) (mSlice me ml mh) := se_slice he hl hh

/-! names that get a comprehension -/
structure SLc (X : Cx) (Γ : Gm) (E : XK) (st : Stmt) (i : Nat) (m : Slots → T (List D)) : Prop where
  ex : ∃ te, PS X st (tAsg te (gName i)) ∧ PropO X.K Γ E m te
theorem prop_fzE {m : Slots → T (List D)} {te : TE} (q : PropO X.K Γ E m te) : PropE X.K Γ E (mFz m) te := fun g0 H0 σd σ g S H Q rs w => by
  refine q _ _ _ _ _ _ _ _ rs (W_mono _ (fun ds s w1 p xs g' H' e' ok hn hp nf nm r => ?_) (fun _ _ _ h => h) (W_bind _ _ |>.mp w))
  exact w1 _ (g'.add p) H' (e'.addF hn) (ok.addF hp nm) (Rep.lst (.inr rfl) hp (r.mono (Mono.add g' H' p)))
theorem ss_setS {i : Nat} {m : Slots → T (List D)} (h : SLc X Γ E st i m) : SS X Γ E st (sSet i (mFz m)) := by
  obtain ⟨te, p, q⟩ := h
  exact ⟨_, p, prop_set (prop_fzE q)⟩
theorem ss_ownS {i : Nat} {m : Slots → T (List D)} (h : SLc X Γ E st i m) : SS X Γ E st (sOwn i m) := by
  obtain ⟨te, p, q⟩ := h
  exact ⟨_, p, prop_own q⟩
theorem slc_peek {i : Nat} {m : Slots → T (List D)} (h : SLc X Γ E st i m) : SLc X Γ E st i (mPeekO m) := by
  obtain ⟨te, p, q⟩ := h
  exact ⟨te, p, prop_peekO q⟩
theorem slc (i : Nat) {x : Str} {py pos' : Pos} {elt tg iter : Expr} {ifs : List Expr} {scope : Scope} {own : List (Str × Nat)} {t : Tg} {test : Slots → T Bool} {me : Slots → T D} {mi : Slots → T (List D)} (hc : X.calm = true) (hN : X.N.Nodup) (ok : BlkOk X.N X.env.scope scope own) (hv : ∀ i ∈ t.ixs, i ∈ own.map (·.2))
    (hi : SI X Γ E tg iter mi) (hg : ∀ s H C cl fp, SG (blkX X scope s H C cl fp) Γ tg t) (ht : ∀ s H C cl fp, STs (blkX X scope s H C cl fp) Γ XE0 ifs test) (he : ∀ s H C cl fp, SE (blkX X scope s H C cl fp) Γ XE0 elt me)
    (hsw : swapsWith (.ListComp elt [⟨tg, iter, ifs, 0⟩] scope pos') (some (.Name x py)) pos.line X.env = pure true) (hs : ∀ x, foldedSetIterable iter X.env x = pure x := by intro _; rfl) (hix : X.N[i]? = some x := by rfl) (hx : X.env.scope.names.lookup x = some .local := by rfl) :
    SLc X Γ E (.Assign [.Name x py] (.ListComp elt [⟨tg, iter, ifs, 0⟩] scope pos') pos) i (mComp (own.map (·.2)) t test me mi) := by
  obtain ⟨wi, pi, qi⟩ := hi
  exact ⟨_, ps_setLc (te := tCan X.K Γ XE0 me) (g := gCan X.K Γ t) (tt := ttCan X.K Γ XE0 test) hc hN hix hx hsw pi ok (fun s H C cl fp => (hg s H C cl fp).can) (fun s H C cl fp => (ht s H C cl fp).ex) (fun s H C cl fp => (he s H C cl fp).can) hs, prop_comp qi hv⟩
theorem slc2 (i : Nat) {x : Str} {py pos' : Pos} {elt tg iter tg1 iter1 : Expr} {ifs ifs1 : List Expr} {scope : Scope} {own : List (Str × Nat)} {vs1 : List Nat} {t t1 : Tg} {test test1 : Slots → T Bool} {me : Slots → T D} {mi mi1 : Slots → T (List D)} (hc : X.calm = true) (hN : X.N.Nodup) (ok : BlkOk X.N X.env.scope scope own)
    (hv : ∀ i ∈ t.ixs, i ∈ own.map (·.2)) (hv1 : ∀ i ∈ t1.ixs, i ∈ vs1) (hvs : ∀ i ∈ vs1, i ∈ own.map (·.2))
    (hi : SI X Γ E tg iter mi) (hg : ∀ s H C cl fp, SG (blkX X scope s H C cl fp) Γ tg t) (ht : ∀ s H C cl fp, STs (blkX X scope s H C cl fp) Γ XE0 ifs test)
    (hi1 : ∀ s H C cl fp, SI (blkX X scope s H C cl fp) Γ XE0 tg1 iter1 mi1) (hg1 : ∀ s H C cl fp, SG (blkX X scope s H C cl fp) Γ tg1 t1) (ht1 : ∀ s H C cl fp, STs (blkX X scope s H C cl fp) Γ XE0 ifs1 test1) (he : ∀ s H C cl fp, SE (blkX X scope s H C cl fp) Γ XE0 elt me)
    (hsw : swapsWith (.ListComp elt [⟨tg, iter, ifs, 0⟩, ⟨tg1, iter1, ifs1, 0⟩] scope pos') (some (.Name x py)) pos.line X.env = pure true) (hs : ∀ x, foldedSetIterable iter X.env x = pure x := by intro _; rfl) (hs1 : ∀ env x, foldedSetIterable iter1 env x = pure x := by intro _ _; rfl) (hix : X.N[i]? = some x := by rfl) (hx : X.env.scope.names.lookup x = some .local := by rfl) :
    SLc X Γ E (.Assign [.Name x py] (.ListComp elt [⟨tg, iter, ifs, 0⟩, ⟨tg1, iter1, ifs1, 0⟩] scope pos') pos) i (mComp2 (own.map (·.2)) vs1 t test mi t1 test1 me mi1) := by
  obtain ⟨wi, pi, qi⟩ := hi
  exact ⟨_, ps_setLc2 (te := tCan X.K Γ XE0 me) (g := gCan X.K Γ t) (tt := ttCan X.K Γ XE0 test) (g1 := gCan X.K Γ t1) (tt1 := ttCan X.K Γ XE0 test1) (wi1 := iCan X.K Γ XE0 mi1) hc hN hix hx hsw pi ok hvs (fun s H C cl fp => (hg s H C cl fp).can) (fun s H C cl fp => (ht s H C cl fp).ex) (fun s H C cl fp => (hi1 s H C cl fp).can) (fun s H C cl fp => (hg1 s H C cl fp).can) (fun s H C cl fp => (ht1 s H C cl fp).ex) (fun s H C cl fp => (he s H C cl fp).can) hs hs1, prop_comp2 qi hv hv1 hvs⟩
/-- [0] * n as a list of its own -/
def mRepO (ma mb : Slots → T D) (σ : Slots) : T (List D) := (ma σ).bind fun x => (mb σ).bind fun y => match x with
  | .lst a => match y with
    | .int k => if k ≤ 100000 ∧ 0 ≤ k ∧ a.length ≤ 100 then .ret (repD k.toNat a) else .bad
    | _ => .bad
  | _ => .bad
theorem so_rep (ha : SE X Γ E a ma) (hb : SE X Γ E b mb) : SO X Γ E (.BinOp a .Mult b pos) (mRepO ma mb) := by
  obtain ⟨ta, pa, qa⟩ := ha
  obtain ⟨tb, pb, qb⟩ := hb
  refine ⟨_, pe_op op_rep pa pb, fun g0 H0 σd σ g S H Q rs w => useE qa rs w (fun _ _ _ h => h) fun d S1 v g1 H1 e1 rs1 r1 w1 => useE qb rs1 w1 (fun _ _ _ h => h.ext e1) fun d' S2 v' g2 H2 e2 rs2 r2 w2 => ?_⟩
  have r1 := r1.mono (e2.mono rs1.ok)
  split at w2
  · split at w2
    · obtain ⟨c, w2⟩ := W_iteP w2
      simp only [Rep] at r1
      obtain ⟨a, xs, rfl, h1, h2⟩ := r1
      have l1 := h2.length
      refine ⟨a, _, xs, rfl, r2.int_inv, h1.2, by omega, by omega, ?_, fun p hp => ?_⟩
      · rw [l1]; exact mulBound c
      · obtain ⟨n1, n2⟩ := fresh_nf rs2.ok hp
        have e12 := e1.trans e2
        exact w2 p _ g2 _ (e12.trans (Ext.new hp)) (rs2.ok.new hp) (e12.trk p hp) upd_same n1 n2 ((h2.rep _).mono ((Ext.new hp).mono rs2.ok))
    · exact w2.elim
  · exact w2.elim

/-! more built-ins -/
def dMin2 : List D → T D
  | [.int i, .int j] => .ret (.int (if j < i then j else i))
  | _ => .bad
theorem cd_min2 : CaD X Γ (fun xs H Q => ∃ i j, xs = [V.int i, V.int j] ∧ Q (.int (if j < i then j else i)) H) dMin2 := fun g S H ds vs Q Px ok r w => by
  unfold dMin2 at w
  split at w
  · obtain ⟨v, u, rfl, r0, r'⟩ := r.two; clear r; have r := r0
    exact ⟨_, _, by rw [r.int_inv, r'.int_inv], w _ g H (Ext.refl g H) ok (Rep.int _)⟩
  · exact w.elim
def dAbs : List D → T D
  | [.int i] => .ret (.int (if i < 0 then -i else i))
  | _ => .bad
theorem cd_abs : CaD X Γ (fun xs H Q => ∃ i, xs = [V.int i] ∧ Q (.int (if i < 0 then -i else i)) H) dAbs := fun g S H ds vs Q Px ok r w => by
  unfold dAbs at w
  split at w
  · obtain ⟨v, rfl, r0⟩ := r.one
    exact ⟨_, by rw [r0.int_inv], w _ g H (Ext.refl g H) ok (Rep.int _)⟩
  · exact w.elim
def intS (i : Int) : List Nat := (Str.ofString (toString i)).cps.toList
def dStr : List D → T D
  | [d] => match d with
    | .str cs => .ret (.str cs)
    | .int i => if i.natAbs < 2 ^ 200 then .ret (.str (intS i)) else .bad
    | _ => .bad
  | _ => .bad
theorem log_lt {n : Nat} (h : n < 2 ^ 200) : n.log2 < 1920 := by
  by_cases h0 : n = 0
  · subst h0; decide
  · exact Nat.lt_trans ((Nat.log2_lt h0).mpr h) (by decide)
theorem cr_str : CallR X (.type "str") (fun xs H Q => (∃ a, xs = [V.str a] ∧ Q (.str a) H) ∨ ∃ i, xs = [V.int i] ∧ i.natAbs.log2 < 1920 ∧ Q (.str (toString i)) H) := CallR.or SkE.call_str_str call_str_int
theorem cd_str : CaD X Γ (fun xs H Q => (∃ a, xs = [V.str a] ∧ Q (.str a) H) ∨ ∃ i, xs = [V.int i] ∧ i.natAbs.log2 < 1920 ∧ Q (.str (toString i)) H) dStr := fun g S H ds vs Q Px ok r w => by
  unfold dStr at w
  split at w
  · obtain ⟨v, rfl, r0⟩ := r.one; clear r; have r := r0
    split at w
    · simp only [Rep] at r
      subst r
      exact .inl ⟨_, rfl, w _ g H (Ext.refl g H) ok (by simp only [Rep])⟩
    · obtain ⟨c, w⟩ := W_iteP w
      exact .inr ⟨_, by rw [r.int_inv], log_lt c, w _ g H (Ext.refl g H) ok (by simp only [Rep]; rfl)⟩
    · exact w.elim
  · exact w.elim
end
end KT
namespace KT
open PySem PySem.Spec PyProof.Rows L2 RZ

/-! ## names forgotten -/
theorem RS.drop {K : PySem.W.Frag} {Γ : Gm} {g0 g : Gh} {S : Sto} {H0 H : Hp} {σd : Slots} {σ : St} (rs : RS K Γ g0 H0 g S H σd σ) (i : Nat) : RS K Γ g0 H0 g S H (σd.set i .emp) σ := by
  obtain ⟨ok, e0, as, h1, h2, h3⟩ := rs
  by_cases hi : i < σd.length
  · obtain ⟨o, a, e1, e2, _⟩ := h1.get (List.getElem?_eq_getElem hi)
    have q := h1.set i (x := .emp) (o := o) (a := []) rfl
    rw [set_same e1] at q
    exact ⟨ok, e0, as.set i [], q, nodup_flatten_set h2 List.nodup_nil fun b hb => by simp at hb, fun b hb => by
      rcases mem_flatten_set hb with hb | hb
      · simp at hb
      · exact h3 b hb⟩
  · rw [List.set_eq_of_length_le (by omega)]
    exact ⟨ok, e0, as, h1, h2, h3⟩
theorem RS.drops {K : PySem.W.Frag} {Γ : Gm} {g0 g : Gh} {S : Sto} {H0 H : Hp} {σd : Slots} {σ : St} (rs : RS K Γ g0 H0 g S H σd σ) : ∀ vs : List Nat, RS K Γ g0 H0 g S H (wipeD σd vs) σ
  | [] => rs
  | v :: vs => (RS.drops rs vs).drop v
def sPre (ws : List Nat) (m : Slots → T (Slots × Fl)) (σ : Slots) : T (Slots × Fl) := m (wipeD σ ws)
def sPost (ws : List Nat) (m : Slots → T (Slots × Fl)) (σ : Slots) : T (Slots × Fl) := (m σ).bind fun z => .ret (wipeD z.1 ws, z.2)
section
variable {X : Cx} {Γ : Gm} {E : XK} {st : Stmt} {sts : List Stmt} {m : Slots → T (Slots × Fl)}
theorem ss_pre (ws : List Nat) (h : SS X Γ E st m) : SS X Γ E st (sPre ws m) := by
  obtain ⟨t, p, q⟩ := h
  exact ⟨t, p, fun g0 H0 σd σ g S H Dn rs w => q _ _ _ _ _ _ _ Dn (rs.drops ws) w⟩
theorem sss_post (ws : List Nat) (h : SSs X Γ E sts m) : SSs X Γ E sts (sPost ws m) := by
  obtain ⟨t, p, q⟩ := h
  refine ⟨t, p, fun g0 H0 σd σ g S H Dn rs w => q _ _ _ _ _ _ _ Dn rs (W_mono _ (fun z s w1 => ?_) (fun _ _ _ h => h) (W_bind _ _ |>.mp w))⟩
  obtain ⟨σ1, fl⟩ := z
  exact fun g' H' σ' rs' mo => w1 g' H' σ' (rs'.drops ws) mo
end

/-! ## equality told by computing -/
mutual
def D.beq : D → D → Bool
  | .non, .non => true
  | .bl a, .bl b => a == b
  | .int a, .int b => a == b
  | .str a, .str b => a == b
  | .tup a, .tup b => D.beqs a b
  | .lst a, .lst b => D.beqs a b
  | .rng a b, .rng c d => a == c && b == d
  | .cup, .cup => true
  | .fn a, .fn b => a == b
  | .obj a, .obj b => a == b
  | .scr, .scr => true
  | _, _ => false
def D.beqs : List D → List D → Bool
  | [], [] => true
  | a :: r, b :: s => D.beq a b && D.beqs r s
  | _, _ => false
end
mutual
theorem beq_eq : ∀ {a b : D}, a.beq b = true → a = b
  | .non, b, h => by cases b <;> simp [D.beq] at h; rfl
  | .bl a, b, h => by cases b <;> simp [D.beq] at h; subst h; rfl
  | .int a, b, h => by cases b <;> simp [D.beq] at h; subst h; rfl
  | .str a, b, h => by cases b <;> simp [D.beq] at h; subst h; rfl
  | .tup a, b, h => by cases b <;> simp [D.beq] at h; rw [beqs_eq h]
  | .lst a, b, h => by cases b <;> simp [D.beq] at h; rw [beqs_eq h]
  | .rng a c, b, h => by cases b <;> simp [D.beq] at h; rw [h.1, h.2]
  | .cup, b, h => by cases b <;> simp [D.beq] at h; rfl
  | .fn a, b, h => by cases b <;> simp [D.beq] at h; subst h; rfl
  | .obj a, b, h => by cases b <;> simp [D.beq] at h; subst h; rfl
  | .scr, b, h => by cases b <;> simp [D.beq] at h; rfl
theorem beqs_eq : ∀ {a b : List D}, D.beqs a b = true → a = b
  | [], b, h => by cases b <;> simp [D.beqs] at h; rfl
  | x :: r, b, h => by
    cases b with
    | nil => simp [D.beqs] at h
    | cons y s => simp [D.beqs] at h; rw [beq_eq h.1, beqs_eq h.2]
end
def dssBeq : List (List D) → List (List D) → Bool
  | [], [] => true
  | a :: r, b :: s => D.beqs a b && dssBeq r s
  | _, _ => false
theorem dss_eq : ∀ {a b : List (List D)}, dssBeq a b = true → a = b
  | [], b, h => by cases b <;> simp [dssBeq] at h; rfl
  | x :: r, b, h => by
    cases b with
    | nil => simp [dssBeq] at h
    | cons y s => simp [dssBeq] at h; rw [beqs_eq h.1, dss_eq h.2]
def Slot.beq : Slot → Slot → Bool
  | .emp, .emp => true
  | .val a, .val b => a.beq b
  | .own a, .own b => D.beqs a b
  | .own2 a, .own2 b => dssBeq a b
  | _, _ => false
theorem slot_eq {a b : Slot} (h : a.beq b = true) : a = b := by
  cases a <;> cases b <;> simp [Slot.beq] at h
  · rfl
  · rw [beq_eq h]
  · rw [beqs_eq h]
  · rw [dss_eq h]
def slBeq : Slots → Slots → Bool
  | [], [] => true
  | a :: r, b :: s => a.beq b && slBeq r s
  | _, _ => false
theorem sl_eq : ∀ {a b : Slots}, slBeq a b = true → a = b
  | [], b, h => by cases b <;> simp [slBeq] at h; rfl
  | x :: r, b, h => by
    cases b with
    | nil => simp [slBeq] at h
    | cons y s => simp [slBeq] at h; rw [slot_eq h.1, sl_eq h.2]
/-- goes on, with these slots -/
def isNx (σ : Slots) (z : Slots × Fl) : Bool := (match z.2 with | .nx => true | _ => false) && slBeq z.1 σ
theorem isNx_eq {σ : Slots} {z : Slots × Fl} (h : isNx σ z = true) : z = (σ, .nx) := by
  unfold isNx at h
  obtain ⟨σ', fl⟩ := z
  simp only [Bool.and_eq_true] at h
  cases fl <;> simp at h
  rw [sl_eq h]
def T.val {α : Type} (d : α) : T α → α
  | .ret a => a
  | .get k => (k []).val d
  | _ => d
def slots (m : T (Slots × Fl)) : Slots := (m.val ([], .nx)).1
abbrev noX : Nat → List D → Sto → Prop := fun _ _ _ => False
/-- a statement that ends in known slots, then the rest -/
theorem W_seq {m n : Slots → T (Slots × Fl)} {σ σ1 : Slots} {Q : Slots × Fl → Sto → Prop} (h : (m σ).chk (isNx σ1) = true) (w : W (n σ1) Q noX []) : W (sSeq m n σ) Q noX [] := by
  refine W_bind _ _ |>.mpr (W_mono _ (fun z s q => ?_) (fun _ _ _ h => h) (chk_W (E := noX) _ h))
  obtain ⟨q, rfl⟩ := q
  rw [isNx_eq q]
  exact w
/-- a loop each turn of which ends in the slots it began with -/
theorem W_for {t : Tg} {body : Slots → T (Slots × Fl)} {σ : Slots} : ∀ {xs : List D}, (∀ x ∈ xs, match t.asg x σ with | none => False | some σ1 => (body σ1).chk (isNx σ) = true) → W (fFor t body xs σ) (fun z s => z = (σ, .nx) ∧ s = []) noX []
  | [], _ => ⟨rfl, rfl⟩
  | x :: r, h => by
    have h0 := h x (by simp)
    unfold fFor
    cases e : t.asg x σ with
    | none => rw [e] at h0; exact h0.elim
    | some σ1 =>
      rw [e] at h0
      refine W_bind _ _ |>.mpr (W_mono _ (fun z s q => ?_) (fun _ _ _ h => h) (chk_W (E := noX) _ h0))
      obtain ⟨q, rfl⟩ := q
      rw [isNx_eq q]
      exact W_for fun y hy => h y (by simp [hy])
def chkFor (t : Tg) (body : Slots → T (Slots × Fl)) (σ : Slots) (xs : List D) : Bool := xs.all fun x => match t.asg x σ with | none => false | some σ1 => (body σ1).chk (isNx σ)
theorem W_forS {mi : Slots → T (List D)} {t : Tg} {body n : Slots → T (Slots × Fl)} {σ : Slots} {Q : Slots × Fl → Sto → Prop} {xs : List D} (hi : mi σ = .ret xs) (h : chkFor t body σ xs = true) (w : W (n σ) Q noX []) : W (sSeq (sFor mi t body) n σ) Q noX [] := by
  refine W_bind _ _ |>.mpr ?_
  unfold sFor
  rw [hi, bind_ret]
  refine W_mono _ (fun z s q => ?_) (fun _ _ _ h => h) (W_for (body := body) (t := t) (σ := σ) (xs := xs) fun x hx => ?_)
  · obtain ⟨rfl, rfl⟩ := q
    exact w
  · have := List.all_eq_true.mp h x hx
    split <;> simp_all
def retBeq (m : T (List D)) (xs : List D) : Bool := match m with
  | .ret ys => D.beqs ys xs
  | _ => false
theorem retBeq_eq {m : T (List D)} {xs : List D} (h : retBeq m xs = true) : m = .ret xs := by
  unfold retBeq at h
  split at h
  · rw [beqs_eq h]
  · cases h
theorem W_forP {mi : Slots → T (List D)} {t : Tg} {body n : Slots → T (Slots × Fl)} {ws : List Nat} {σ σ' : Slots} {Q : Slots × Fl → Sto → Prop} {xs : List D} (h0 : slBeq (wipeD σ ws) σ' = true) (hi : retBeq (mi σ') xs = true) (h : chkFor t body σ' xs = true) (w : W (n σ') Q noX []) : W (sSeq (sPre ws (sFor mi t body)) n σ) Q noX [] := by
  have e := sl_eq h0
  show W (sSeq (sFor mi t body) n (wipeD σ ws)) Q noX []
  rw [e]
  exact W_forS (retBeq_eq hi) h w
theorem W_runB {np n : Nat} {m : Slots → T (Slots × Fl)} {ds : List D} {Q : D → Sto → Prop} (hl : ds.length = np) (w : W (m (startD n ds)) (fun z s => match z.2 with | .nx => Q .non s | .rt d => Q d s | _ => False) noX []) : W (runB np n m ds) Q noX [] := by
  unfold runB
  rw [if_pos hl]
  refine W_bind _ _ |>.mpr (W_mono _ (fun z s q => ?_) (fun _ _ _ h => h) w)
  obtain ⟨σ, fl⟩ := z
  cases fl <;> exact q
def isTru (z : Slots × Fl) : Bool := match z.2 with
  | .rt d => d.tru
  | _ => false
theorem W_end {m : Slots → T (Slots × Fl)} {σ : Slots} (h : (m σ).chk isTru = true) : W (m σ) (fun z s => match z.2 with | .nx => D.non = D.bl true | .rt d => d = D.bl true | _ => False) noX [] := by
  refine W_mono _ (fun z s q => ?_) (fun _ _ _ h => h) (chk_W (E := noX) _ h)
  obtain ⟨q, rfl⟩ := q
  obtain ⟨σ, fl⟩ := z
  unfold isTru at q
  cases fl <;> simp only at q ⊢ <;> first | exact tru_eq q | exact absurd q (by simp)
end KT
namespace KT
open PySem PySem.Spec PyProof.Rows L2 RZ
/-- a statement run from known slots: sealed, so that nothing is unfolded by the way -/
@[irreducible] def Run (m : Slots → T (Slots × Fl)) (σ : Slots) (Q : Slots × Fl → Sto → Prop) : Prop := W (m σ) Q noX []
theorem Run.of {m : Slots → T (Slots × Fl)} {σ : Slots} {Q : Slots × Fl → Sto → Prop} (h : W (m σ) Q noX []) : Run m σ Q := by unfold Run; exact h
theorem Run.to {m : Slots → T (Slots × Fl)} {σ : Slots} {Q : Slots × Fl → Sto → Prop} (h : Run m σ Q) : W (m σ) Q noX [] := by unfold Run at h; exact h
theorem Run.seq {m n : Slots → T (Slots × Fl)} {σ : Slots} {Q : Slots × Fl → Sto → Prop} (σ1 : Slots) (h : (m σ).chk (isNx σ1) = true) (w : Run n σ1 Q) : Run (sSeq m n) σ Q := .of (W_seq h w.to)
theorem Run.forP {mi : Slots → T (List D)} {t : Tg} {body m n : Slots → T (Slots × Fl)} {ws : List Nat} {σ : Slots} {Q : Slots × Fl → Sto → Prop} (σ' : Slots) (xs : List D) (hm : m = sPre ws (sFor mi t body)) (h0 : slBeq (wipeD σ ws) σ' = true) (hi : retBeq (mi σ') xs = true) (h : chkFor t body σ' xs = true) (w : Run n σ' Q) : Run (sSeq m n) σ Q := by
  subst hm
  exact .of (W_forP h0 hi h w.to)
abbrev isTrueEnd : Slots × Fl → Sto → Prop := fun z _ => match z.2 with | .nx => D.non = D.bl true | .rt d => d = D.bl true | _ => False
theorem Run.last {m : Slots → T (Slots × Fl)} {σ : Slots} (h : (m σ).chk isTru = true) : Run m σ isTrueEnd := .of (W_end h)
theorem law_run {c : List D → T D} {n : Nat} {m : Slots → T (Slots × Fl)} (hc : c = runB 1 n m) (h : Run m (startD n [.scr]) isTrueEnd) : W (c [.scr]) (fun d _ => d = .bl true) (fun _ _ _ => False) [] := by
  subst hc
  exact W_runB rfl h.to
end KT
namespace KT
open PySem PySem.Spec PyProof.Rows L2 RZ
def topS (i : Nat) : Stmt := PySem.Challenge.pw_keptoftwo_k71_whole_shapes_in_order.main.body.getD i (.Pass ⟨0, 0, 0, 0⟩)
abbrev s0 : Stmt := topS 4
theorem sc0 : FnScope ["value", "low", "high"] ["value", "low", "high"] (defScope s0) := ⟨rfl, rfl, rfl, by decide +kernel, rfl, by decide +kernel, by decide +kernel⟩
abbrev s1 : Stmt := topS 8
theorem sc1 : FnScope ["row", "found", "at", "left", "right"] ["row"] (defScope s1) := ⟨rfl, rfl, rfl, by decide +kernel, rfl, by decide +kernel, by decide +kernel⟩
abbrev s2 : Stmt := topS 9
theorem sc2 : FnScope ["many", "found", "at"] ["many"] (defScope s2) := ⟨rfl, rfl, rfl, by decide +kernel, rfl, by decide +kernel, by decide +kernel⟩
abbrev s3 : Stmt := topS 11
theorem sc3 : FnScope ["many", "deep", "found", "turn", "wider", "size", "left"] ["many", "deep"] (defScope s3) := ⟨rfl, rfl, rfl, by decide +kernel, rfl, by decide +kernel, by decide +kernel⟩
abbrev s4 : Stmt := topS 12
theorem sc4 : FnScope ["many"] ["many"] (defScope s4) := ⟨rfl, rfl, rfl, by decide +kernel, rfl, by decide +kernel, by decide +kernel⟩
abbrev s5 : Stmt := topS 13
theorem sc5 : FnScope ["many", "deep"] ["many", "deep"] (defScope s5) := ⟨rfl, rfl, rfl, by decide +kernel, rfl, by decide +kernel, by decide +kernel⟩
abbrev s6 : Stmt := topS 15
theorem sc6 : FnScope ["script", "cell"] ["script"] (defScope s6) := ⟨rfl, rfl, rfl, by decide +kernel, rfl, by decide +kernel, by decide +kernel⟩
abbrev s7 : Stmt := topS 16
theorem sc7 : FnScope ["cup", "many", "found", "deep"] ["cup", "many"] (defScope s7) := ⟨rfl, rfl, rfl, by decide +kernel, rfl, by decide +kernel, by decide +kernel⟩
abbrev s8 : Stmt := topS 17
theorem sc8 : FnScope ["told", "due", "at"] ["told", "due"] (defScope s8) := ⟨rfl, rfl, rfl, by decide +kernel, rfl, by decide +kernel, by decide +kernel⟩
abbrev s9 : Stmt := topS 18
theorem sc9 : FnScope ["row", "found", "at", "left", "right"] ["row"] (defScope s9) := ⟨rfl, rfl, rfl, by decide +kernel, rfl, by decide +kernel, by decide +kernel⟩
abbrev s10 : Stmt := topS 19
theorem sc10 : FnScope ["shape"] ["shape"] (defScope s10) := ⟨rfl, rfl, rfl, by decide +kernel, rfl, by decide +kernel, by decide +kernel⟩
abbrev s11 : Stmt := topS 20
theorem sc11 : FnScope ["told", "due"] ["told", "due"] (defScope s11) := ⟨rfl, rfl, rfl, by decide +kernel, rfl, by decide +kernel, by decide +kernel⟩
abbrev s12 : Stmt := topS 21
theorem sc12 : FnScope ["told", "due", "at"] ["told", "due"] (defScope s12) := ⟨rfl, rfl, rfl, by decide +kernel, rfl, by decide +kernel, by decide +kernel⟩
abbrev s13 : Stmt := topS 22
theorem sc13 : FnScope ["shape"] ["shape"] (defScope s13) := ⟨rfl, rfl, rfl, by decide +kernel, rfl, by decide +kernel, by decide +kernel⟩
abbrev s14 : Stmt := topS 23
theorem sc14 : FnScope ["many", "deep", "left"] ["many", "deep"] (defScope s14) := ⟨rfl, rfl, rfl, by decide +kernel, rfl, by decide +kernel, by decide +kernel⟩
abbrev s15 : Stmt := topS 24
theorem sc15 : FnScope ["script", "told", "deep", "many", "shapes", "deepest", "shape", "own", "cup", "turn"] ["script"] (defScope s15) := ⟨rfl, rfl, rfl, by decide +kernel, rfl, by decide +kernel, by decide +kernel⟩
/-- fits_whole -/
def b0 (cf : Nat → List D → T D) : Slots → T (Slots × Fl) := (sRet (mAnd (mUn (dIsi .int) (mVar 0)) (mAnd (mNot (mUn (dIsi .bl) (mVar 0))) (mChain dLe dLe (mVar 1) (mVar 0) (mVar 2)))))
/-- groupings_in -/
def b1 (cf : Nat → List D → T D) : Slots → T (Slots × Fl) := (sSeq (sIf (mB (mBin dEq (mCall dLen (mCons (mVar 0) mNil)) (mC (.int 1)))) (sRet (mLst (mCons (mBin dIx (mVar 0) (mC (.int 0))) mNil))) sNil)
  (sSeq (sOwn 1 (mLsO mNil))
  (sSeq (sFor (fun σ => ((mCall dRange (mCons (mC (.int 1)) (mCons (mCall dLen (mCons (mVar 0) mNil)) mNil))) σ).bind dItems) (.nm 2) (sExt 1 (mFz (mComp2 (List.map Prod.snd ([("left", 3), ("right", 4)] : List (Str × Nat))) [4] (.nm 3) mYes (fun σ => ((mCall (cf 1) (mCons (mSlice (mVar 0) mNP (mSP (mVar 2))) mNil)) σ).bind dItems) (.nm 4) mYes (mTup (mCons (mVar 3) (mCons (mVar 4) mNil))) (fun σ => ((mCall (cf 1) (mCons (mSlice (mVar 0) (mSP (mVar 2)) mNP) mNil)) σ).bind dItems)))))
  (sFz 1 (sRet (mVar 1))))))
/-- groupings_many -/
def b2 (cf : Nat → List D → T D) : Slots → T (Slots × Fl) := (sSeq (sIf (mTNot (mB (mCall (cf 0) (mCons (mVar 0) (mCons (mC (.int 1)) (mCons (mC (.int 10)) mNil)))))) sBad sNil)
  (sSeq (sOwn 1 (mLsO (mCons (mC (.int 0)) (mCons (mC (.int 1)) mNil))))
  (sSeq (sWh 100 (mPeekT (mB (mBin dLe (mCall dLen (mCons (mVar 1) mNil)) (mVar 0)))) (sApp 1 (mCons (mPeek (mCall dSum (mCons (mFz (mComp (List.map Prod.snd ([("at", 2)] : List (Str × Nat))) (.nm 2) mYes (mBin dMul (mBin dIx (mVar 1) (mVar 2)) (mBin dIx (mVar 1) (mBin dSub (mCall dLen (mCons (mVar 1) mNil)) (mVar 2)))) (fun σ => ((mCall dRange (mCons (mC (.int 1)) (mCons (mCall dLen (mCons (mVar 1) mNil)) mNil))) σ).bind dItems))) mNil))) mNil)))
  (sRet (mPeek (mBin dIx (mVar 1) (mVar 0)))))))
/-- within_in -/
def b3 (cf : Nat → List D → T D) : Slots → T (Slots × Fl) := (sSeq (sSet 2 (mBin dAdd (mLst (mCons (mC (.int 0)) (mCons (mC (.int 1)) mNil))) (mBin dMul (mLst (mCons (mC (.int 0)) mNil)) (mBin dSub (mVar 0) (mC (.int 1))))))
  (sSeq (sFor (fun σ => ((mCall dRange (mCons (mVar 1) mNil)) σ).bind dItems) (.nm 3) (sSeq (sOwn 4 (mLsO (mCons (mC (.int 0)) (mCons (mC (.int 1)) mNil))))
  (sSeq (sFor (fun σ => ((mCall dRange (mCons (mC (.int 2)) (mCons (mBin dAdd (mVar 0) (mC (.int 1))) mNil))) σ).bind dItems) (.nm 5) (sApp 4 (mCons (mCall dSum (mCons (mFz (mComp (List.map Prod.snd ([("left", 6)] : List (Str × Nat))) (.nm 6) mYes (mBin dMul (mBin dIx (mVar 2) (mVar 6)) (mBin dIx (mVar 2) (mBin dSub (mVar 5) (mVar 6)))) (fun σ => ((mCall dRange (mCons (mC (.int 1)) (mCons (mVar 5) mNil))) σ).bind dItems))) mNil)) mNil)))
  (sFz 4 (sSet 2 (mVar 4))))))
  (sRet (mVar 2))))
/-- all_shapes -/
def b4 (cf : Nat → List D → T D) : Slots → T (Slots × Fl) := (sSeq (sIf (mTNot (mB (mCall (cf 0) (mCons (mVar 0) (mCons (mC (.int 1)) (mCons (mC (.int 7)) mNil)))))) sBad sNil)
  (sRet (mCall dTuple (mCons (mCall (cf 1) (mCons (mBin dMul (mTup (mCons (mC (.int 0)) mNil)) (mVar 0)) mNil)) mNil))))
/-- shapes_within -/
def b5 (cf : Nat → List D → T D) : Slots → T (Slots × Fl) := (sSeq (sIf (mTOr (mTNot (mB (mCall (cf 0) (mCons (mVar 0) (mCons (mC (.int 1)) (mCons (mC (.int 10)) mNil)))))) (mTNot (mB (mCall (cf 0) (mCons (mVar 1) (mCons (mC (.int 0)) (mCons (mC (.int 10)) mNil))))))) sBad sNil)
  (sRet (mBin dIx (mCall (cf 3) (mCons (mVar 0) (mCons (mVar 1) mNil))) (mVar 0))))
/-- _law_same -/
def b8 (cf : Nat → List D → T D) : Slots → T (Slots × Fl) := (sSeq (sIf (mB (mUn (dIsi .tup) (mVar 1))) (sSeq (sIf (mTOr (mTNot (mB (mUn (dIsi .tup) (mVar 0)))) (mB (mBin dNe (mCall dLen (mCons (mVar 0) mNil)) (mCall dLen (mCons (mVar 1) mNil))))) (sRet (mC (.bl false))) sNil)
  (sRet (mCall dAll (mCons (mFz (mComp (List.map Prod.snd ([("at", 2)] : List (Str × Nat))) (.nm 2) mYes (mCall (cf 8) (mCons (mBin dIx (mVar 0) (mVar 2)) (mCons (mBin dIx (mVar 1) (mVar 2)) mNil))) (fun σ => ((mCall dRange (mCons (mCall dLen (mCons (mVar 1) mNil)) mNil)) σ).bind dItems))) mNil)))) sNil)
  (sSeq (sIf (mB (mBin dIs (mVar 1) (mC .non))) (sRet (mBin dIs (mVar 0) (mC .non))) sNil)
  (sSeq (sIf (mB (mUn (dIsi .bl) (mVar 1))) (sRet (mIf (mB (mVar 1)) (mBin dIs (mVar 0) (mC (.bl true))) (mBin dIs (mVar 0) (mC (.bl false))))) sNil)
  (sSeq (sIf (mB (mUn (dIsi .int) (mVar 1))) (sRet (mAnd (mUn (dIsi .int) (mVar 0)) (mAnd (mNot (mUn (dIsi .bl) (mVar 0))) (mBin dEq (mCall dInt (mCons (mVar 0) mNil)) (mVar 1))))) sNil)
  (sRet (mAnd (mUn (dIsi .str) (mVar 0)) (mBin dEq (mCall dStr (mCons (mVar 0) mNil)) (mVar 1))))))))
/-- _law_groups -/
def b9 (cf : Nat → List D → T D) : Slots → T (Slots × Fl) := (sSeq (sIf (mB (mBin dEq (mCall dLen (mCons (mVar 0) mNil)) (mC (.int 1)))) (sRet (mLst (mCons (mBin dIx (mVar 0) (mC (.int 0))) mNil))) sNil)
  (sSeq (sSet 1 (mLst mNil))
  (sSeq (sFor (fun σ => ((mCall dRange (mCons (mC (.int 1)) (mCons (mCall dLen (mCons (mVar 0) mNil)) mNil))) σ).bind dItems) (.nm 2) (sFor (fun σ => ((mCall (cf 9) (mCons (mSlice (mVar 0) mNP (mSP (mVar 2))) mNil)) σ).bind dItems) (.nm 3) (sSet 1 (mBin dAdd (mVar 1) (mFz (mComp (List.map Prod.snd ([("right", 4)] : List (Str × Nat))) (.nm 4) mYes (mTup (mCons (mVar 3) (mCons (mVar 4) mNil))) (fun σ => ((mCall (cf 9) (mCons (mSlice (mVar 0) (mSP (mVar 2)) mNP) mNil)) σ).bind dItems)))))))
  (sRet (mVar 1)))))
/-- _law_size -/
def b10 (cf : Nat → List D → T D) : Slots → T (Slots × Fl) := (sRet (mIf (mB (mUn (dIsi .tup) (mVar 0))) (mBin dAdd (mCall (cf 10) (mCons (mBin dIx (mVar 0) (mC (.int 0))) mNil)) (mCall (cf 10) (mCons (mBin dIx (mVar 0) (mC (.int 1))) mNil))) (mC (.int 1))))
/-- _law_like -/
def b11 (cf : Nat → List D → T D) : Slots → T (Slots × Fl) := (sSeq (sIf (mB (mUn (dIsi .tup) (mVar 1))) (sRet (mAnd (mUn (dIsi .tup) (mVar 0)) (mAnd (mBin dEq (mCall dLen (mCons (mVar 0) mNil)) (mC (.int 2))) (mAnd (mCall (cf 11) (mCons (mBin dIx (mVar 0) (mC (.int 0))) (mCons (mBin dIx (mVar 1) (mC (.int 0))) mNil))) (mCall (cf 11) (mCons (mBin dIx (mVar 0) (mC (.int 1))) (mCons (mBin dIx (mVar 1) (mC (.int 1))) mNil))))))) sNil)
  (sRet (mCall (cf 8) (mCons (mVar 0) (mCons (mVar 1) mNil)))))
/-- _law_all_like -/
def b12 (cf : Nat → List D → T D) : Slots → T (Slots × Fl) := (sRet (mAnd (mUn (dIsi .tup) (mVar 0)) (mAnd (mBin dEq (mCall dLen (mCons (mVar 0) mNil)) (mCall dLen (mCons (mVar 1) mNil))) (mBin dEq (mFz (mComp (List.map Prod.snd ([("at", 2)] : List (Str × Nat))) (.nm 2) (mTNot (mB (mCall (cf 11) (mCons (mBin dIx (mVar 0) (mVar 2)) (mCons (mBin dIx (mVar 1) (mVar 2)) mNil))))) (mVar 2) (fun σ => ((mCall dRange (mCons (mCall dLen (mCons (mVar 1) mNil)) mNil)) σ).bind dItems))) (mLst mNil)))))
/-- _law_deepest -/
def b13 (cf : Nat → List D → T D) : Slots → T (Slots × Fl) := (sRet (mIf (mB (mUn (dIsi .tup) (mVar 0))) (mBin dAdd (mC (.int 1)) (mCall dMax2 (mCons (mCall (cf 13) (mCons (mBin dIx (mVar 0) (mC (.int 0))) mNil)) (mCons (mCall (cf 13) (mCons (mBin dIx (mVar 0) (mC (.int 1))) mNil)) mNil)))) (mC (.int 0))))
/-- _law_less -/
def b14 (cf : Nat → List D → T D) : Slots → T (Slots × Fl) := (sSeq (sIf (mB (mBin dEq (mVar 0) (mC (.int 1)))) (sRet (mC (.int 1))) sNil)
  (sRet (mIf (mB (mBin dGt (mVar 1) (mC (.int 0)))) (mCall dSum (mCons (mFz (mComp (List.map Prod.snd ([("left", 2)] : List (Str × Nat))) (.nm 2) mYes (mBin dMul (mCall (cf 14) (mCons (mVar 2) (mCons (mBin dSub (mVar 1) (mC (.int 1))) mNil))) (mCall (cf 14) (mCons (mBin dSub (mVar 0) (mVar 2)) (mCons (mBin dSub (mVar 1) (mC (.int 1))) mNil)))) (fun σ => ((mCall dRange (mCons (mC (.int 1)) (mCons (mVar 0) mNil))) σ).bind dItems))) mNil)) (mC (.int 0)))))
/-- law -/
def l0 (cf : Nat → List D → T D) : Slots → T (Slots × Fl) := (sSet 1 (mTup (mCons (mCall (cf 4) (mCons (mC (.int 1)) mNil)) (mCons (mCall (cf 4) (mCons (mC (.int 3)) mNil)) (mCons (mCall dTuple (mCons (mFz (mComp (List.map Prod.snd ([("deep", 2)] : List (Str × Nat))) (.nm 2) mYes (mCall (cf 5) (mCons (mC (.int 5)) (mCons (mVar 2) mNil))) (fun σ => ((mTup (mCons (mC (.int 2)) (mCons (mC (.int 3)) (mCons (mC (.int 4)) (mCons (mC (.int 5)) mNil))))) σ).bind dItems))) mNil)) (mCons (mCall (cf 5) (mCons (mC (.int 8)) (mCons (mC (.int 3)) mNil))) (mCons (mCall (cf 5) (mCons (mC (.int 10)) (mCons (mC (.int 9)) mNil))) mNil)))))))
def l1 (cf : Nat → List D → T D) : Slots → T (Slots × Fl) := (sIf (mTNot (mB (mCall (cf 8) (mCons (mVar 1) (mCons (mTup (mCons (mTup (mCons (mC (.int 0)) mNil)) (mCons (mTup (mCons (mTup (mCons (mC (.int 0)) (mCons (mTup (mCons (mC (.int 0)) (mCons (mC (.int 0)) mNil))) mNil))) (mCons (mTup (mCons (mTup (mCons (mC (.int 0)) (mCons (mC (.int 0)) mNil))) (mCons (mC (.int 0)) mNil))) mNil))) (mCons (mTup (mCons (mC (.int 0)) (mCons (mC (.int 6)) (mCons (mC (.int 14)) (mCons (mC (.int 14)) mNil))))) (mCons (mC (.int 1)) (mCons (mC (.int 4862)) mNil)))))) mNil))))) (sRet (mC (.bl false))) sNil)
def l2 (cf : Nat → List D → T D) : Slots → T (Slots × Fl) := (sIf (mB (mBin dNe (mLst (mCons (mCall (cf 5) (mCons (mC (.int 1)) (mCons (mC (.int 0)) mNil))) (mCons (mCall (cf 5) (mCons (mC (.int 2)) (mCons (mC (.int 0)) mNil))) (mCons (mCall (cf 5) (mCons (mC (.int 2)) (mCons (mC (.int 1)) mNil))) (mCons (mCall (cf 5) (mCons (mC (.int 9)) (mCons (mC (.int 3)) mNil))) (mCons (mCall (cf 5) (mCons (mC (.int 10)) (mCons (mC (.int 10)) mNil))) mNil)))))) (mLst (mCons (mC (.int 1)) (mCons (mC (.int 0)) (mCons (mC (.int 1)) (mCons (mC (.int 0)) (mCons (mC (.int 4862)) mNil)))))))) (sRet (mC (.bl false))) sNil)
def li3 (cf : Nat → List D → T D) : Slots → T (List D) := (fun σ => ((mCall dRange (mCons (mC (.int 1)) (mCons (mC (.int 7)) mNil))) σ).bind dItems)
def lb3 (cf : Nat → List D → T D) : Slots → T (Slots × Fl) := sPost [3, 4, 5, 2, 6, 7] (sSeq (sSet 4 (mCall (cf 9) (mCons (mBin dMul (mTup (mCons (mC (.int 0)) mNil)) (mVar 3)) mNil)))
  (sSeq (sIf (mTNot (mB (mCall (cf 12) (mCons (mCall (cf 4) (mCons (mVar 3) mNil)) (mCons (mVar 4) mNil))))) (sRet (mC (.bl false))) sNil)
  (sSeq (sSet 5 (mFz (mComp (List.map Prod.snd ([("shape", 6)] : List (Str × Nat))) (.nm 6) mYes (mCall (cf 13) (mCons (mVar 6) mNil)) (fun σ => ((mVar 4) σ).bind dItems))))
  (sFor (fun σ => ((mCall dRange (mCons (mC (.int 11)) mNil)) σ).bind dItems) (.nm 2) (sIf (mTNot (mB (mCall (cf 8) (mCons (mCall (cf 5) (mCons (mVar 3) (mCons (mVar 2) mNil))) (mCons (mCall dLen (mCons (mFz (mComp (List.map Prod.snd ([("own", 7)] : List (Str × Nat))) (.nm 7) (mB (mBin dLe (mVar 7) (mVar 2))) (mVar 7) (fun σ => ((mVar 5) σ).bind dItems))) mNil)) mNil))))) (sRet (mC (.bl false))) sNil)))))
def l3 (cf : Nat → List D → T D) : Slots → T (Slots × Fl) := sPre [3, 4, 5, 2, 6, 7] (sFor (li3 cf) (.nm 3) (lb3 cf))
def l4 (cf : Nat → List D → T D) : Slots → T (Slots × Fl) := (sSet 8 (mCall (cf 6) (mCons (mVar 0) mNil)))
def li5 (cf : Nat → List D → T D) : Slots → T (List D) := (fun σ => ((mCall dRange (mCons (mC (.int 5)) mNil)) σ).bind dItems)
def lb5 (cf : Nat → List D → T D) : Slots → T (Slots × Fl) := sPost [9, 3, 2] (sSeq (sAsg (.tp [(.nm 3), (.nm 2)]) (mTup (mCons (mBin dAdd (mC (.int 1)) (mCall (cf 7) (mCons (mVar 8) (mCons (mC (.int 7)) mNil)))) (mCons (mCall (cf 7) (mCons (mVar 8) (mCons (mC (.int 5)) mNil))) mNil))))
  (sIf (mTNot (mB (mCall (cf 8) (mCons (mTup (mCons (mCall (cf 5) (mCons (mVar 3) (mCons (mVar 2) mNil))) (mCons (mCall (cf 5) (mCons (mVar 3) (mCons (mVar 3) mNil))) mNil))) (mCons (mTup (mCons (mCall (cf 14) (mCons (mVar 3) (mCons (mVar 2) mNil))) (mCons (mCall (cf 2) (mCons (mVar 3) mNil)) mNil))) mNil))))) (sRet (mC (.bl false))) sNil))
def l5 (cf : Nat → List D → T D) : Slots → T (Slots × Fl) := sPre [9, 3, 2] (sFor (li5 cf) (.nm 9) (lb5 cf))
def l6 (cf : Nat → List D → T D) : Slots → T (Slots × Fl) := (sRet (mBin dEq (mCall dLen (mCons (mCall (cf 4) (mCons (mC (.int 7)) mNil)) mNil)) (mC (.int 132))))
def b15 (cf : Nat → List D → T D) : Slots → T (Slots × Fl) := (sSeq (l0 cf)
  (sSeq (l1 cf)
  (sSeq (l2 cf)
  (sSeq (l3 cf)
  (sSeq (l4 cf)
  (sSeq (l5 cf)
  (l6 cf)))))))
def step (cf : Nat → List D → T D) : Nat → List D → T D
  | 0 => runB 3 3 (b0 cf)
  | 1 => runB 1 5 (b1 cf)
  | 2 => runB 1 3 (b2 cf)
  | 3 => runB 2 7 (b3 cf)
  | 4 => runB 1 1 (b4 cf)
  | 5 => runB 2 2 (b5 cf)
  | 6 => dCup
  | 7 => dRoll
  | 8 => runB 2 3 (b8 cf)
  | 9 => runB 1 5 (b9 cf)
  | 10 => runB 1 1 (b10 cf)
  | 11 => runB 2 2 (b11 cf)
  | 12 => runB 2 3 (b12 cf)
  | 13 => runB 1 1 (b13 cf)
  | 14 => runB 2 3 (b14 cf)
  | 15 => runB 1 10 (b15 cf)
  | _ => fun _ => .bad
def cfN : Nat → Nat → List D → T D
  | 0 => fun _ _ => .bad
  | n + 1 => step (cfN n)
structure Top (K : PySem.W.Frag) (mg : Str → Option Value) : Prop where
  f0 : HasF K mg "fits_whole" s0 ["value", "low", "high"]
  f1 : HasF K mg "groupings_in" s1 ["row"]
  f2 : HasF K mg "groupings_many" s2 ["many"]
  f3 : HasF K mg "within_in" s3 ["many", "deep"]
  f4 : HasF K mg "all_shapes" s4 ["many"]
  f5 : HasF K mg "shapes_within" s5 ["many", "deep"]
  f6 : HasF K mg "_law_cup" s6 ["script"]
  f7 : HasF K mg "_law_roll" s7 ["cup", "many"]
  f8 : HasF K mg "_law_same" s8 ["told", "due"]
  f9 : HasF K mg "_law_groups" s9 ["row"]
  f10 : HasF K mg "_law_size" s10 ["shape"]
  f11 : HasF K mg "_law_like" s11 ["told", "due"]
  f12 : HasF K mg "_law_all_like" s12 ["told", "due"]
  f13 : HasF K mg "_law_deepest" s13 ["shape"]
  f14 : HasF K mg "_law_less" s14 ["many", "deep"]
  f15 : HasF K mg "law" s15 ["script"]
  z_abs : mg "abs" = none
  z_all : mg "all" = none
  z_bool : mg "bool" = none
  z_int : mg "int" = none
  z_isinstance : mg "isinstance" = none
  z_len : mg "len" = none
  z_list : mg "list" = none
  z_max : mg "max" = none
  z_range : mg "range" = none
  z_str : mg "str" = none
  z_sum : mg "sum" = none
  z_tuple : mg "tuple" = none
  g_GROUPED : ∃ t, mg "GROUPED" = some (.int 7 t)
  g_LONG : ∃ t, mg "LONG" = some (.int 10 t)
structure Defs (P : Program) (w : World) (K : PySem.W.Frag) (mg : Str → Option Value) (base : Heap) (k : Nat) (cf : Nat → List D → T D) : Prop where
  d0 : DefAt P w K Γ0 mg base k "fits_whole" ["value", "low", "high"] (cf 0)
  d1 : DefAt P w K Γ0 mg base k "groupings_in" ["row"] (cf 1)
  d2 : DefAt P w K Γ0 mg base k "groupings_many" ["many"] (cf 2)
  d3 : DefAt P w K Γ0 mg base k "within_in" ["many", "deep"] (cf 3)
  d4 : DefAt P w K Γ0 mg base k "all_shapes" ["many"] (cf 4)
  d5 : DefAt P w K Γ0 mg base k "shapes_within" ["many", "deep"] (cf 5)
  d6 : DefAt P w K Γ0 mg base k "_law_cup" ["script"] (cf 6)
  d7 : DefAt P w K Γ0 mg base k "_law_roll" ["cup", "many"] (cf 7)
  d8 : DefAt P w K Γ0 mg base k "_law_same" ["told", "due"] (cf 8)
  d9 : DefAt P w K Γ0 mg base k "_law_groups" ["row"] (cf 9)
  d10 : DefAt P w K Γ0 mg base k "_law_size" ["shape"] (cf 10)
  d11 : DefAt P w K Γ0 mg base k "_law_like" ["told", "due"] (cf 11)
  d12 : DefAt P w K Γ0 mg base k "_law_all_like" ["told", "due"] (cf 12)
  d13 : DefAt P w K Γ0 mg base k "_law_deepest" ["shape"] (cf 13)
  d14 : DefAt P w K Γ0 mg base k "_law_less" ["many", "deep"] (cf 14)
  d15 : DefAt P w K Γ0 mg base k "law" ["script"] (cf 15)
section
variable {P : Program} {w : World} {K : PySem.W.Frag} {mg : Str → Option Value} {base : Heap} {k : Nat} {cf : Nat → List D → T D}
theorem ok0 (T : Top K mg) (D : Defs P w K mg base k cf) : DefAt P w K Γ0 mg base (k + 1) "fits_whole" ["value", "low", "high"] (runB 3 3 (b0 cf)) :=
  defAt T.f0 sc0 fun f cdv A outer s H E hr => (sss_one (ss_ret (se_and (se_isi .int rfl (se_var 0) T.z_isinstance T.z_int bt_int) (se_and (se_not (se_isi .bl rfl (se_var 0) T.z_isinstance T.z_bool bt_bool)) (se_one (se_chain op_le od_le op_le od_le (se_var 1) (se_var 0) (se_var 2)))))))
theorem ok1 (T : Top K mg) (D : Defs P w K mg base k cf) : DefAt P w K Γ0 mg base (k + 1) "groupings_in" ["row"] (runB 1 5 (b1 cf)) :=
  defAt T.f1 sc1 fun f cdv A outer s H E hr => (sss_cons (ss_if (st_cmp (op_eqP hr.units) od_eq (nomark _) (se_callB call_len cd_len T.z_len bt_len (sa_cons (se_var 0) sa_nil)) se_int) (sss_one (ss_ret (se_lst (sa_cons (se_ix (se_var 0) se_int) sa_nil)))) sss_nil)
      (sss_cons (ss_own 1 sc1.nd (so_lst sa_nil))
      (sss_cons (ss_for ownD rfl (si_any (se_callTy cr_rangeA cd_range T.z_range bt_range (sa_cons se_int (sa_cons (se_callB call_len cd_len T.z_len bt_len (sa_cons (se_var 0) sa_nil)) sa_nil)))) (sg_nm 2 sc1.nd) (sss_one (ss_ext 1 sc1.nd (SO.sa (so_comp2 rfl sc1.nd (own := [("left", 3), ("right", 4)]) (vs1 := [4]) (blkOk_by rfl) (by decide) (by decide) (by decide) (si_any (se_call D.d1 hr passD (sa_cons (se_slc (se_var 0) sp_none (sp_some (se_var 2))) sa_nil))) (fun s H C cl fp => (sg_nm 3 sc1.nd)) (fun s H C cl fp => sts_nil) (fun s H C cl fp => (si_any (se_call D.d1 hr passL (sa_cons (se_slc (se_var 0) (sp_some (se_var 2)) sp_none) sa_nil)))) (fun s H C cl fp => (sg_nm 4 sc1.nd)) (fun s H C cl fp => sts_nil) (fun s H C cl fp => (se_tup (sa_cons (se_var 3) (sa_cons (se_var 4) sa_nil)))))))))
      (sss_one (ss_fz 1 (ss_ret (se_var 1)))))))
theorem ok2 (T : Top K mg) (D : Defs P w K mg base k cf) : DefAt P w K Γ0 mg base (k + 1) "groupings_many" ["many"] (runB 1 3 (b2 cf)) :=
  defAt T.f2 sc2 fun f cdv A outer s H E hr => (sss_cons (ss_if (st_not (st_val (se_call D.d0 hr passD (sa_cons (se_var 0) (sa_cons se_int (sa_cons (se_gintE T.g_LONG) sa_nil)))))) (sss_one ss_never) sss_nil)
      (sss_cons (ss_own 1 sc2.nd (so_lst (sa_cons se_int (sa_cons se_int sa_nil))))
      (sss_cons (ss_while 100 ownD (st_peek (st_cmp op_le od_le (nomark _) (se_callB call_len cd_len T.z_len bt_len (sa_cons (se_var 1) sa_nil)) (se_var 0))) (sss_one (ss_app 1 (sa_cons (se_peek (se_callB (cr_sum rfl) cd_sum T.z_sum bt_sum (sa_cons (SO.sa (so_comp rfl sc2.nd (own := [("at", 2)]) (blkOk_by rfl) (by decide) (si_any (se_callTy cr_rangeA cd_range T.z_range bt_range (sa_cons se_int (sa_cons (se_callB call_len cd_len T.z_len bt_len (sa_cons (se_var 1) sa_nil)) sa_nil)))) (fun s H C cl fp => (sg_nm 2 sc2.nd)) (fun s H C cl fp => sts_nil) (fun s H C cl fp => (se_bin op_mulA od_mul (se_ix (se_var 1) (se_var 2)) (se_ix (se_var 1) (se_bin op_sub od_sub (se_callB call_len cd_len T.z_len bt_len (sa_cons (se_var 1) sa_nil)) (se_var 2))))))) sa_nil))) sa_nil))))
      (sss_one (ss_ret (se_peek (se_ix (se_var 1) (se_var 0))))))))
theorem ok3 (T : Top K mg) (D : Defs P w K mg base k cf) : DefAt P w K Γ0 mg base (k + 1) "within_in" ["many", "deep"] (runB 2 7 (b3 cf)) :=
  defAt T.f3 sc3 fun f cdv A outer s H E hr => (sss_cons (ss_set 2 sc3.nd (se_bin op_addA od_add (se_lst (sa_cons se_int (sa_cons se_int sa_nil))) (se_bin op_mulA od_mul (se_lst (sa_cons se_int sa_nil)) (se_bin op_sub od_sub (se_var 0) se_int))))
      (sss_cons (ss_for ownD rfl (si_any (se_callTy cr_rangeA cd_range T.z_range bt_range (sa_cons (se_var 1) sa_nil))) (sg_nm 3 sc3.nd) (sss_cons (ss_own 4 sc3.nd (so_lst (sa_cons se_int (sa_cons se_int sa_nil))))
      (sss_cons (ss_for ownD rfl (si_any (se_callTy cr_rangeA cd_range T.z_range bt_range (sa_cons se_int (sa_cons (se_bin op_addA od_add (se_var 0) se_int) sa_nil)))) (sg_nm 5 sc3.nd) (sss_one (ss_app 4 (sa_cons (se_callB (cr_sum rfl) cd_sum T.z_sum bt_sum (sa_cons (SO.sa (so_comp rfl sc3.nd (own := [("left", 6)]) (blkOk_by rfl) (by decide) (si_any (se_callTy cr_rangeA cd_range T.z_range bt_range (sa_cons se_int (sa_cons (se_var 5) sa_nil)))) (fun s H C cl fp => (sg_nm 6 sc3.nd)) (fun s H C cl fp => sts_nil) (fun s H C cl fp => (se_bin op_mulA od_mul (se_ix (se_var 2) (se_var 6)) (se_ix (se_var 2) (se_bin op_sub od_sub (se_var 5) (se_var 6))))))) sa_nil)) sa_nil))))
      (sss_one (ss_fz 4 (ss_set 2 sc3.nd (se_var 4)))))))
      (sss_one (ss_ret (se_var 2)))))
theorem ok4 (T : Top K mg) (D : Defs P w K mg base k cf) : DefAt P w K Γ0 mg base (k + 1) "all_shapes" ["many"] (runB 1 1 (b4 cf)) :=
  defAt T.f4 sc4 fun f cdv A outer s H E hr => (sss_cons (ss_if (st_not (st_val (se_call D.d0 hr passD (sa_cons (se_var 0) (sa_cons se_int (sa_cons (se_gintE T.g_GROUPED) sa_nil)))))) (sss_one ss_never) sss_nil)
      (sss_one (ss_ret (se_callTy call_tuple_of cd_tuple T.z_tuple bt_tuple (sa_cons (se_call D.d1 hr passD (sa_cons (se_bin op_mulA od_mul (se_tup (sa_cons se_int sa_nil)) (se_var 0)) sa_nil)) sa_nil)))))
theorem ok5 (T : Top K mg) (D : Defs P w K mg base k cf) : DefAt P w K Γ0 mg base (k + 1) "shapes_within" ["many", "deep"] (runB 2 2 (b5 cf)) :=
  defAt T.f5 sc5 fun f cdv A outer s H E hr => (sss_cons (ss_if (SW.st (sw_or (st_not (st_val (se_call D.d0 hr passD (sa_cons (se_var 0) (sa_cons se_int (sa_cons (se_gintE T.g_LONG) sa_nil)))))) (sw_or1 (st_not (st_val (se_call D.d0 hr passD (sa_cons (se_var 1) (sa_cons se_int (sa_cons (se_gintE T.g_LONG) sa_nil))))))))) (sss_one ss_never) sss_nil)
      (sss_one (ss_ret (se_ix (se_call D.d3 hr passD (sa_cons (se_var 0) (sa_cons (se_var 1) sa_nil))) (se_var 0)))))
theorem ok8 (T : Top K mg) (D : Defs P w K mg base k cf) : DefAt P w K Γ0 mg base (k + 1) "_law_same" ["told", "due"] (runB 2 3 (b8 cf)) :=
  defAt T.f8 sc8 fun f cdv A outer s H E hr => (sss_cons (ss_if (st_val (se_isi .tup rfl (se_var 1) T.z_isinstance T.z_tuple bt_tuple)) (sss_cons (ss_if (SW.st (sw_or (st_not (st_val (se_isi .tup rfl (se_var 0) T.z_isinstance T.z_tuple bt_tuple))) (sw_or1 (st_cmp (op_neP hr.units) od_ne (nomark _) (se_callB call_len cd_len T.z_len bt_len (sa_cons (se_var 0) sa_nil)) (se_callB call_len cd_len T.z_len bt_len (sa_cons (se_var 1) sa_nil)))))) (sss_one (ss_ret se_bl)) sss_nil)
      (sss_one (ss_ret (se_callB (cr_all rfl) cd_all T.z_all bt_all (sa_cons (SO.sa (so_comp rfl sc8.nd (own := [("at", 2)]) (blkOk_by rfl) (by decide) (si_any (se_callTy cr_rangeA cd_range T.z_range bt_range (sa_cons (se_callB call_len cd_len T.z_len bt_len (sa_cons (se_var 1) sa_nil)) sa_nil))) (fun s H C cl fp => (sg_nm 2 sc8.nd)) (fun s H C cl fp => sts_nil) (fun s H C cl fp => (se_call D.d8 hr passL (sa_cons (se_ix (se_var 0) (se_var 2)) (sa_cons (se_ix (se_var 1) (se_var 2)) sa_nil)))))) sa_nil))))) sss_nil)
      (sss_cons (ss_if (st_cmp op_isA od_is (nomark _) (se_var 1) se_non) (sss_one (ss_ret (se_cmp op_isA od_is (nomark _) (se_var 0) se_non))) sss_nil)
      (sss_cons (ss_if (st_val (se_isi .bl rfl (se_var 1) T.z_isinstance T.z_bool bt_bool)) (sss_one (ss_ret (se_if (st_val (se_var 1)) (se_cmp op_isA od_is (nomark _) (se_var 0) se_bl) (se_cmp op_isA od_is (nomark _) (se_var 0) se_bl)))) sss_nil)
      (sss_cons (ss_if (st_val (se_isi .int rfl (se_var 1) T.z_isinstance T.z_int bt_int)) (sss_one (ss_ret (se_and (se_isi .int rfl (se_var 0) T.z_isinstance T.z_int bt_int) (se_and (se_not (se_isi .bl rfl (se_var 0) T.z_isinstance T.z_bool bt_bool)) (se_one (se_cmp (op_eqP hr.units) od_eq (nomark _) (se_callTy call_int1 cd_int T.z_int bt_int (sa_cons (se_var 0) sa_nil)) (se_var 1))))))) sss_nil)
      (sss_one (ss_ret (se_and (se_isi .str rfl (se_var 0) T.z_isinstance T.z_str bt_str) (se_one (se_cmp (op_eqP hr.units) od_eq (nomark _) (se_callTy cr_str cd_str T.z_str bt_str (sa_cons (se_var 0) sa_nil)) (se_var 1))))))))))
theorem ok9 (T : Top K mg) (D : Defs P w K mg base k cf) : DefAt P w K Γ0 mg base (k + 1) "_law_groups" ["row"] (runB 1 5 (b9 cf)) :=
  defAt T.f9 sc9 fun f cdv A outer s H E hr => (sss_cons (ss_if (st_cmp (op_eqP hr.units) od_eq (nomark _) (se_callB call_len cd_len T.z_len bt_len (sa_cons (se_var 0) sa_nil)) se_int) (sss_one (ss_ret (se_lst (sa_cons (se_ix (se_var 0) se_int) sa_nil)))) sss_nil)
      (sss_cons (ss_set 1 sc9.nd (se_lst sa_nil))
      (sss_cons (ss_for ownD rfl (si_any (se_callTy cr_rangeA cd_range T.z_range bt_range (sa_cons se_int (sa_cons (se_callB call_len cd_len T.z_len bt_len (sa_cons (se_var 0) sa_nil)) sa_nil)))) (sg_nm 2 sc9.nd) (sss_one (ss_for ownD rfl (si_any (se_call D.d9 hr passD (sa_cons (se_slc (se_var 0) sp_none (sp_some (se_var 2))) sa_nil))) (sg_nm 3 sc9.nd) (sss_one (ss_set 1 sc9.nd (se_bin op_addA od_add (se_var 1) (SO.sa (so_comp rfl sc9.nd (own := [("right", 4)]) (blkOk_by rfl) (by decide) (si_any (se_call D.d9 hr passD (sa_cons (se_slc (se_var 0) (sp_some (se_var 2)) sp_none) sa_nil))) (fun s H C cl fp => (sg_nm 4 sc9.nd)) (fun s H C cl fp => sts_nil) (fun s H C cl fp => (se_tup (sa_cons (se_var 3) (sa_cons (se_var 4) sa_nil))))))))))))
      (sss_one (ss_ret (se_var 1))))))
theorem ok10 (T : Top K mg) (D : Defs P w K mg base k cf) : DefAt P w K Γ0 mg base (k + 1) "_law_size" ["shape"] (runB 1 1 (b10 cf)) :=
  defAt T.f10 sc10 fun f cdv A outer s H E hr => (sss_one (ss_ret (se_if (st_val (se_isi .tup rfl (se_var 0) T.z_isinstance T.z_tuple bt_tuple)) (se_bin op_addA od_add (se_call D.d10 hr passD (sa_cons (se_ix (se_var 0) se_int) sa_nil)) (se_call D.d10 hr passD (sa_cons (se_ix (se_var 0) se_int) sa_nil))) se_int)))
theorem ok11 (T : Top K mg) (D : Defs P w K mg base k cf) : DefAt P w K Γ0 mg base (k + 1) "_law_like" ["told", "due"] (runB 2 2 (b11 cf)) :=
  defAt T.f11 sc11 fun f cdv A outer s H E hr => (sss_cons (ss_if (st_val (se_isi .tup rfl (se_var 1) T.z_isinstance T.z_tuple bt_tuple)) (sss_one (ss_ret (se_and (se_isi .tup rfl (se_var 0) T.z_isinstance T.z_tuple bt_tuple) (se_and (se_cmp (op_eqP hr.units) od_eq (nomark _) (se_callB call_len cd_len T.z_len bt_len (sa_cons (se_var 0) sa_nil)) se_int) (se_and (se_call D.d11 hr passD (sa_cons (se_ix (se_var 0) se_int) (sa_cons (se_ix (se_var 1) se_int) sa_nil))) (se_one (se_call D.d11 hr passD (sa_cons (se_ix (se_var 0) se_int) (sa_cons (se_ix (se_var 1) se_int) sa_nil))))))))) sss_nil)
      (sss_one (ss_ret (se_call D.d8 hr passD (sa_cons (se_var 0) (sa_cons (se_var 1) sa_nil))))))
theorem ok12 (T : Top K mg) (D : Defs P w K mg base k cf) : DefAt P w K Γ0 mg base (k + 1) "_law_all_like" ["told", "due"] (runB 2 3 (b12 cf)) :=
  defAt T.f12 sc12 fun f cdv A outer s H E hr => (sss_one (ss_ret (se_and (se_isi .tup rfl (se_var 0) T.z_isinstance T.z_tuple bt_tuple) (se_and (se_cmp (op_eqP hr.units) od_eq (nomark _) (se_callB call_len cd_len T.z_len bt_len (sa_cons (se_var 0) sa_nil)) (se_callB call_len cd_len T.z_len bt_len (sa_cons (se_var 1) sa_nil))) (se_one (se_cmp (op_eqP hr.units) od_eq (nomark _) (SO.sa (so_comp rfl sc12.nd (own := [("at", 2)]) (blkOk_by rfl) (by decide) (si_any (se_callTy cr_rangeA cd_range T.z_range bt_range (sa_cons (se_callB call_len cd_len T.z_len bt_len (sa_cons (se_var 1) sa_nil)) sa_nil))) (fun s H C cl fp => (sg_nm 2 sc12.nd)) (fun s H C cl fp => (sts_one (st_not (st_val (se_call D.d11 hr passL (sa_cons (se_ix (se_var 0) (se_var 2)) (sa_cons (se_ix (se_var 1) (se_var 2)) sa_nil))))))) (fun s H C cl fp => (se_var 2)))) (se_lst sa_nil)))))))
theorem ok13 (T : Top K mg) (D : Defs P w K mg base k cf) : DefAt P w K Γ0 mg base (k + 1) "_law_deepest" ["shape"] (runB 1 1 (b13 cf)) :=
  defAt T.f13 sc13 fun f cdv A outer s H E hr => (sss_one (ss_ret (se_if (st_val (se_isi .tup rfl (se_var 0) T.z_isinstance T.z_tuple bt_tuple)) (se_bin op_addA od_add se_int (se_callB (call_max2 rfl) cd_max2 T.z_max bt_max (sa_cons (se_call D.d13 hr passD (sa_cons (se_ix (se_var 0) se_int) sa_nil)) (sa_cons (se_call D.d13 hr passD (sa_cons (se_ix (se_var 0) se_int) sa_nil)) sa_nil)))) se_int)))
theorem ok14 (T : Top K mg) (D : Defs P w K mg base k cf) : DefAt P w K Γ0 mg base (k + 1) "_law_less" ["many", "deep"] (runB 2 3 (b14 cf)) :=
  defAt T.f14 sc14 fun f cdv A outer s H E hr => (sss_cons (ss_if (st_cmp (op_eqP hr.units) od_eq (nomark _) (se_var 0) se_int) (sss_one (ss_ret se_int)) sss_nil)
      (sss_one (ss_ret (se_if (st_cmp op_gt od_gt (nomark _) (se_var 1) se_int) (se_callB (cr_sum rfl) cd_sum T.z_sum bt_sum (sa_cons (SO.sa (so_comp rfl sc14.nd (own := [("left", 2)]) (blkOk_by rfl) (by decide) (si_any (se_callTy cr_rangeA cd_range T.z_range bt_range (sa_cons se_int (sa_cons (se_var 0) sa_nil)))) (fun s H C cl fp => (sg_nm 2 sc14.nd)) (fun s H C cl fp => sts_nil) (fun s H C cl fp => (se_bin op_mulA od_mul (se_call D.d14 hr passL (sa_cons (se_var 2) (sa_cons (se_bin op_sub od_sub (se_var 1) se_int) sa_nil))) (se_call D.d14 hr passL (sa_cons (se_bin op_sub od_sub (se_var 0) (se_var 2)) (sa_cons (se_bin op_sub od_sub (se_var 1) se_int) sa_nil))))))) sa_nil)) se_int))))
theorem ok15 (T : Top K mg) (D : Defs P w K mg base k cf) : DefAt P w K Γ0 mg base (k + 1) "law" ["script"] (runB 1 10 (b15 cf)) :=
  defAt T.f15 sc15 fun f cdv A outer s H E hr => (sss_cons (ss_set 1 sc15.nd (se_tup (sa_cons (se_call D.d4 hr passD (sa_cons se_int sa_nil)) (sa_cons (se_call D.d4 hr passD (sa_cons se_int sa_nil)) (sa_cons (se_callTy call_tuple_of cd_tuple T.z_tuple bt_tuple (sa_cons (SO.sa (so_comp rfl sc15.nd (own := [("deep", 2)]) (blkOk_by rfl) (by decide) (si_any (se_tup (sa_cons se_int (sa_cons se_int (sa_cons se_int (sa_cons se_int sa_nil)))))) (fun s H C cl fp => (sg_nm 2 sc15.nd)) (fun s H C cl fp => sts_nil) (fun s H C cl fp => (se_call D.d5 hr passL (sa_cons se_int (sa_cons (se_var 2) sa_nil)))))) sa_nil)) (sa_cons (se_call D.d5 hr passD (sa_cons se_int (sa_cons se_int sa_nil))) (sa_cons (se_call D.d5 hr passD (sa_cons se_int (sa_cons se_int sa_nil))) sa_nil)))))))
      (sss_cons (ss_if (st_not (st_val (se_call D.d8 hr passD (sa_cons (se_var 1) (sa_cons (se_tup (sa_cons (se_tup (sa_cons se_int sa_nil)) (sa_cons (se_tup (sa_cons (se_tup (sa_cons se_int (sa_cons (se_tup (sa_cons se_int (sa_cons se_int sa_nil))) sa_nil))) (sa_cons (se_tup (sa_cons (se_tup (sa_cons se_int (sa_cons se_int sa_nil))) (sa_cons se_int sa_nil))) sa_nil))) (sa_cons (se_tup (sa_cons se_int (sa_cons se_int (sa_cons se_int (sa_cons se_int sa_nil))))) (sa_cons se_int (sa_cons se_int sa_nil)))))) sa_nil))))) (sss_one (ss_ret se_bl)) sss_nil)
      (sss_cons (ss_if (st_cmp (op_neP hr.units) od_ne (nomark _) (se_lst (sa_cons (se_call D.d5 hr passD (sa_cons se_int (sa_cons se_int sa_nil))) (sa_cons (se_call D.d5 hr passD (sa_cons se_int (sa_cons se_int sa_nil))) (sa_cons (se_call D.d5 hr passD (sa_cons se_int (sa_cons se_int sa_nil))) (sa_cons (se_call D.d5 hr passD (sa_cons se_int (sa_cons se_int sa_nil))) (sa_cons (se_call D.d5 hr passD (sa_cons se_int (sa_cons se_int sa_nil))) sa_nil)))))) (se_lst (sa_cons se_int (sa_cons se_int (sa_cons se_int (sa_cons se_int (sa_cons se_int sa_nil))))))) (sss_one (ss_ret se_bl)) sss_nil)
      (sss_cons (ss_pre [3, 4, 5, 2, 6, 7] (ss_for ownD rfl (si_any (se_callTy cr_rangeA cd_range T.z_range bt_range (sa_cons se_int (sa_cons se_int sa_nil)))) (sg_nm 3 sc15.nd) (sss_post [3, 4, 5, 2, 6, 7] (sss_cons (ss_set 4 sc15.nd (se_call D.d9 hr passD (sa_cons (se_bin op_mulA od_mul (se_tup (sa_cons se_int sa_nil)) (se_var 3)) sa_nil)))
      (sss_cons (ss_if (st_not (st_val (se_call D.d12 hr passD (sa_cons (se_call D.d4 hr passD (sa_cons (se_var 3) sa_nil)) (sa_cons (se_var 4) sa_nil))))) (sss_one (ss_ret se_bl)) sss_nil)
      (sss_cons (ss_setS (slc 5 rfl sc15.nd (own := [("shape", 6)]) (blkOk_by rfl) (by decide) (si_any (se_var 4)) (fun s H C cl fp => (sg_nm 6 sc15.nd)) (fun s H C cl fp => sts_nil) (fun s H C cl fp => (se_call D.d13 hr passL (sa_cons (se_var 6) sa_nil))) (by rfl)))
      (sss_one (ss_for ownD rfl (si_any (se_callTy cr_rangeA cd_range T.z_range bt_range (sa_cons se_int sa_nil))) (sg_nm 2 sc15.nd) (sss_one (ss_if (st_not (st_val (se_call D.d8 hr passD (sa_cons (se_call D.d5 hr passD (sa_cons (se_var 3) (sa_cons (se_var 2) sa_nil))) (sa_cons (se_callB call_len cd_len T.z_len bt_len (sa_cons (SO.sa (so_comp rfl sc15.nd (own := [("own", 7)]) (blkOk_by rfl) (by decide) (si_any (se_var 5)) (fun s H C cl fp => (sg_nm 7 sc15.nd)) (fun s H C cl fp => (sts_one (st_cmp op_le od_le (nomark _) (se_var 7) (se_var 2)))) (fun s H C cl fp => (se_var 7)))) sa_nil)) sa_nil))))) (sss_one (ss_ret se_bl)) sss_nil))))))))))
      (sss_cons (ss_set 8 sc15.nd (se_call D.d6 hr passD (sa_cons (se_var 0) sa_nil)))
      (sss_cons (ss_pre [9, 3, 2] (ss_for ownD rfl (si_any (se_callTy cr_rangeA cd_range T.z_range bt_range (sa_cons se_int sa_nil))) (sg_nm 9 sc15.nd) (sss_post [9, 3, 2] (sss_cons (ss_asg (se_tup (sa_cons (se_bin op_addA od_add se_int (se_call D.d7 hr passD (sa_cons (se_var 8) (sa_cons se_int sa_nil)))) (sa_cons (se_call D.d7 hr passD (sa_cons (se_var 8) (sa_cons se_int sa_nil))) sa_nil))) (sg_tp rfl (sgs_cons (sg_nm 3 sc15.nd) (sgs_cons (sg_nm 2 sc15.nd) sgs_nil))))
      (sss_one (ss_if (st_not (st_val (se_call D.d8 hr passD (sa_cons (se_tup (sa_cons (se_call D.d5 hr passD (sa_cons (se_var 3) (sa_cons (se_var 2) sa_nil))) (sa_cons (se_call D.d5 hr passD (sa_cons (se_var 3) (sa_cons (se_var 3) sa_nil))) sa_nil))) (sa_cons (se_tup (sa_cons (se_call D.d14 hr passD (sa_cons (se_var 3) (sa_cons (se_var 2) sa_nil))) (sa_cons (se_call D.d2 hr passD (sa_cons (se_var 3) sa_nil)) sa_nil))) sa_nil))))) (sss_one (ss_ret se_bl)) sss_nil))))))
      (sss_one (ss_ret (se_cmp (op_eqP hr.units) od_eq (nomark _) (se_callB call_len cd_len T.z_len bt_len (sa_cons (se_call D.d4 hr passD (sa_cons se_int sa_nil)) sa_nil)) se_int)))))))))
theorem okRoll (hf : HasF K mg "_law_roll" s7 ["cup", "many"]) (zi : mg "int" = none) : DefAt P w K Γ0 mg base (k + 1) "_law_roll" ["cup", "many"] dRoll := by
  obtain ⟨f, fd, F, h1, h2⟩ := hf
  refine ⟨⟨f, fd, ?_, h1, F.kp, h2, Fun.lk F⟩, fun ds Q Px S h => ?_⟩
  · refine F.okX sc7 (fun vs H Q E h => ?_) (fun cdv A outer s H vs Q E hr h => ?_)
    · obtain ⟨ds, g, S, hl, r, _⟩ := h
      rw [r.length, hl]
    · obtain ⟨ds, g, S, hl, r, ok, wp⟩ := h
      unfold dRoll at wp
      split at wp
      · rename_i n
        obtain ⟨⟨hn, hn2⟩, wp⟩ := W_iteP wp
        obtain ⟨v, u, rfl, r1, r2⟩ := r.two
        simp only [Rep] at r1 r2
        obtain ⟨a, ha, rfl⟩ := r1
        subst r2
        obtain ⟨q0, q1, x, y, q2, q3, q4, q5⟩ := ok.cup a ha
        obtain ⟨wn, wp⟩ := wp
        have hS : ∀ x y : Int, SqL K (upd H a (.lst [.int x, .int y])) a [.int x, .int y] := fun x y => .inl (.inl upd_same)
        have hS0 : SqL K H a [.int x, .int y] := .inl (.inl q2)
        refine ⟨_, pss_cons (ps_if (pt_cmpR op_gt (pe_ix ix_list (pv 0) pe_int (fun _ _ => rfl)) pe_int (nomark _))
          (pss_cons (ps_set (i := 2) sc7.nd rfl (.inl rfl) (pe_op op_modN (pe_callTy call_int1 rfl zi bt_int (pa_cons (pe_ix ix_list (pv 0) pe_int (fun _ _ => rfl)) pa_nil)) (pv 1)))
            (pss_cons (ps_asg (pe_op op_fdivN (pe_ix ix_list (pv 0) pe_int (fun _ _ => rfl)) (pv 1)) (pg_sub (pv 0) pe_int set_list) rfl rfl rfl) (pss_one (ps_ret (pv 2))))) pss_nil)
          (pss_cons (ps_asg (pe_op op_modN (pe_callTy call_int1 rfl zi bt_int (pa_cons (pe_op op_add (pe_op op_mul (pe_ix ix_list (pv 0) pe_int (fun _ _ => rfl)) pe_int) pe_int) pa_nil)) pe_int) (pg_sub (pv 0) pe_int set_list) rfl rfl rfl)
          (pss_cons (ps_set (i := 3) sc7.nd rfl (.inl rfl) (pe_op op_modN (pe_callTy call_int1 rfl zi bt_int (pa_cons (pe_op op_mul (pe_ix ix_list (pv 0) pe_int (fun _ _ => rfl)) (pe_op op_add (pe_ix ix_list (pv 0) pe_int (fun _ _ => rfl)) pe_int)) pa_nil)) pe_int))
          (pss_one (ps_ret (pe_op op_modN (pe_callTy call_int1 rfl zi bt_int (pa_cons (pe_op op_fdivN (pv 3) pe_int) pa_nil)) (pv 1)))))), ?_⟩
        refine ⟨_, rfl, a, _, 0, _, rfl, rfl, hS0, atI_two0, _, _, rfl, rfl, _, rfl, ?_⟩
        refine ite2 (fun c => ?_) (fun c => ?_)
        · obtain ⟨ok1, e1⟩ := ok.updCup ha (x := x.fdiv n) (y := y) (Int.fdiv_nonneg q3 (by omega)) q4 q5
          refine ⟨_, rfl, a, _, 0, _, rfl, rfl, hS0, atI_two0, .inl ⟨x, rfl, _, rfl, _, _, rfl, rfl, by omega, ?_⟩⟩
          refine ⟨_, rfl, a, _, 0, _, rfl, rfl, hS0, atI_two0, _, rfl, _, _, rfl, rfl, ⟨by omega, by omega⟩, ?_⟩
          refine ⟨_, rfl, a, _, 0, 0, rfl, rfl, q2, rfl, ?_⟩
          exact ⟨_, rfl, roll_end hn e1 ok1 wp⟩
        · refine ⟨_, rfl, a, _, 1, _, rfl, rfl, hS0, atI_two1, _, _, rfl, rfl, .inl ⟨by omega, by omega⟩, _, _, rfl, rfl, .inl ⟨_, rfl, _, _, rfl, rfl, nz (by decide), ?_⟩⟩
          obtain ⟨ok1, e1⟩ := ok.updCup ha (x := x) (y := (y * 31427 + 8701).fmod 2147482951) q3 (fmod_range (by decide)).1 (Int.lt_trans (fmod_range (by decide)).2 (by decide))
          have hz := (fmod_range (i := y * 31427 + 8701) (n := 2147482951) (by decide))
          refine ⟨_, rfl, a, _, 1, 1, rfl, rfl, q2, rfl, ?_⟩
          refine ⟨_, rfl, a, _, 1, _, rfl, rfl, hS x _, atI_two1, _, rfl, a, _, 1, _, rfl, rfl, hS x _, atI_two1, _, _, rfl, rfl, _, _, rfl, rfl, .inl ⟨by omega, by omega⟩, .inl ⟨_, rfl, _, _, rfl, rfl, nz (by decide), ?_⟩⟩
          exact ⟨_, rfl, _, _, rfl, rfl, ⟨nz (by decide), by decide⟩, .inl ⟨_, rfl, _, rfl, _, _, rfl, rfl, by omega, roll_end hn e1 ok1 wp⟩⟩
      · exact wp.elim
  · unfold dRoll at h
    split at h
    · rfl
    · exact h.elim
theorem okCup (hf : HasF K mg "_law_cup" s6 ["script"]) (zi : mg "int" = none) (za : mg "abs" = none) (zl : mg "list" = none) : DefAt P w K Γ0 mg base (k + 1) "_law_cup" ["script"] dCup := by
  obtain ⟨f, fd, F, h1, h2⟩ := hf
  refine ⟨⟨f, fd, ?_, h1, F.kp, h2, Fun.lk F⟩, fun ds Q Px S h => ?_⟩
  · refine F.okX sc6 (fun vs H Q E h => ?_) (fun cdv A outer s H vs Q E hr h => ?_)
    · obtain ⟨ds, g, S, hl, r, _⟩ := h
      rw [r.length, hl]
    · obtain ⟨ds, g, S, hl, r, ok, wp⟩ := h
      unfold dCup at wp
      split at wp
      · obtain ⟨v, rfl, r1⟩ := r.one
        simp only [Rep] at r1
        obtain ⟨a, ns, rfl, hns, r1⟩ := r1
        refine ⟨_, pss_cons (ps_set (i := 1) sc6.nd rfl (.inl rfl) (pe_callB call_abs rfl za bt_abs (pa_cons (pe_ix ix_list (pe_op op_cat (pe_callTy call_list_of rfl zl bt_list (pa_cons (pv 0) pa_nil)) (pe_lst (pa_cons pe_int pa_nil))) pe_int (fun _ _ => rfl)) pa_nil)))
          (pss_one (ps_ret (pe_lst (pa_cons (pe_ifExp (pt_cmpR op_ge (pv 1) (pe_op op_pow pe_int pe_int) (nomark _)) (pe_op op_fdivN (pv 1) pe_int) pe_int)
            (pa_cons (pe_op op_add (pe_op op_modN (pe_callTy call_int1 rfl zi bt_int (pa_cons (pe_op op_add (pe_op op_mul (pv 1) pe_int) pe_int) pa_nil)) pe_int) pe_int) pa_nil))))), ?_⟩
        have hlen : (ns.map V.int).length + ([V.int 0] : List V).length ≤ sizeLine := by
          rw [List.length_map, List.length_singleton]
          exact Nat.le_of_lt (small1000 (by omega))
        refine ⟨_, rfl, a, _, rfl, .inl r1.seq, fun l hl => ⟨(by show 1 ≤ sizeLine; decide), fun l2 hl2 => ?_⟩⟩
        have n1 : l ≠ l2 := ne_of_none upd_same hl2
        refine ⟨l, l2, _, _, rfl, rfl, by rw [upd_ne n1, upd_same], upd_same, hlen, fun p hp => ?_⟩
        have hx : ∃ x : Int, L2.atI (ns.map V.int ++ [V.int 0]) 0 = some (V.int x) := by
          cases ns with
          | nil => exact ⟨0, rfl⟩
          | cons x r => exact ⟨x, L2.atI_nat (j := 0) (by simp)⟩
        obtain ⟨x, hx⟩ := hx
        refine ⟨p, _, 0, _, rfl, rfl, .inl (.inl upd_same), hx, ?_⟩
        refine ⟨x, rfl, ?_⟩
        have hc : 0 ≤ (if x < 0 then -x else x) := by split <;> omega
        revert hc
        generalize (if x < 0 then -x else x) = c
        intro hc
        have hf := fmod_range (i := c * 637 + 5041) (n := 2077502087) (by decide)
        refine ⟨_, rfl, _, _, rfl, rfl, ⟨by decide, by decide, by decide⟩, _, _, rfl, rfl, _, rfl, ?_⟩
        have ok1 := ((ok.new (o := .lst (ns.map V.int)) hl).new (o := .lst [V.int 0]) hl2).new (o := .lst (ns.map V.int ++ [V.int 0])) hp
        have e1 : Ext g H g (upd (upd (upd H l (.lst (ns.map V.int))) l2 (.lst [V.int 0])) p (.lst (ns.map V.int ++ [V.int 0]))) := ((Ext.new hl).trans (Ext.new hl2)).trans (Ext.new hp)
        have fin : ∀ x0 : Int, 0 ≤ x0 → ∀ q, upd (upd (upd H l (.lst (ns.map V.int))) l2 (.lst [V.int 0])) p (.lst (ns.map V.int ++ [V.int 0])) q = none →
            Q (.ref q) (upd (upd (upd (upd H l (.lst (ns.map V.int))) l2 (.lst [V.int 0])) p (.lst (ns.map V.int ++ [V.int 0]))) q (.lst [.int x0, .int ((c * 637 + 5041).fmod 2077502087 + 313)])) := fun x0 h0 q hq => by
          obtain ⟨e2, ok2⟩ := newCup ok1 (x := x0) (y := (c * 637 + 5041).fmod 2077502087 + 313) hq h0 (by omega) (by omega)
          exact wp _ _ _ (e1.trans e2) ok2 (by simp only [Rep]; exact ⟨q, .inr rfl, rfl⟩)
        refine ite2 (fun _ => ?_) (fun _ => ?_)
        · refine ⟨_, rfl, _, _, rfl, rfl, ⟨nz (by decide), by decide⟩, ?_⟩
          refine ⟨_, rfl, _, _, rfl, rfl, .inr ⟨by decide, by decide⟩, _, _, rfl, rfl, .inl ⟨_, rfl, _, _, rfl, rfl, nz (by decide), _, _, rfl, rfl, by show 2 ≤ sizeLine; decide, ?_⟩⟩
          exact fin _ (Int.fdiv_nonneg hc (by decide))
        · refine ⟨_, rfl, _, _, rfl, rfl, .inr ⟨by decide, by decide⟩, _, _, rfl, rfl, .inl ⟨_, rfl, _, _, rfl, rfl, nz (by decide), _, _, rfl, rfl, by show 2 ≤ sizeLine; decide, ?_⟩⟩
          exact fin _ (Int.le_refl 0)
      · exact wp.elim
  · unfold dCup at h
    split at h
    · rfl
    · exact h.elim

theorem defs (T : Top K mg) : ∀ k, Defs P w K mg base k (cfN k)
  | 0 => ⟨defBad T.f0, defBad T.f1, defBad T.f2, defBad T.f3, defBad T.f4, defBad T.f5, defBad T.f6, defBad T.f7, defBad T.f8, defBad T.f9, defBad T.f10, defBad T.f11, defBad T.f12, defBad T.f13, defBad T.f14, defBad T.f15⟩
  | k + 1 => ⟨ok0 T (defs T k), ok1 T (defs T k), ok2 T (defs T k), ok3 T (defs T k), ok4 T (defs T k), ok5 T (defs T k), okCup T.f6 T.z_int T.z_abs T.z_list, okRoll T.f7 T.z_int, ok8 T (defs T k), ok9 T (defs T k), ok10 T (defs T k), ok11 T (defs T k), ok12 T (defs T k), ok13 T (defs T k), ok14 T (defs T k), ok15 T (defs T k)⟩
end
theorem top_mk {K : PySem.W.Frag} {h : Heap} {mg : Str → Option Value} {f0 f1 f2 f3 f4 f5 f6 f7 f8 f9 f10 f11 f12 f13 f14 f15 : Addr} (X : K.In h) (G : h.Ns mainGlobals mg)
    {od0 an0 od1 an1 od2 an2 od3 an3 od4 an4 od5 an5 od6 an6 od7 an7 od8 an8 od9 an9 od10 an10 od11 an11 od12 an12 od13 an13 od14 an14 od15 an15 : Option Addr} {sl0 sl1 sl2 sl3 sl4 sl5 sl6 sl7 sl8 sl9 sl10 sl11 sl12 sl13 sl14 sl15 : Array (Option Value)} {oc0 kV0 dc0 pm0 cd0 ct0 oc1 kV1 dc1 pm1 cd1 ct1 oc2 kV2 dc2 pm2 cd2 ct2 oc3 kV3 dc3 pm3 cd3 ct3 oc4 kV4 dc4 pm4 cd4 ct4 oc5 kV5 dc5 pm5 cd5 ct5 oc6 kV6 dc6 pm6 cd6 ct6 oc7 kV7 dc7 pm7 cd7 ct7 oc8 kV8 dc8 pm8 cd8 ct8 oc9 kV9 dc9 pm9 cd9 ct9 oc10 kV10 dc10 pm10 cd10 ct10 oc11 kV11 dc11 pm11 cd11 ct11 oc12 kV12 dc12 pm12 cd12 ct12 oc13 kV13 dc13 pm13 cd13 ct13 oc14 kV14 dc14 pm14 cd14 ct14 oc15 kV15 dc15 pm15 cd15 ct15 : Value} {t_GROUPED t_LONG : Tok}
    (a0 : PySem.W.nsIn K mainGlobals "fits_whole" = some (some (.ref f0))) (l0 : K.lookup f0 = some ⟨oc0, od0, .func (PySem.W.fnOf "fits_whole" "fits_whole" (defArgs s0) (defBody s0) (defScope s0) .none kV0 dc0 pm0 an0 cd0 ct0), sl0⟩) (c0 : PySem.W.codeIn K cd0 "fits_whole" = true) (k0 : PySem.W.keepIn K (.ref f0) = true)
    (a1 : PySem.W.nsIn K mainGlobals "groupings_in" = some (some (.ref f1))) (l1 : K.lookup f1 = some ⟨oc1, od1, .func (PySem.W.fnOf "groupings_in" "groupings_in" (defArgs s1) (defBody s1) (defScope s1) .none kV1 dc1 pm1 an1 cd1 ct1), sl1⟩) (c1 : PySem.W.codeIn K cd1 "groupings_in" = true) (k1 : PySem.W.keepIn K (.ref f1) = true)
    (a2 : PySem.W.nsIn K mainGlobals "groupings_many" = some (some (.ref f2))) (l2 : K.lookup f2 = some ⟨oc2, od2, .func (PySem.W.fnOf "groupings_many" "groupings_many" (defArgs s2) (defBody s2) (defScope s2) .none kV2 dc2 pm2 an2 cd2 ct2), sl2⟩) (c2 : PySem.W.codeIn K cd2 "groupings_many" = true) (k2 : PySem.W.keepIn K (.ref f2) = true)
    (a3 : PySem.W.nsIn K mainGlobals "within_in" = some (some (.ref f3))) (l3 : K.lookup f3 = some ⟨oc3, od3, .func (PySem.W.fnOf "within_in" "within_in" (defArgs s3) (defBody s3) (defScope s3) .none kV3 dc3 pm3 an3 cd3 ct3), sl3⟩) (c3 : PySem.W.codeIn K cd3 "within_in" = true) (k3 : PySem.W.keepIn K (.ref f3) = true)
    (a4 : PySem.W.nsIn K mainGlobals "all_shapes" = some (some (.ref f4))) (l4 : K.lookup f4 = some ⟨oc4, od4, .func (PySem.W.fnOf "all_shapes" "all_shapes" (defArgs s4) (defBody s4) (defScope s4) .none kV4 dc4 pm4 an4 cd4 ct4), sl4⟩) (c4 : PySem.W.codeIn K cd4 "all_shapes" = true) (k4 : PySem.W.keepIn K (.ref f4) = true)
    (a5 : PySem.W.nsIn K mainGlobals "shapes_within" = some (some (.ref f5))) (l5 : K.lookup f5 = some ⟨oc5, od5, .func (PySem.W.fnOf "shapes_within" "shapes_within" (defArgs s5) (defBody s5) (defScope s5) .none kV5 dc5 pm5 an5 cd5 ct5), sl5⟩) (c5 : PySem.W.codeIn K cd5 "shapes_within" = true) (k5 : PySem.W.keepIn K (.ref f5) = true)
    (a6 : PySem.W.nsIn K mainGlobals "_law_cup" = some (some (.ref f6))) (l6 : K.lookup f6 = some ⟨oc6, od6, .func (PySem.W.fnOf "_law_cup" "_law_cup" (defArgs s6) (defBody s6) (defScope s6) .none kV6 dc6 pm6 an6 cd6 ct6), sl6⟩) (c6 : PySem.W.codeIn K cd6 "_law_cup" = true) (k6 : PySem.W.keepIn K (.ref f6) = true)
    (a7 : PySem.W.nsIn K mainGlobals "_law_roll" = some (some (.ref f7))) (l7 : K.lookup f7 = some ⟨oc7, od7, .func (PySem.W.fnOf "_law_roll" "_law_roll" (defArgs s7) (defBody s7) (defScope s7) .none kV7 dc7 pm7 an7 cd7 ct7), sl7⟩) (c7 : PySem.W.codeIn K cd7 "_law_roll" = true) (k7 : PySem.W.keepIn K (.ref f7) = true)
    (a8 : PySem.W.nsIn K mainGlobals "_law_same" = some (some (.ref f8))) (l8 : K.lookup f8 = some ⟨oc8, od8, .func (PySem.W.fnOf "_law_same" "_law_same" (defArgs s8) (defBody s8) (defScope s8) .none kV8 dc8 pm8 an8 cd8 ct8), sl8⟩) (c8 : PySem.W.codeIn K cd8 "_law_same" = true) (k8 : PySem.W.keepIn K (.ref f8) = true)
    (a9 : PySem.W.nsIn K mainGlobals "_law_groups" = some (some (.ref f9))) (l9 : K.lookup f9 = some ⟨oc9, od9, .func (PySem.W.fnOf "_law_groups" "_law_groups" (defArgs s9) (defBody s9) (defScope s9) .none kV9 dc9 pm9 an9 cd9 ct9), sl9⟩) (c9 : PySem.W.codeIn K cd9 "_law_groups" = true) (k9 : PySem.W.keepIn K (.ref f9) = true)
    (a10 : PySem.W.nsIn K mainGlobals "_law_size" = some (some (.ref f10))) (l10 : K.lookup f10 = some ⟨oc10, od10, .func (PySem.W.fnOf "_law_size" "_law_size" (defArgs s10) (defBody s10) (defScope s10) .none kV10 dc10 pm10 an10 cd10 ct10), sl10⟩) (c10 : PySem.W.codeIn K cd10 "_law_size" = true) (k10 : PySem.W.keepIn K (.ref f10) = true)
    (a11 : PySem.W.nsIn K mainGlobals "_law_like" = some (some (.ref f11))) (l11 : K.lookup f11 = some ⟨oc11, od11, .func (PySem.W.fnOf "_law_like" "_law_like" (defArgs s11) (defBody s11) (defScope s11) .none kV11 dc11 pm11 an11 cd11 ct11), sl11⟩) (c11 : PySem.W.codeIn K cd11 "_law_like" = true) (k11 : PySem.W.keepIn K (.ref f11) = true)
    (a12 : PySem.W.nsIn K mainGlobals "_law_all_like" = some (some (.ref f12))) (l12 : K.lookup f12 = some ⟨oc12, od12, .func (PySem.W.fnOf "_law_all_like" "_law_all_like" (defArgs s12) (defBody s12) (defScope s12) .none kV12 dc12 pm12 an12 cd12 ct12), sl12⟩) (c12 : PySem.W.codeIn K cd12 "_law_all_like" = true) (k12 : PySem.W.keepIn K (.ref f12) = true)
    (a13 : PySem.W.nsIn K mainGlobals "_law_deepest" = some (some (.ref f13))) (l13 : K.lookup f13 = some ⟨oc13, od13, .func (PySem.W.fnOf "_law_deepest" "_law_deepest" (defArgs s13) (defBody s13) (defScope s13) .none kV13 dc13 pm13 an13 cd13 ct13), sl13⟩) (c13 : PySem.W.codeIn K cd13 "_law_deepest" = true) (k13 : PySem.W.keepIn K (.ref f13) = true)
    (a14 : PySem.W.nsIn K mainGlobals "_law_less" = some (some (.ref f14))) (l14 : K.lookup f14 = some ⟨oc14, od14, .func (PySem.W.fnOf "_law_less" "_law_less" (defArgs s14) (defBody s14) (defScope s14) .none kV14 dc14 pm14 an14 cd14 ct14), sl14⟩) (c14 : PySem.W.codeIn K cd14 "_law_less" = true) (k14 : PySem.W.keepIn K (.ref f14) = true)
    (a15 : PySem.W.nsIn K mainGlobals "law" = some (some (.ref f15))) (l15 : K.lookup f15 = some ⟨oc15, od15, .func (PySem.W.fnOf "law" "law" (defArgs s15) (defBody s15) (defScope s15) .none kV15 dc15 pm15 an15 cd15 ct15), sl15⟩) (c15 : PySem.W.codeIn K cd15 "law" = true) (k15 : PySem.W.keepIn K (.ref f15) = true)
    (z_abs : PySem.W.nsIn K mainGlobals "abs" = some none)
    (z_all : PySem.W.nsIn K mainGlobals "all" = some none)
    (z_bool : PySem.W.nsIn K mainGlobals "bool" = some none)
    (z_int : PySem.W.nsIn K mainGlobals "int" = some none)
    (z_isinstance : PySem.W.nsIn K mainGlobals "isinstance" = some none)
    (z_len : PySem.W.nsIn K mainGlobals "len" = some none)
    (z_list : PySem.W.nsIn K mainGlobals "list" = some none)
    (z_max : PySem.W.nsIn K mainGlobals "max" = some none)
    (z_range : PySem.W.nsIn K mainGlobals "range" = some none)
    (z_str : PySem.W.nsIn K mainGlobals "str" = some none)
    (z_sum : PySem.W.nsIn K mainGlobals "sum" = some none)
    (z_tuple : PySem.W.nsIn K mainGlobals "tuple" = some none)
    (g_GROUPED : PySem.W.nsIn K mainGlobals "GROUPED" = some (some (.int 7 t_GROUPED)))
    (g_LONG : PySem.W.nsIn K mainGlobals "LONG" = some (some (.int 10 t_LONG)))
    : Top K mg := by
  have F0 := fun_mk (st := s0) l0 c0 k0
  have B0 := F0.binds (ps := ["value", "low", "high"]) fun _ _ _ _ _ _ us hl => match us, hl with | [_, _, _], _ => rfl
  have F1 := fun_mk (st := s1) l1 c1 k1
  have B1 := F1.binds (ps := ["row"]) fun _ _ _ _ _ _ us hl => match us, hl with | [_], _ => rfl
  have F2 := fun_mk (st := s2) l2 c2 k2
  have B2 := F2.binds (ps := ["many"]) fun _ _ _ _ _ _ us hl => match us, hl with | [_], _ => rfl
  have F3 := fun_mk (st := s3) l3 c3 k3
  have B3 := F3.binds (ps := ["many", "deep"]) fun _ _ _ _ _ _ us hl => match us, hl with | [_, _], _ => rfl
  have F4 := fun_mk (st := s4) l4 c4 k4
  have B4 := F4.binds (ps := ["many"]) fun _ _ _ _ _ _ us hl => match us, hl with | [_], _ => rfl
  have F5 := fun_mk (st := s5) l5 c5 k5
  have B5 := F5.binds (ps := ["many", "deep"]) fun _ _ _ _ _ _ us hl => match us, hl with | [_, _], _ => rfl
  have F6 := fun_mk (st := s6) l6 c6 k6
  have B6 := F6.binds (ps := ["script"]) fun _ _ _ _ _ _ us hl => match us, hl with | [_], _ => rfl
  have F7 := fun_mk (st := s7) l7 c7 k7
  have B7 := F7.binds (ps := ["cup", "many"]) fun _ _ _ _ _ _ us hl => match us, hl with | [_, _], _ => rfl
  have F8 := fun_mk (st := s8) l8 c8 k8
  have B8 := F8.binds (ps := ["told", "due"]) fun _ _ _ _ _ _ us hl => match us, hl with | [_, _], _ => rfl
  have F9 := fun_mk (st := s9) l9 c9 k9
  have B9 := F9.binds (ps := ["row"]) fun _ _ _ _ _ _ us hl => match us, hl with | [_], _ => rfl
  have F10 := fun_mk (st := s10) l10 c10 k10
  have B10 := F10.binds (ps := ["shape"]) fun _ _ _ _ _ _ us hl => match us, hl with | [_], _ => rfl
  have F11 := fun_mk (st := s11) l11 c11 k11
  have B11 := F11.binds (ps := ["told", "due"]) fun _ _ _ _ _ _ us hl => match us, hl with | [_, _], _ => rfl
  have F12 := fun_mk (st := s12) l12 c12 k12
  have B12 := F12.binds (ps := ["told", "due"]) fun _ _ _ _ _ _ us hl => match us, hl with | [_, _], _ => rfl
  have F13 := fun_mk (st := s13) l13 c13 k13
  have B13 := F13.binds (ps := ["shape"]) fun _ _ _ _ _ _ us hl => match us, hl with | [_], _ => rfl
  have F14 := fun_mk (st := s14) l14 c14 k14
  have B14 := F14.binds (ps := ["many", "deep"]) fun _ _ _ _ _ _ us hl => match us, hl with | [_, _], _ => rfl
  have F15 := fun_mk (st := s15) l15 c15 k15
  have B15 := F15.binds (ps := ["script"]) fun _ _ _ _ _ _ us hl => match us, hl with | [_], _ => rfl
  exact ⟨⟨_, _, F0, PySem.W.mg_of X G a0, B0⟩, ⟨_, _, F1, PySem.W.mg_of X G a1, B1⟩, ⟨_, _, F2, PySem.W.mg_of X G a2, B2⟩, ⟨_, _, F3, PySem.W.mg_of X G a3, B3⟩, ⟨_, _, F4, PySem.W.mg_of X G a4, B4⟩, ⟨_, _, F5, PySem.W.mg_of X G a5, B5⟩, ⟨_, _, F6, PySem.W.mg_of X G a6, B6⟩, ⟨_, _, F7, PySem.W.mg_of X G a7, B7⟩, ⟨_, _, F8, PySem.W.mg_of X G a8, B8⟩, ⟨_, _, F9, PySem.W.mg_of X G a9, B9⟩, ⟨_, _, F10, PySem.W.mg_of X G a10, B10⟩, ⟨_, _, F11, PySem.W.mg_of X G a11, B11⟩, ⟨_, _, F12, PySem.W.mg_of X G a12, B12⟩, ⟨_, _, F13, PySem.W.mg_of X G a13, B13⟩, ⟨_, _, F14, PySem.W.mg_of X G a14, B14⟩, ⟨_, _, F15, PySem.W.mg_of X G a15, B15⟩, PySem.W.mg_none_of X G z_abs, PySem.W.mg_none_of X G z_all, PySem.W.mg_none_of X G z_bool, PySem.W.mg_none_of X G z_int, PySem.W.mg_none_of X G z_isinstance, PySem.W.mg_none_of X G z_len, PySem.W.mg_none_of X G z_list, PySem.W.mg_none_of X G z_max, PySem.W.mg_none_of X G z_range, PySem.W.mg_none_of X G z_str, PySem.W.mg_none_of X G z_sum, PySem.W.mg_none_of X G z_tuple, ⟨_, PySem.W.mg_of X G g_GROUPED⟩, ⟨_, PySem.W.mg_of X G g_LONG⟩⟩
@[irreducible] def lawC : List D → T D := cfN 61 15
theorem lawC_def {P : Program} {w : World} {K : PySem.W.Frag} {mg : Str → Option Value} (T : Top K mg) (base : Heap) : DefAt P w K Γ0 mg base 61 "law" ["script"] lawC := by
  unfold lawC
  exact (defs T 61).d15
theorem all_mk {P : Program} {w : World} {K : PySem.W.Frag} {h : Heap} {mg : Str → Option Value} {fa f0 f1 f2 f3 f4 f5 f6 f7 f8 f9 f10 f11 f12 f13 f14 f15 : Addr} (X : K.In h) (G : h.Ns mainGlobals mg) (hmg : mg "law" = some (.ref fa))
    {od0 an0 od1 an1 od2 an2 od3 an3 od4 an4 od5 an5 od6 an6 od7 an7 od8 an8 od9 an9 od10 an10 od11 an11 od12 an12 od13 an13 od14 an14 od15 an15 : Option Addr} {sl0 sl1 sl2 sl3 sl4 sl5 sl6 sl7 sl8 sl9 sl10 sl11 sl12 sl13 sl14 sl15 : Array (Option Value)} {oc0 kV0 dc0 pm0 cd0 ct0 oc1 kV1 dc1 pm1 cd1 ct1 oc2 kV2 dc2 pm2 cd2 ct2 oc3 kV3 dc3 pm3 cd3 ct3 oc4 kV4 dc4 pm4 cd4 ct4 oc5 kV5 dc5 pm5 cd5 ct5 oc6 kV6 dc6 pm6 cd6 ct6 oc7 kV7 dc7 pm7 cd7 ct7 oc8 kV8 dc8 pm8 cd8 ct8 oc9 kV9 dc9 pm9 cd9 ct9 oc10 kV10 dc10 pm10 cd10 ct10 oc11 kV11 dc11 pm11 cd11 ct11 oc12 kV12 dc12 pm12 cd12 ct12 oc13 kV13 dc13 pm13 cd13 ct13 oc14 kV14 dc14 pm14 cd14 ct14 oc15 kV15 dc15 pm15 cd15 ct15 : Value} {t_GROUPED t_LONG : Tok}
    (a0 : PySem.W.nsIn K mainGlobals "fits_whole" = some (some (.ref f0))) (l0 : K.lookup f0 = some ⟨oc0, od0, .func (PySem.W.fnOf "fits_whole" "fits_whole" (defArgs s0) (defBody s0) (defScope s0) .none kV0 dc0 pm0 an0 cd0 ct0), sl0⟩) (c0 : PySem.W.codeIn K cd0 "fits_whole" = true) (k0 : PySem.W.keepIn K (.ref f0) = true)
    (a1 : PySem.W.nsIn K mainGlobals "groupings_in" = some (some (.ref f1))) (l1 : K.lookup f1 = some ⟨oc1, od1, .func (PySem.W.fnOf "groupings_in" "groupings_in" (defArgs s1) (defBody s1) (defScope s1) .none kV1 dc1 pm1 an1 cd1 ct1), sl1⟩) (c1 : PySem.W.codeIn K cd1 "groupings_in" = true) (k1 : PySem.W.keepIn K (.ref f1) = true)
    (a2 : PySem.W.nsIn K mainGlobals "groupings_many" = some (some (.ref f2))) (l2 : K.lookup f2 = some ⟨oc2, od2, .func (PySem.W.fnOf "groupings_many" "groupings_many" (defArgs s2) (defBody s2) (defScope s2) .none kV2 dc2 pm2 an2 cd2 ct2), sl2⟩) (c2 : PySem.W.codeIn K cd2 "groupings_many" = true) (k2 : PySem.W.keepIn K (.ref f2) = true)
    (a3 : PySem.W.nsIn K mainGlobals "within_in" = some (some (.ref f3))) (l3 : K.lookup f3 = some ⟨oc3, od3, .func (PySem.W.fnOf "within_in" "within_in" (defArgs s3) (defBody s3) (defScope s3) .none kV3 dc3 pm3 an3 cd3 ct3), sl3⟩) (c3 : PySem.W.codeIn K cd3 "within_in" = true) (k3 : PySem.W.keepIn K (.ref f3) = true)
    (a4 : PySem.W.nsIn K mainGlobals "all_shapes" = some (some (.ref f4))) (l4 : K.lookup f4 = some ⟨oc4, od4, .func (PySem.W.fnOf "all_shapes" "all_shapes" (defArgs s4) (defBody s4) (defScope s4) .none kV4 dc4 pm4 an4 cd4 ct4), sl4⟩) (c4 : PySem.W.codeIn K cd4 "all_shapes" = true) (k4 : PySem.W.keepIn K (.ref f4) = true)
    (a5 : PySem.W.nsIn K mainGlobals "shapes_within" = some (some (.ref f5))) (l5 : K.lookup f5 = some ⟨oc5, od5, .func (PySem.W.fnOf "shapes_within" "shapes_within" (defArgs s5) (defBody s5) (defScope s5) .none kV5 dc5 pm5 an5 cd5 ct5), sl5⟩) (c5 : PySem.W.codeIn K cd5 "shapes_within" = true) (k5 : PySem.W.keepIn K (.ref f5) = true)
    (a6 : PySem.W.nsIn K mainGlobals "_law_cup" = some (some (.ref f6))) (l6 : K.lookup f6 = some ⟨oc6, od6, .func (PySem.W.fnOf "_law_cup" "_law_cup" (defArgs s6) (defBody s6) (defScope s6) .none kV6 dc6 pm6 an6 cd6 ct6), sl6⟩) (c6 : PySem.W.codeIn K cd6 "_law_cup" = true) (k6 : PySem.W.keepIn K (.ref f6) = true)
    (a7 : PySem.W.nsIn K mainGlobals "_law_roll" = some (some (.ref f7))) (l7 : K.lookup f7 = some ⟨oc7, od7, .func (PySem.W.fnOf "_law_roll" "_law_roll" (defArgs s7) (defBody s7) (defScope s7) .none kV7 dc7 pm7 an7 cd7 ct7), sl7⟩) (c7 : PySem.W.codeIn K cd7 "_law_roll" = true) (k7 : PySem.W.keepIn K (.ref f7) = true)
    (a8 : PySem.W.nsIn K mainGlobals "_law_same" = some (some (.ref f8))) (l8 : K.lookup f8 = some ⟨oc8, od8, .func (PySem.W.fnOf "_law_same" "_law_same" (defArgs s8) (defBody s8) (defScope s8) .none kV8 dc8 pm8 an8 cd8 ct8), sl8⟩) (c8 : PySem.W.codeIn K cd8 "_law_same" = true) (k8 : PySem.W.keepIn K (.ref f8) = true)
    (a9 : PySem.W.nsIn K mainGlobals "_law_groups" = some (some (.ref f9))) (l9 : K.lookup f9 = some ⟨oc9, od9, .func (PySem.W.fnOf "_law_groups" "_law_groups" (defArgs s9) (defBody s9) (defScope s9) .none kV9 dc9 pm9 an9 cd9 ct9), sl9⟩) (c9 : PySem.W.codeIn K cd9 "_law_groups" = true) (k9 : PySem.W.keepIn K (.ref f9) = true)
    (a10 : PySem.W.nsIn K mainGlobals "_law_size" = some (some (.ref f10))) (l10 : K.lookup f10 = some ⟨oc10, od10, .func (PySem.W.fnOf "_law_size" "_law_size" (defArgs s10) (defBody s10) (defScope s10) .none kV10 dc10 pm10 an10 cd10 ct10), sl10⟩) (c10 : PySem.W.codeIn K cd10 "_law_size" = true) (k10 : PySem.W.keepIn K (.ref f10) = true)
    (a11 : PySem.W.nsIn K mainGlobals "_law_like" = some (some (.ref f11))) (l11 : K.lookup f11 = some ⟨oc11, od11, .func (PySem.W.fnOf "_law_like" "_law_like" (defArgs s11) (defBody s11) (defScope s11) .none kV11 dc11 pm11 an11 cd11 ct11), sl11⟩) (c11 : PySem.W.codeIn K cd11 "_law_like" = true) (k11 : PySem.W.keepIn K (.ref f11) = true)
    (a12 : PySem.W.nsIn K mainGlobals "_law_all_like" = some (some (.ref f12))) (l12 : K.lookup f12 = some ⟨oc12, od12, .func (PySem.W.fnOf "_law_all_like" "_law_all_like" (defArgs s12) (defBody s12) (defScope s12) .none kV12 dc12 pm12 an12 cd12 ct12), sl12⟩) (c12 : PySem.W.codeIn K cd12 "_law_all_like" = true) (k12 : PySem.W.keepIn K (.ref f12) = true)
    (a13 : PySem.W.nsIn K mainGlobals "_law_deepest" = some (some (.ref f13))) (l13 : K.lookup f13 = some ⟨oc13, od13, .func (PySem.W.fnOf "_law_deepest" "_law_deepest" (defArgs s13) (defBody s13) (defScope s13) .none kV13 dc13 pm13 an13 cd13 ct13), sl13⟩) (c13 : PySem.W.codeIn K cd13 "_law_deepest" = true) (k13 : PySem.W.keepIn K (.ref f13) = true)
    (a14 : PySem.W.nsIn K mainGlobals "_law_less" = some (some (.ref f14))) (l14 : K.lookup f14 = some ⟨oc14, od14, .func (PySem.W.fnOf "_law_less" "_law_less" (defArgs s14) (defBody s14) (defScope s14) .none kV14 dc14 pm14 an14 cd14 ct14), sl14⟩) (c14 : PySem.W.codeIn K cd14 "_law_less" = true) (k14 : PySem.W.keepIn K (.ref f14) = true)
    (a15 : PySem.W.nsIn K mainGlobals "law" = some (some (.ref f15))) (l15 : K.lookup f15 = some ⟨oc15, od15, .func (PySem.W.fnOf "law" "law" (defArgs s15) (defBody s15) (defScope s15) .none kV15 dc15 pm15 an15 cd15 ct15), sl15⟩) (c15 : PySem.W.codeIn K cd15 "law" = true) (k15 : PySem.W.keepIn K (.ref f15) = true)
    (z_abs : PySem.W.nsIn K mainGlobals "abs" = some none)
    (z_all : PySem.W.nsIn K mainGlobals "all" = some none)
    (z_bool : PySem.W.nsIn K mainGlobals "bool" = some none)
    (z_int : PySem.W.nsIn K mainGlobals "int" = some none)
    (z_isinstance : PySem.W.nsIn K mainGlobals "isinstance" = some none)
    (z_len : PySem.W.nsIn K mainGlobals "len" = some none)
    (z_list : PySem.W.nsIn K mainGlobals "list" = some none)
    (z_max : PySem.W.nsIn K mainGlobals "max" = some none)
    (z_range : PySem.W.nsIn K mainGlobals "range" = some none)
    (z_str : PySem.W.nsIn K mainGlobals "str" = some none)
    (z_sum : PySem.W.nsIn K mainGlobals "sum" = some none)
    (z_tuple : PySem.W.nsIn K mainGlobals "tuple" = some none)
    (g_GROUPED : PySem.W.nsIn K mainGlobals "GROUPED" = some (some (.int 7 t_GROUPED)))
    (g_LONG : PySem.W.nsIn K mainGlobals "LONG" = some (some (.int 10 t_LONG)))
    : ∃ fd : FuncData, (∀ (s : Shared) (u : Value), BindsTo s fd ⟨[u], []⟩ [("script", u)]) ∧ ∀ base : Heap, K.In base → base.Ns mainGlobals mg → FnOk P w K mg base (L2.CX P w) 61 fa fd ["script"] (spD K Γ0 1 lawC) :=
  have T := top_mk X G a0 l0 c0 k0 a1 l1 c1 k1 a2 l2 c2 k2 a3 l3 c3 k3 a4 l4 c4 k4 a5 l5 c5 k5 a6 l6 c6 k6 a7 l7 c7 k7 a8 l8 c8 k8 a9 l9 c9 k9 a10 l10 c10 k10 a11 l11 c11 k11 a12 l12 c12 k12 a13 l13 c13 k13 a14 l14 c14 k14 a15 l15 c15 k15 z_abs z_all z_bool z_int z_isinstance z_len z_list z_max z_range z_str z_sum z_tuple g_GROUPED g_LONG
  law_fn (st := s15) T.f15 hmg (fun _ _ _ _ _ _ _ _ => .of_eq rfl) (fun base => lawC_def T base)
end KT
namespace KT
open PySem PySem.Spec PyProof.Rows L2 RZ
abbrev cf0 : Nat → List D → T D := cfN 60
def σ0 : Slots := startD 10 [.scr]
def σ1 : Slots := slots (l0 cf0 σ0)
def σ4 : Slots := slots (l4 cf0 σ1)
theorem p0 : (l0 cf0 σ0).chk (isNx σ1) = true := by decide +kernel
theorem p1 : (l1 cf0 σ1).chk (isNx σ1) = true := by decide +kernel
theorem p2 : (l2 cf0 σ1).chk (isNx σ1) = true := by decide +kernel
theorem p3 : chkFor (.nm 3) (lb3 cf0) σ1 (rngD 1 7) = true := by decide +kernel
theorem p4 : (l4 cf0 σ1).chk (isNx σ4) = true := by decide +kernel
theorem p5 : chkFor (.nm 9) (lb5 cf0) σ4 (rngD 0 5) = true := by decide +kernel
theorem p6 : (l6 cf0 σ4).chk isTru = true := by decide +kernel
theorem law_plain : W (lawC [.scr]) (fun d _ => d = .bl true) (fun _ _ _ => False) [] := by
  refine law_run (n := 10) (m := b15 cf0) (by unfold lawC; rfl) ?_
  show Run (b15 cf0) σ0 _
  unfold b15
  refine Run.seq σ1 p0 ?_
  refine Run.seq σ1 p1 ?_
  refine Run.seq σ1 p2 ?_
  refine Run.forP σ1 (rngD 1 7) (by rfl) (by decide +kernel) (by decide +kernel) p3 ?_
  refine Run.seq σ4 p4 ?_
  refine Run.forP σ4 (rngD 0 5) (by rfl) (by decide +kernel) (by decide +kernel) p5 ?_
  exact Run.last p6
end KT
open PySem PySem.W PyProof.Rows
set_option maxHeartbeats 0 in
theorem PySem.Challenge.cw_keptoftwo_k71_whole_shapes_in_order_holds : PySem.Challenge.rw_keptoftwo_k71_whole_shapes_in_order.Holds := by
  w_on; o_law; k_head; (case hw => w_witness2)
  k_fill
  refine L2.walk_of (l := PySem.Challenge.rw_keptoftwo_k71_whole_shapes_in_order) (n := 63) (k := 61) (x := "script") (CX := fun w => L2.CX PySem.Challenge.pw_keptoftwo_k71_whole_shapes_in_order w) (sp := fun w => KT.spD _ KT.Γ0 1 KT.lawC) rfl (by decide) rfl ⟨rfl, by decide, by decide⟩ (fun w h Y => PySem.W.kIn_of Y) ?F (fun w H a ns hl hO hS => KT.law_sp KT.law_plain _ H a ns hl hO hS) (fun _ _ _ _ _ h => KT.cx_no h)
  case F =>
    intro w mg fa h KX G hmg
    refine' KT.all_mk KX G hmg ?a0 ?l0 ?c0 ?k0 ?a1 ?l1 ?c1 ?k1 ?a2 ?l2 ?c2 ?k2 ?a3 ?l3 ?c3 ?k3 ?a4 ?l4 ?c4 ?k4 ?a5 ?l5 ?c5 ?k5 ?a6 ?l6 ?c6 ?k6 ?a7 ?l7 ?c7 ?k7 ?a8 ?l8 ?c8 ?k8 ?a9 ?l9 ?c9 ?k9 ?a10 ?l10 ?c10 ?k10 ?a11 ?l11 ?c11 ?k11 ?a12 ?l12 ?c12 ?k12 ?a13 ?l13 ?c13 ?k13 ?a14 ?l14 ?c14 ?k14 ?a15 ?l15 ?c15 ?k15 ?z_abs ?z_all ?z_bool ?z_int ?z_isinstance ?z_len ?z_list ?z_max ?z_range ?z_str ?z_sum ?z_tuple ?g_GROUPED ?g_LONG
    (case a0 => k_is); (case l0 => k_is); (case c0 => k_is); (case k0 => k_is); (case a1 => k_is); (case l1 => k_is); (case c1 => k_is); (case k1 => k_is); (case a2 => k_is); (case l2 => k_is); (case c2 => k_is); (case k2 => k_is); (case a3 => k_is); (case l3 => k_is); (case c3 => k_is); (case k3 => k_is); (case a4 => k_is); (case l4 => k_is); (case c4 => k_is); (case k4 => k_is); (case a5 => k_is); (case l5 => k_is); (case c5 => k_is); (case k5 => k_is); (case a6 => k_is); (case l6 => k_is); (case c6 => k_is); (case k6 => k_is); (case a7 => k_is); (case l7 => k_is); (case c7 => k_is); (case k7 => k_is); (case a8 => k_is); (case l8 => k_is); (case c8 => k_is); (case k8 => k_is); (case a9 => k_is); (case l9 => k_is); (case c9 => k_is); (case k9 => k_is); (case a10 => k_is); (case l10 => k_is); (case c10 => k_is); (case k10 => k_is); (case a11 => k_is); (case l11 => k_is); (case c11 => k_is); (case k11 => k_is); (case a12 => k_is); (case l12 => k_is); (case c12 => k_is); (case k12 => k_is); (case a13 => k_is); (case l13 => k_is); (case c13 => k_is); (case k13 => k_is); (case a14 => k_is); (case l14 => k_is); (case c14 => k_is); (case k14 => k_is); (case a15 => k_is); (case l15 => k_is); (case c15 => k_is); (case k15 => k_is); (case z_abs => k_is); (case z_all => k_is); (case z_bool => k_is); (case z_int => k_is); (case z_isinstance => k_is); (case z_len => k_is); (case z_list => k_is); (case z_max => k_is); (case z_range => k_is); (case z_str => k_is); (case z_sum => k_is); (case z_tuple => k_is); (case g_GROUPED => k_is); (case g_LONG => k_is)
