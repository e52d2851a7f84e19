import PyProof.Rows.All
import HandS.ForMost
import HandS.ForExc
import HandS.CallSlots
import HandS.WordsExc
import HandS.Flow
import HandS.Comp
import HandS.Iter
import HandS.TryOnly
import HandS.TupMul
import PyProof.ListMulRoad
import PyProof.FactsAll.tuple_2
import HandS.TupAny
import HandS.Wide
import HandS.Style
import HandS.Text
import HandS.TupLe
import HandS.Strs
import HandS.SetFor
import HandS.Conv
import HandS.RaiseMore
import KE.GoesNew
import KE.GoesMore
import HandS.HotCalls
import HandS.ExcIs
import HandS.HeadHook4
import HandS.Head2
import HandS.HeadEnd
import HandS.Star
import HandS.More
import PyProof.WalksMore
import PyProof.Rows.SumAny
import PyProof.ReprLen
import PyProof.FitsInt
import HandS.Deep
import KE.GoesEnum
import KE.SortData
import PySem.Challenge.RW_hoursheld_k13_houses_and_plans
set_option Elab.async false
set_option linter.all false
set_option autoImplicit false
set_option maxRecDepth 100000
set_option maxHeartbeats 4000000
/-! Layer Fn: plain data D for the values of a program, a store of changing objects, and readings of the hand layer by total functions. -/
namespace Fn
open PySem PySem.Spec PyProof.Rows L2
abbrev St := L2.St

inductive D where
  | non | bl (b : Bool) | int (i : Int) | str (x : Str)
  | tup (xs : List D) | lst (xs : List D)
  | mu (n : Nat) | gl (x : Str) | ty (n : String) | ptr (a : Addr)
  /-- the script: a list of whole numbers that is only read -/
  | scr (ns : List Int)
/-- a changing object: a list; a list that changes no more; something forgotten -/
inductive MO where
  | ml (ds : List D) | fl (ds : List D) | dead
structure Exc where
  cls : Str
  arg : Option (Str × D)
inductive R (α : Type) where
  | ok (a : α) (st : List MO) | er (x : Exc) (st : List MO) | no
abbrev Rho := List (Option D)
abbrev Sto := List MO
abbrev EF := Rho → Sto → R D
abbrev TF := Rho → Sto → R Bool
abbrev AF := Rho → Sto → R (List D)
abbrev Den := List D → Sto → R D
@[simp] def R.bind {α β : Type} (r : R α) (f : α → Sto → R β) : R β :=
  match r with
  | .ok a st => f a st
  | .er x st => .er x st
  | .no => .no

abbrev MG := Str → Option Value
/-- where the changing objects stand; which lists change no more -/
structure Wd where
  mu : List Addr
  fz : List (Addr × List V)
structure Wd.Le (w w' : Wd) : Prop where
  mu : w.mu <+: w'.mu
  fz : ∀ p ∈ w.fz, p ∈ w'.fz
theorem Wd.Le.refl {w : Wd} : w.Le w := ⟨List.prefix_refl _, fun _ h => h⟩
theorem Wd.Le.trans {a b c : Wd} (h : a.Le b) (k : b.Le c) : a.Le c := ⟨h.mu.trans k.mu, fun p q => k.fz p (h.fz p q)⟩

/-- a list that is read: frozen, or an object of the module -/
def SqR (K : PySem.W.Frag) (H : Hp) (a : Addr) (xs : List V) : Prop := (∃ o, H a = some (.frz o (.lst xs))) ∨ SqL K (fun _ => none) a xs
mutual
def RD (K : PySem.W.Frag) (mg : MG) (μ : Wd) (H : Hp) : D → V → Prop
  | .non, v => v = .non
  | .bl b, v => v = .bl b
  | .int i, v => v = .int i
  | .str x, v => v = .str x ∧ x.length ≤ sizeLine
  | .tup ds, v => ∃ a vs, v = .ref a ∧ SqT K H a vs ∧ ds.length ≤ sizeLine ∧ RDs K mg μ H ds vs
  | .lst ds, v => ∃ a vs, v = .ref a ∧ (a, vs) ∈ μ.fz ∧ ds.length ≤ sizeLine ∧ RDs K mg μ H ds vs
  | .mu _, _ => False
  | .gl x, v => ∃ a, v = .ref a ∧ mg x = some (.ref a)
  | .ty n, v => v = .ty n
  | .ptr a, v => v = .ref a
  | .scr ns, v => ∃ a, v = .ref a ∧ SqR K H a (ns.map V.int) ∧ ns.length ≤ sizeLine
def RDs (K : PySem.W.Frag) (mg : MG) (μ : Wd) (H : Hp) : List D → List V → Prop
  | [], vs => vs = []
  | d :: ds, vs => ∃ v r, vs = v :: r ∧ RD K mg μ H d v ∧ RDs K mg μ H ds r
end
/-- what stands for ever -/
structure Keep (H H' : Hp) : Prop where
  tups : ∀ b xs, H b = some (.tup xs) → H' b = some (.tup xs)
  frzs : ∀ b o u, H b = some (.frz o u) → H' b = some (.frz o u)
theorem Keep.refl {H : Hp} : Keep H H := ⟨fun _ _ h => h, fun _ _ _ h => h⟩
theorem Keep.trans {H H' H2 : Hp} (a : Keep H H') (b : Keep H' H2) : Keep H H2 := ⟨fun c xs h => b.tups c xs (a.tups c xs h), fun c o u h => b.frzs c o u (a.frzs c o u h)⟩
theorem Keep.upF {H : Hp} {p : Addr} {o : HO} (h : H p = none) : Keep H (upd H p o) :=
  ⟨fun b xs e => by rw [upd_ne (ne_of_none e h)]; exact e, fun b o' u e => by rw [upd_ne (ne_of_none e h)]; exact e⟩
theorem Keep.upl {H : Hp} {p : Addr} {xs : List V} {o : HO} (h : H p = some (.lst xs)) : Keep H (upd H p o) :=
  ⟨fun b ys e => by rw [upd_ne (ne_of e h (by intro z; cases z))]; exact e, fun b o' u e => by rw [upd_ne (ne_of e h (by intro z; cases z))]; exact e⟩
variable {K : PySem.W.Frag} {mg : MG} {μ μ' μ2 : Wd} {H H' H2 : Hp}
theorem SqT.keep {a : Addr} {xs : List V} (k : Keep H H') (h : SqT K H a xs) : SqT K H' a xs := by
  rcases h with (h | ⟨o, h⟩) | h
  · exact .inl (.inl (k.tups _ _ h))
  · exact .inl (.inr ⟨o, k.frzs _ _ _ h⟩)
  · exact .inr h
theorem pre_get {α : Type} {l l' : List α} (h : l <+: l') {n : Nat} {a : α} (e : l[n]? = some a) : l'[n]? = some a := by
  obtain ⟨t, rfl⟩ := h
  have : n < l.length := (List.getElem?_eq_some_iff.mp e).1
  rw [List.getElem?_append_left this]; exact e
theorem SqR.keep {a : Addr} {xs : List V} (k : Keep H H') (h : SqR K H a xs) : SqR K H' a xs := by
  rcases h with ⟨o, h⟩ | h
  · exact .inl ⟨o, k.frzs _ _ _ h⟩
  · exact .inr h
theorem SqR.sq {a : Addr} {xs : List V} (h : SqR K H a xs) : SqL K H a xs := by
  rcases h with ⟨o, h⟩ | (h | ⟨o, h⟩) | h
  · exact .inl (.inr ⟨o, h⟩)
  · cases h
  · cases h
  · exact .inr h
theorem SqR.only {a : Addr} {xs : List V} (hO : Only H) (h : SqL K H a xs) : SqR K H a xs := by
  rcases h with (h | ⟨o, h⟩) | h
  · rcases hO a with z | ⟨o, ys, z⟩
    · rw [h] at z; cases z
    · rw [h] at z; cases z
  · exact .inl ⟨o, h⟩
  · exact .inr (.inr h)
mutual
theorem RD.keep (k : Keep H H') (e : μ.Le μ') : ∀ {d : D} {v : V}, RD K mg μ H d v → RD K mg μ' H' d v
  | .non, v, h => by simpa only [RD] using h
  | .bl b, v, h => by simpa only [RD] using h
  | .int i, v, h => by simpa only [RD] using h
  | .str i, v, h => by simpa only [RD] using h
  | .tup ds, v, h => by
    simp only [RD] at h ⊢
    obtain ⟨a, vs, h1, h2, h3, h4⟩ := h
    exact ⟨a, vs, h1, SqT.keep k h2, h3, RDs.keep k e h4⟩
  | .lst ds, v, h => by
    simp only [RD] at h ⊢
    obtain ⟨a, vs, h1, h2, h3, h4⟩ := h
    exact ⟨a, vs, h1, e.fz _ h2, h3, RDs.keep k e h4⟩
  | .mu n, v, h => by simp only [RD] at h
  | .gl x, v, h => by simpa only [RD] using h
  | .ty x, v, h => by simpa only [RD] using h
  | .ptr x, v, h => by simpa only [RD] using h
  | .scr ns, v, h => by
    simp only [RD] at h ⊢
    obtain ⟨a, h1, h2, h3⟩ := h
    exact ⟨a, h1, SqR.keep k h2, h3⟩
theorem RDs.keep (k : Keep H H') (e : μ.Le μ') : ∀ {ds : List D} {vs : List V}, RDs K mg μ H ds vs → RDs K mg μ' H' ds vs
  | [], vs, h => by simpa only [RDs] using h
  | d :: ds, vs, h => by
    simp only [RDs] at h ⊢
    obtain ⟨v, r, h1, h2, h3⟩ := h
    exact ⟨v, r, h1, RD.keep k e h2, RDs.keep k e h3⟩
end
theorem RDs.length : ∀ {ds : List D} {vs : List V}, RDs K mg μ H ds vs → ds.length = vs.length
  | [], vs, h => by simp only [RDs] at h; subst h; rfl
  | d :: ds, vs, h => by
    simp only [RDs] at h
    obtain ⟨v, r, rfl, h2, h3⟩ := h
    simp [RDs.length h3]
theorem RDs.get : ∀ {ds : List D} {vs : List V} {i : Nat} {d : D}, RDs K mg μ H ds vs → ds[i]? = some d → ∃ v, vs[i]? = some v ∧ RD K mg μ H d v
  | [], vs, i, d, h, e => by simp at e
  | c :: ds, vs, 0, d, h, e => by
    simp only [RDs] at h
    obtain ⟨v, r, rfl, h2, h3⟩ := h
    simp at e; subst e
    exact ⟨v, rfl, h2⟩
  | c :: ds, vs, i + 1, d, h, e => by
    simp only [RDs] at h
    obtain ⟨v, r, rfl, h2, h3⟩ := h
    simpa using RDs.get h3 (by simpa using e)
theorem RDs.app : ∀ {ds es : List D} {vs ws : List V}, RDs K mg μ H ds vs → RDs K mg μ H es ws → RDs K mg μ H (ds ++ es) (vs ++ ws)
  | [], es, vs, ws, h, h' => by simp only [RDs] at h; subst h; simpa using h'
  | d :: ds, es, vs, ws, h, h' => by
    simp only [RDs] at h
    obtain ⟨v, r, rfl, h2, h3⟩ := h
    simp only [List.cons_append, RDs]
    exact ⟨v, r ++ ws, rfl, h2, RDs.app h3 h'⟩
theorem RDs.nil : RDs K mg μ H [] [] := by simp only [RDs]
theorem RDs.cons {d : D} {v : V} {ds : List D} {vs : List V} (h : RD K mg μ H d v) (h' : RDs K mg μ H ds vs) : RDs K mg μ H (d :: ds) (v :: vs) := by
  simp only [RDs]; exact ⟨v, vs, rfl, h, h'⟩
theorem RDs.take : ∀ {ds : List D} {vs : List V} (n : Nat), RDs K mg μ H ds vs → RDs K mg μ H (ds.take n) (vs.take n)
  | _, _, 0, h => by simpa using RDs.nil
  | [], vs, n + 1, h => by simp only [RDs] at h; subst h; simpa using RDs.nil
  | d :: ds, vs, n + 1, h => by
    simp only [RDs] at h
    obtain ⟨v, r, rfl, h2, h3⟩ := h
    simpa using RDs.cons h2 (RDs.take n h3)
theorem RDs.drop : ∀ {ds : List D} {vs : List V} (n : Nat), RDs K mg μ H ds vs → RDs K mg μ H (ds.drop n) (vs.drop n)
  | _, _, 0, h => by simpa using h
  | [], vs, n + 1, h => by simp only [RDs] at h; subst h; simpa using RDs.nil
  | d :: ds, vs, n + 1, h => by
    simp only [RDs] at h
    obtain ⟨v, r, rfl, h2, h3⟩ := h
    simpa using RDs.drop n h3
theorem RDs.set {d : D} {v : V} (hd : RD K mg μ H d v) : ∀ {ds : List D} {vs : List V} (n : Nat), RDs K mg μ H ds vs → RDs K mg μ H (ds.set n d) (vs.set n v)
  | [], vs, n, h => by simp only [RDs] at h; subst h; simpa using RDs.nil
  | c :: ds, vs, 0, h => by
    simp only [RDs] at h
    obtain ⟨v', r, rfl, h2, h3⟩ := h
    simpa using RDs.cons hd h3
  | c :: ds, vs, n + 1, h => by
    simp only [RDs] at h
    obtain ⟨v', r, rfl, h2, h3⟩ := h
    simpa using RDs.cons h2 (RDs.set hd n h3)
theorem RDs.reverse : ∀ {ds : List D} {vs : List V}, RDs K mg μ H ds vs → RDs K mg μ H ds.reverse vs.reverse
  | [], vs, h => by simp only [RDs] at h; subst h; simpa using RDs.nil
  | d :: ds, vs, h => by
    simp only [RDs] at h
    obtain ⟨v, r, rfl, h2, h3⟩ := h
    simpa using RDs.app (RDs.reverse h3) (RDs.cons h2 RDs.nil)

/-! ### values at hand: they may be changing objects -/
def muD : D → Bool
  | .mu _ => true
  | _ => false
def RA (K : PySem.W.Frag) (mg : MG) (μ : Wd) (H : Hp) (d : D) (v : V) : Prop := match d with
  | .mu n => ∃ a, v = .ref a ∧ μ.mu[n]? = some a
  | d => RD K mg μ H d v
theorem RA.of {d : D} {v : V} (h : RD K mg μ H d v) : RA K mg μ H d v := by
  cases d <;> first | exact h | (simp only [RD] at h)
theorem RA.rd {d : D} {v : V} (h : RA K mg μ H d v) (m : muD d = false) : RD K mg μ H d v := by
  cases d <;> first | exact h | cases m
theorem RA.keep {d : D} {v : V} (k : Keep H H') (e : μ.Le μ') (h : RA K mg μ H d v) : RA K mg μ' H' d v := by
  cases d with
  | mu n => obtain ⟨a, h1, h2⟩ := h; exact ⟨a, h1, pre_get e.mu h2⟩
  | _ => exact RD.keep k e h
def RAs (K : PySem.W.Frag) (mg : MG) (μ : Wd) (H : Hp) : List D → List V → Prop
  | [], vs => vs = []
  | d :: ds, vs => ∃ v r, vs = v :: r ∧ RA K mg μ H d v ∧ RAs K mg μ H ds r
theorem RAs.keep (k : Keep H H') (e : μ.Le μ') : ∀ {ds : List D} {vs : List V}, RAs K mg μ H ds vs → RAs K mg μ' H' ds vs
  | [], vs, h => by simpa only [RAs] using h
  | d :: ds, vs, h => by
    simp only [RAs] at h ⊢
    obtain ⟨v, r, h1, h2, h3⟩ := h
    exact ⟨v, r, h1, RA.keep k e h2, RAs.keep k e h3⟩
theorem RAs.nil : RAs K mg μ H [] [] := by simp only [RAs]
theorem RAs.cons {d : D} {v : V} {ds : List D} {vs : List V} (h : RA K mg μ H d v) (h' : RAs K mg μ H ds vs) : RAs K mg μ H (d :: ds) (v :: vs) := by
  simp only [RAs]; exact ⟨v, vs, rfl, h, h'⟩
theorem RAs.length : ∀ {ds : List D} {vs : List V}, RAs K mg μ H ds vs → ds.length = vs.length
  | [], vs, h => by simp only [RAs] at h; subst h; rfl
  | d :: ds, vs, h => by
    simp only [RAs] at h
    obtain ⟨v, r, rfl, h2, h3⟩ := h
    simp [RAs.length h3]
theorem RAs.get : ∀ {ds : List D} {vs : List V} {i : Nat} {d : D}, RAs K mg μ H ds vs → ds[i]? = some d → ∃ v, vs[i]? = some v ∧ RA K mg μ H d v
  | [], vs, i, d, h, e => by simp at e
  | c :: ds, vs, 0, d, h, e => by
    simp only [RAs] at h
    obtain ⟨v, r, rfl, h2, h3⟩ := h
    simp at e; subst e
    exact ⟨v, rfl, h2⟩
  | c :: ds, vs, i + 1, d, h, e => by
    simp only [RAs] at h
    obtain ⟨v, r, rfl, h2, h3⟩ := h
    simpa using RAs.get h3 (by simpa using e)
/-- no changing object among them -/
def noMu : List D → Bool
  | [] => true
  | d :: ds => !muD d && noMu ds
theorem RAs.rd : ∀ {ds : List D} {vs : List V}, RAs K mg μ H ds vs → noMu ds = true → RDs K mg μ H ds vs
  | [], vs, h, _ => by simpa only [RAs, RDs] using h
  | d :: ds, vs, h, m => by
    simp only [RAs] at h
    obtain ⟨v, r, rfl, h2, h3⟩ := h
    simp only [noMu, Bool.and_eq_true, Bool.not_eq_true'] at m
    exact RDs.cons (h2.rd m.1) (RAs.rd h3 m.2)
theorem RAs.of : ∀ {ds : List D} {vs : List V}, RDs K mg μ H ds vs → RAs K mg μ H ds vs
  | [], vs, h => by simpa only [RAs, RDs] using h
  | d :: ds, vs, h => by
    simp only [RDs] at h
    obtain ⟨v, r, rfl, h2, h3⟩ := h
    exact RAs.cons (RA.of h2) (RAs.of h3)
/-- a plain value does not ask where the changing objects stand -/
theorem RD.mu_irrel {μ' : Wd} (e : μ.fz = μ'.fz) {d : D} {v : V} (r : RD K mg μ H d v) : RD K mg μ' H d v := by
  obtain ⟨m, f⟩ := μ
  obtain ⟨m', f'⟩ := μ'
  have e : f = f' := e
  subst e
  exact irr r
where
  irr {K : PySem.W.Frag} {mg : MG} {H : Hp} {m m' : List Addr} {f : List (Addr × List V)} : ∀ {d : D} {v : V}, RD K mg ⟨m, f⟩ H d v → RD K mg ⟨m', f⟩ H d v
    | .non, v, h => by simpa only [RD] using h
    | .bl b, v, h => by simpa only [RD] using h
    | .int i, v, h => by simpa only [RD] using h
    | .str i, v, h => by simpa only [RD] using h
    | .tup ds, v, h => by
      simp only [RD] at h ⊢
      obtain ⟨a, vs, h1, h2, h3, h4⟩ := h
      exact ⟨a, vs, h1, h2, h3, irrs h4⟩
    | .lst ds, v, h => by
      simp only [RD] at h ⊢
      obtain ⟨a, vs, h1, h2, h3, h4⟩ := h
      exact ⟨a, vs, h1, h2, h3, irrs h4⟩
    | .mu n, v, h => by simp only [RD] at h
    | .gl x, v, h => by simpa only [RD] using h
    | .ty x, v, h => by simpa only [RD] using h
    | .ptr x, v, h => by simpa only [RD] using h
    | .scr ns, v, h => by simpa only [RD] using h
  irrs {K : PySem.W.Frag} {mg : MG} {H : Hp} {m m' : List Addr} {f : List (Addr × List V)} : ∀ {ds : List D} {vs : List V}, RDs K mg ⟨m, f⟩ H ds vs → RDs K mg ⟨m', f⟩ H ds vs
    | [], vs, h => by simpa only [RDs] using h
    | d :: ds, vs, h => by
      simp only [RDs] at h ⊢
      obtain ⟨v, r, h1, h2, h3⟩ := h
      exact ⟨v, r, h1, irr h2, irrs h3⟩

theorem RDs.mu_irrel {μ' : Wd} (e : μ.fz = μ'.fz) : ∀ {ds : List D} {vs : List V}, RDs K mg μ H ds vs → RDs K mg μ' H ds vs
  | [], vs, h => by simpa only [RDs] using h
  | d :: ds, vs, h => by
    simp only [RDs] at h ⊢
    obtain ⟨v, r, h1, h2, h3⟩ := h
    exact ⟨v, r, h1, RD.mu_irrel e h2, RDs.mu_irrel e h3⟩
/-! ### the store -/
theorem nodupA {l : List Addr} (hN : l.Nodup) {i j : Nat} {x : Addr} (a : l[i]? = some x) (b : l[j]? = some x) : i = j := by
  obtain ⟨h1, e1⟩ := List.getElem?_eq_some_iff.mp a
  obtain ⟨h2, e2⟩ := List.getElem?_eq_some_iff.mp b
  exact (List.getElem_inj hN).mp (e1.trans e2.symm)
def RM (K : PySem.W.Frag) (mg : MG) (μ : Wd) (H : Hp) (a : Addr) : MO → Prop
  | .ml ds => ∃ vs, H a = some (.lst vs) ∧ ds.length ≤ sizeLine ∧ RDs K mg μ H ds vs ∧ ∀ xs, (a, xs) ∉ μ.fz
  | .fl ds => ∃ vs, (a, vs) ∈ μ.fz ∧ ds.length ≤ sizeLine ∧ RDs K mg μ H ds vs
  | .dead => True
structure RSt (K : PySem.W.Frag) (mg : MG) (μ : Wd) (H : Hp) (st : Sto) : Prop where
  len : μ.mu.length = st.length
  nd : μ.mu.Nodup
  at_ : ∀ (n : Nat) (a : Addr) (m : MO), μ.mu[n]? = some a → st[n]? = some m → RM K mg μ H a m
  live : ∀ a ∈ μ.mu, H a ≠ none
  fz : ∀ p ∈ μ.fz, H p.1 = some (.lst p.2)
theorem upd_none {H : Hp} {p a : Addr} {o : HO} (h : H a ≠ none) : upd H p o a ≠ none := by
  unfold upd; split
  · simp
  · exact h
/-- a new object -/
theorem RSt.fresh {st : Sto} {p : Addr} {o : HO} (s : RSt K mg μ H st) (h : H p = none) : RSt K mg μ (upd H p o) st := by
  have k : Keep H (upd H p o) := Keep.upF h
  have nm : ∀ a ∈ μ.mu, a ≠ p := fun a ha z => s.live a ha (z ▸ h)
  refine ⟨s.len, s.nd, fun n a m e1 e2 => ?_, fun a ha => upd_none (s.live a ha), fun q hq => ?_⟩
  · have hm : a ∈ μ.mu := List.mem_of_getElem? e1
    have := s.at_ n a m e1 e2
    cases m with
    | ml ds => obtain ⟨vs, h1, h2, h3, h4⟩ := this; exact ⟨vs, by rw [upd_ne (nm a hm)]; exact h1, h2, h3.keep k .refl, h4⟩
    | fl ds => obtain ⟨vs, h1, h2, h3⟩ := this; exact ⟨vs, h1, h2, h3.keep k .refl⟩
    | dead => trivial
  · rw [upd_ne (ne_of_none (s.fz q hq) h)]; exact s.fz q hq
/-- a new list that changes no more -/
def Wd.cool (μ : Wd) (p : Addr) (vs : List V) : Wd := ⟨μ.mu, (p, vs) :: μ.fz⟩
theorem Wd.cool_le {μ : Wd} {p : Addr} {vs : List V} : μ.Le (μ.cool p vs) := ⟨List.prefix_refl _, fun _ h => List.mem_cons_of_mem _ h⟩
theorem RSt.cool {st : Sto} {p : Addr} {vs : List V} (s : RSt K mg μ H st) (hp : p ∉ μ.mu) (h : H p = some (.lst vs)) : RSt K mg (μ.cool p vs) H st := by
  refine ⟨s.len, s.nd, fun n a m e1 e2 => ?_, s.live, fun q hq => ?_⟩
  · have hm : a ∈ μ.mu := List.mem_of_getElem? e1
    have := s.at_ n a m e1 e2
    cases m with
    | ml ds =>
      obtain ⟨ws, h1, h2, h3, h4⟩ := this
      refine ⟨ws, h1, h2, h3.keep Keep.refl Wd.cool_le, fun xs hx => ?_⟩
      rcases List.mem_cons.mp hx with z | z
      · cases z; exact hp hm
      · exact h4 xs z
    | fl ds => obtain ⟨ws, h1, h2, h3⟩ := this; exact ⟨ws, List.mem_cons_of_mem _ h1, h2, h3.keep Keep.refl Wd.cool_le⟩
    | dead => trivial
  · rcases List.mem_cons.mp hq with z | z
    · subst z; exact h
    · exact s.fz q z
theorem RSt.freshL {st : Sto} {p : Addr} {vs : List V} (s : RSt K mg μ H st) (h : H p = none) : RSt K mg (μ.cool p vs) (upd H p (.lst vs)) st :=
  (s.fresh h).cool (fun z => s.live p z h) upd_same
/-- a new changing list -/
def Wd.more (μ : Wd) (p : Addr) : Wd := ⟨μ.mu ++ [p], μ.fz⟩
theorem Wd.more_le {μ : Wd} {p : Addr} : μ.Le (μ.more p) := ⟨List.prefix_append _ _, fun _ h => h⟩
theorem RSt.new {st : Sto} {p : Addr} {ds : List D} {vs : List V} (s : RSt K mg μ H st) (h : H p = none) (hl : ds.length ≤ sizeLine) (r : RDs K mg μ H ds vs) :
    RSt K mg (μ.more p) (upd H p (.lst vs)) (st ++ [.ml ds]) := by
  have hp : p ∉ μ.mu := fun z => s.live p z h
  have k : Keep H (upd H p (.lst vs)) := Keep.upF h
  have e : μ.Le (μ.more p) := Wd.more_le
  refine ⟨by simp [Wd.more, s.len], List.nodup_append.mpr ⟨s.nd, by simp, fun a ha b hb z => hp (by simp at hb; rw [← hb, ← z]; exact ha)⟩, fun n a m e1 e2 => ?_, fun a ha => ?_, fun q hq => ?_⟩
  · simp only [Wd.more] at e1
    by_cases hn : n < μ.mu.length
    · rw [List.getElem?_append_left hn] at e1
      rw [List.getElem?_append_left (by rw [← s.len]; exact hn)] at e2
      have := s.at_ n a m e1 e2
      have ne : a ≠ p := fun z => hp (z ▸ List.mem_of_getElem? e1)
      cases m with
      | ml es => obtain ⟨ws, h1, h2, h3, h4⟩ := this; exact ⟨ws, by rw [upd_ne ne]; exact h1, h2, h3.keep k e, h4⟩
      | fl es => obtain ⟨ws, h1, h2, h3⟩ := this; exact ⟨ws, h1, h2, h3.keep k e⟩
      | dead => trivial
    · have hn' : n = μ.mu.length := by
        have := (List.getElem?_eq_some_iff.mp e1).1
        simp at this; omega
      subst hn'
      rw [List.getElem?_append_right (Nat.le_refl _)] at e1
      rw [s.len, List.getElem?_append_right (Nat.le_refl _)] at e2
      simp at e1 e2
      subst e1; subst e2
      exact ⟨vs, upd_same, hl, r.keep k e, fun xs hx => by
        have q : H p = some (.lst xs) := s.fz (p, xs) hx
        rw [h] at q; cases q⟩
  · rcases List.mem_append.mp ha with z | z
    · exact upd_none (s.live a z)
    · simp at z; rw [z, upd_same]; simp
  · rw [upd_ne (ne_of_none (s.fz q hq) h)]; exact s.fz q hq
/-- a list of the store is changed -/
theorem RSt.put {st : Sto} {n : Nat} {p : Addr} {es ds : List D} {vs : List V} (s : RSt K mg μ H st) (hp : μ.mu[n]? = some p) (ho : st[n]? = some (.ml es)) (hl : ds.length ≤ sizeLine) (r : RDs K mg μ H ds vs) :
    RSt K mg μ (upd H p (.lst vs)) (st.set n (.ml ds)) ∧ Keep H (upd H p (.lst vs)) := by
  obtain ⟨ws, h1, _, _, h4⟩ := s.at_ n p _ hp ho
  have k : Keep H (upd H p (.lst vs)) := Keep.upl h1
  refine ⟨⟨by simp [s.len], s.nd, fun i a m e1 e2 => ?_, fun a ha => upd_none (s.live a ha), fun q hq => ?_⟩, k⟩
  · by_cases hi : i = n
    · subst hi
      rw [hp] at e1; cases e1
      have hlt : i < st.length := by rw [← s.len]; exact (List.getElem?_eq_some_iff.mp hp).1
      rw [List.getElem?_set_self hlt] at e2; cases e2
      exact ⟨vs, upd_same, hl, r.keep k .refl, h4⟩
    · rw [List.getElem?_set_ne (Ne.symm hi)] at e2
      have ne : a ≠ p := fun z => hi (by subst z; exact nodupA s.nd e1 hp)
      have := s.at_ i a m e1 e2
      cases m with
      | ml es => obtain ⟨ws, h1, h2, h3, h4⟩ := this; exact ⟨ws, by rw [upd_ne ne]; exact h1, h2, h3.keep k .refl, h4⟩
      | fl es => obtain ⟨ws, h1, h2, h3⟩ := this; exact ⟨ws, h1, h2, h3.keep k .refl⟩
      | dead => trivial
  · have : q.1 ≠ p := fun z => h4 q.2 (by rw [← z]; exact hq)
    rw [upd_ne this]; exact s.fz q hq
/-- a list of the store changes no more -/
theorem RSt.freeze {st : Sto} {n : Nat} {p : Addr} {ds : List D} (s : RSt K mg μ H st) (hp : μ.mu[n]? = some p) (ho : st[n]? = some (.ml ds)) :
    ∃ vs, RSt K mg (μ.cool p vs) H (st.set n (.fl ds)) ∧ RD K mg (μ.cool p vs) H (.lst ds) (.ref p) := by
  obtain ⟨vs, h1, h2, h3, h4⟩ := s.at_ n p _ hp ho
  have e : μ.Le (μ.cool p vs) := Wd.cool_le
  refine ⟨vs, ⟨by simp [Wd.cool, s.len], s.nd, fun i a m e1 e2 => ?_, s.live, fun q hq => ?_⟩, ?_⟩
  · by_cases hi : i = n
    · subst hi
      have e1 : μ.mu[i]? = some a := e1
      rw [hp] at e1; cases e1
      have hlt : i < st.length := by rw [← s.len]; exact (List.getElem?_eq_some_iff.mp hp).1
      rw [List.getElem?_set_self hlt] at e2; cases e2
      exact ⟨vs, List.mem_cons_self, h2, h3.keep Keep.refl e⟩
    · rw [List.getElem?_set_ne (Ne.symm hi)] at e2
      have ne : a ≠ p := fun z => hi (by subst z; exact nodupA s.nd e1 hp)
      have := s.at_ i a m e1 e2
      cases m with
      | ml es =>
        obtain ⟨ws, h1, h2, h3, h5⟩ := this
        refine ⟨ws, h1, h2, h3.keep Keep.refl e, fun xs hx => ?_⟩
        rcases List.mem_cons.mp hx with z | z
        · cases z; exact ne rfl
        · exact h5 xs z
      | fl es => obtain ⟨ws, h1, h2, h3⟩ := this; exact ⟨ws, List.mem_cons_of_mem _ h1, h2, h3.keep Keep.refl e⟩
      | dead => trivial
  · rcases List.mem_cons.mp hq with z | z
    · subst z; exact h1
    · exact s.fz q z
  · simp only [RD]
    exact ⟨p, vs, rfl, List.mem_cons_self, h2, h3.keep Keep.refl e⟩

/-- what was made since is forgotten -/
def Wd.cut (μ : Wd) (n : Nat) : Wd := ⟨μ.mu.take n, μ.fz⟩
theorem RSt.cut {st : Sto} (s : RSt K mg μ H st) (n : Nat) : RSt K mg (μ.cut n) H (st.take n) := by
  refine ⟨by simp [Wd.cut, s.len], s.nd.sublist (List.take_sublist _ _), fun i a m e1 e2 => ?_, fun a ha => s.live a (List.mem_of_mem_take ha), s.fz⟩
  have hi : i < n := by
    have := (List.getElem?_eq_some_iff.mp e2).1
    simp at this; omega
  simp only [Wd.cut, List.getElem?_take_of_lt hi] at e1 e2
  have := s.at_ i a m e1 e2
  cases m with
  | ml es => obtain ⟨ws, h1, h2, h3, h4⟩ := this; exact ⟨ws, h1, h2, RDs.mu_irrel (μ := μ) (μ' := μ.cut n) rfl h3, h4⟩
  | fl es => obtain ⟨ws, h1, h2, h3⟩ := this; exact ⟨ws, h1, h2, RDs.mu_irrel (μ := μ) (μ' := μ.cut n) rfl h3⟩
  | dead => trivial
/-! ### slots -/
structure RE (K : PySem.W.Frag) (mg : MG) (μ : Wd) (H : Hp) (ρ : Rho) (σ : St) : Prop where
  len : ρ.length = σ.length
  at_ : ∀ (i : Nat) (d : D), ρ[i]? = some (some d) → ∃ v, σ[i]? = some (some v) ∧ RA K mg μ H d v
theorem RE.keep {ρ : Rho} {σ : St} (k : Keep H H') (e : μ.Le μ') (r : RE K mg μ H ρ σ) : RE K mg μ' H' ρ σ :=
  ⟨r.len, fun i d h => let ⟨v, h1, h2⟩ := r.at_ i d h; ⟨v, h1, h2.keep k e⟩⟩
theorem RE.set {ρ : Rho} {σ : St} {i : Nat} {d : D} {v : V} (r : RE K mg μ H ρ σ) (h : RA K mg μ H d v) : RE K mg μ H (ρ.set i (some d)) (σ.set i (some v)) := by
  refine ⟨by simp [r.len], fun j e hj => ?_⟩
  by_cases hi : j = i
  · subst hi
    by_cases hl : j < ρ.length
    · rw [List.getElem?_set_self hl] at hj; cases hj
      exact ⟨v, by rw [List.getElem?_set_self (by rw [← r.len]; exact hl)], h⟩
    · rw [List.set_eq_of_length_le (by omega)] at hj
      have := (List.getElem?_eq_some_iff.mp hj).1; omega
  · rw [List.getElem?_set_ne (Ne.symm hi)] at hj
    rw [List.getElem?_set_ne (Ne.symm hi)]
    exact r.at_ j e hj
theorem RE.start {N : List Str} {ds : List D} {vs : List V} (r : RAs K mg μ H ds vs) : RE K mg μ H (ds.map some ++ List.replicate (N.length - ds.length) none) (L2.start N vs) := by
  have hl := r.length
  unfold L2.start
  refine ⟨by simp [hl], fun i d h => ?_⟩
  by_cases hi : i < ds.length
  · rw [List.getElem?_append_left (by simpa using hi)] at h
    rw [List.getElem?_append_left (by simpa [← hl] using hi)]
    simp only [List.getElem?_map, Option.map_eq_some_iff] at h ⊢
    obtain ⟨d', h1, h2⟩ := h
    cases h2
    obtain ⟨v, e, q⟩ := r.get h1
    exact ⟨v, ⟨v, e, rfl⟩, q⟩
  · rw [List.getElem?_append_right (by simpa using hi)] at h
    have := List.mem_of_getElem? h
    simp at this

/-- all that ties the program's state to the plain one -/
structure Rel (K : PySem.W.Frag) (mg : MG) (μ : Wd) (H : Hp) (ρ : Rho) (σ : St) (st : Sto) : Prop where
  env : RE K mg μ H ρ σ
  sto : RSt K mg μ H st
/-- later -/
structure Aft (K : PySem.W.Frag) (mg : MG) (μ : Wd) (H : Hp) (μ' : Wd) (H' : Hp) (st' : Sto) : Prop where
  ext : μ.Le μ'
  keep : Keep H H'
  sto : RSt K mg μ' H' st'
theorem Aft.refl {st : Sto} (s : RSt K mg μ H st) : Aft K mg μ H μ H st := ⟨.refl, Keep.refl, s⟩
theorem Aft.trans {st st' : Sto} (a : Aft K mg μ H μ' H' st) (b : Aft K mg μ' H' μ2 H2 st') : Aft K mg μ H μ2 H2 st' := ⟨a.ext.trans b.ext, a.keep.trans b.keep, b.sto⟩
theorem Aft.fresh {st : Sto} {p : Addr} {o : HO} (s : RSt K mg μ H st) (h : H p = none) : Aft K mg μ H μ (upd H p o) st := ⟨.refl, Keep.upF h, s.fresh h⟩
theorem RD.aft {st : Sto} {d : D} {v : V} (r : RD K mg μ H d v) (a : Aft K mg μ H μ' H' st) : RD K mg μ' H' d v := r.keep a.keep a.ext
theorem RA.aft {st : Sto} {d : D} {v : V} (r : RA K mg μ H d v) (a : Aft K mg μ H μ' H' st) : RA K mg μ' H' d v := r.keep a.keep a.ext
theorem RAs.aft {st : Sto} {d : List D} {v : List V} (r : RAs K mg μ H d v) (a : Aft K mg μ H μ' H' st) : RAs K mg μ' H' d v := r.keep a.keep a.ext
theorem RDs.aft {st : Sto} {d : List D} {v : List V} (r : RDs K mg μ H d v) (a : Aft K mg μ H μ' H' st) : RDs K mg μ' H' d v := r.keep a.keep a.ext
theorem Rel.aft {ρ : Rho} {σ : St} {st st' : Sto} (r : Rel K mg μ H ρ σ st) (a : Aft K mg μ H μ' H' st') : Rel K mg μ' H' ρ σ st' := ⟨r.env.keep a.keep a.ext, a.sto⟩

/-- how an exception lies -/
def XR (K : PySem.W.Frag) (mg : MG) (μ : Wd) (H : Hp) (x : Exc) (cls : Value) (dd : Option Addr) : Prop :=
  (∃ C, mg x.cls = some (.ref C) ∧ cls = .ref C) ∧ (x.arg = none → dd = none) ∧ ∀ f d, x.arg = some (f, d) → ∃ dx v, dd = some dx ∧ H dx = some (.xd [(f, v)]) ∧ RD K mg μ H d v

/-! ### readings -/
/-- what is wanted of an expression's end -/
def PostE {α β : Type} (K : PySem.W.Frag) (mg : MG) (rel : Wd → Hp → α → β → Prop) (W : WX) (μ : Wd) (H : Hp) (σ : St) (Q : β → Hp → Prop) : R α → Prop
  | .ok d st' => ∀ v H' μ', Aft K mg μ H μ' H' st' → rel μ' H' d v → Q v H'
  | .er x st' => ∀ cls dd H' μ', Aft K mg μ H μ' H' st' → XR K mg μ' H' x cls dd → W cls dd σ H'
  | .no => False
def tOf (K : PySem.W.Frag) (mg : MG) (W : WX) (f : EF) : TE := fun σ H Q => ∃ μ ρ st, Rel K mg μ H ρ σ st ∧ PostE K mg (RA K mg) W μ H σ Q (f ρ st)
def tTOf (K : PySem.W.Frag) (mg : MG) (W : WX) (f : TF) : TT := fun σ H Q => ∃ μ ρ st, Rel K mg μ H ρ σ st ∧ PostE K mg (fun _ _ (b c : Bool) => b = c) W μ H σ Q (f ρ st)
def tAOf (K : PySem.W.Frag) (mg : MG) (W : WX) (f : AF) : TA := fun σ H Q => ∃ μ ρ st, Rel K mg μ H ρ σ st ∧ PostE K mg (RAs K mg) W μ H σ Q (f ρ st)
def EX (X : Cx) (W : WX) (e : Expr) (f : EF) : Prop := PE X e (tOf X.K X.mg W f)
def TX (X : Cx) (W : WX) (e : Expr) (f : TF) : Prop := PT X e (tTOf X.K X.mg W f)
def AX (X : Cx) (W : WX) (es : List Expr) (f : AF) : Prop := PA X es (tAOf X.K X.mg W f)
theorem _root_.L2.PE.imp {X : Cx} {e : Expr} {t t' : TE} (h : PE X e t) (i : ∀ σ H Q, t' σ H Q → t σ H Q) : PE X e t' := ⟨fun pins s σ H Q I q => h.run pins s σ H Q I (i _ _ _ q)⟩
theorem _root_.L2.PT.imp {X : Cx} {e : Expr} {t t' : TT} (h : PT X e t) (i : ∀ σ H Q, t' σ H Q → t σ H Q) : PT X e t' := ⟨fun pins s σ H Q I q => h.run pins s σ H Q I (i _ _ _ q)⟩
theorem _root_.L2.PW.imp {X : Cx} {e : Expr} {t t' : TT} (h : PW X e t) (i : ∀ σ H Q, t' σ H Q → t σ H Q) : PW X e t' := ⟨fun wh pins s σ H Q I q => h.run wh pins s σ H Q I (i _ _ _ q)⟩
theorem _root_.L2.PA.imp {X : Cx} {e : List Expr} {t t' : TA} (h : PA X e t) (i : ∀ σ H Q, t' σ H Q → t σ H Q) : PA X e t' := ⟨fun pos pins s σ H Q I q => h.run pos pins s σ H Q I (i _ _ _ q)⟩
theorem _root_.L2.PS.imp {X : Cx} {e : Stmt} {t t' : TS} (h : PS X e t) (i : ∀ D σ H, t' D σ H → t D σ H) : PS X e t' := ⟨fun pins s σ H D I q => h.run pins s σ H D I (i _ _ _ q)⟩
theorem _root_.L2.PSs.imp {X : Cx} {e : List Stmt} {t t' : TS} (h : PSs X e t) (i : ∀ D σ H, t' D σ H → t D σ H) : PSs X e t' := ⟨fun pins s σ H D I q => h.run pins s σ H D I (i _ _ _ q)⟩
theorem _root_.L2.PG.imp {X : Cx} {e : Expr} {t t' : TG} (h : PG X e t) (i : ∀ v σ H Q, t' v σ H Q → t v σ H Q) : PG X e t' := ⟨fun pins s σ H v u Q I r q => h.run pins s σ H v u Q I r (i _ _ _ _ q)⟩
theorem _root_.L2.PI.imp {X : Cx} {tg e : Expr} {t t' : TI} (h : PI X tg e t) (i : ∀ σ H Q, t' σ H Q → t σ H Q) : PI X tg e t' := ⟨fun pins s σ H Q I q => h.run pins s σ H Q I (i _ _ _ q)⟩
section
variable {α β γ δ : Type} {W : WX} {σ : St} {ra : Wd → Hp → α → β → Prop} {rb : Wd → Hp → γ → δ → Prop}
/-- an end, seen from later -/
theorem PostE.aft {Q : β → Hp → Prop} {r : R α} {st : Sto} (p : PostE K mg ra W μ H σ Q r) (a : Aft K mg μ H μ' H' st) : PostE K mg ra W μ' H' σ Q r := by
  cases r with
  | ok d st' => exact fun v H2 μ2 b q => p v H2 μ2 (a.trans b) q
  | er x st' => exact fun cls dd H2 μ2 b q => p cls dd H2 μ2 (a.trans b) q
  | no => exact p
/-- one expression, then more -/
theorem PostE.bind {Q : δ → Hp → Prop} {Q1 : β → Hp → Prop} {r : R α} {k : α → Sto → R γ} (p : PostE K mg rb W μ H σ Q (r.bind k))
    (h : ∀ d st' v H' μ', r = .ok d st' → Aft K mg μ H μ' H' st' → ra μ' H' d v → PostE K mg rb W μ' H' σ Q (k d st') → Q1 v H') : PostE K mg ra W μ H σ Q1 r := by
  cases r with
  | ok d st' => exact fun v H' μ' a q => h d st' v H' μ' rfl a q (PostE.aft p a)
  | er x st' => exact p
  | no => exact p
end
end Fn

set_option Elab.async false
set_option linter.all false
set_option autoImplicit false
set_option maxRecDepth 100000
set_option maxHeartbeats 4000000
/-! Layer Fn: defs called where no repr is under way. -/
namespace Fn
open PySem PySem.Spec PyProof.Rows L2
/-- as FnOk; no guard is set around -/
structure FnG (P : Program) (w : World) (K : PySem.W.Frag) (mg : MG) (base : Heap) (CX : CXT) (k : Nat) (f : Addr) (fd : FuncData) (ps : List Str) (sp : Sp) : Prop where
  len : ∀ vs H Q E, sp vs H Q E → vs.length = ps.length
  run : ∀ (A : Around) (outer : List Env) (s : Shared) (H : Hp) (ar : Args) (us : List Value) (vs : List V) (Q : VK) (E : XK), Room k A → A.guards = some [] → Env0 P w K mg base A outer s H → BindsTo s fd ar (ps.zip us) →
    Vals vs us → sp vs H Q E → codeAny (model P w) A (.call (.ref f) ar) (CR CX outer P w H s Q E) s
section
variable {P : Program} {w : World} {K : PySem.W.Frag} {mg : MG} {base : Heap} {k : Nat} {f : Addr} {fd : FuncData} {ps : List Str} {sp : Sp}
theorem FnG.mono {CX : CXT} {j : Nat} (F : FnG P w K mg base CX j f fd ps sp) (h : j ≤ k) : FnG P w K mg base CX k f fd ps sp :=
  ⟨F.len, fun A outer s H ar us vs Q E hr => F.run A outer s H ar us vs Q E (hr.mono h)⟩
/-- THE RULE, for a def by its body -/
theorem fnG_of {x qual : Str} {st : Stmt} {N : List Str} (F : Fun K x qual st f fd) (S : FnScope N ps (defScope st)) (len : ∀ vs H Q E, sp vs H Q E → vs.length = ps.length)
    (hbody : ∀ (cdv : Value) (A : Around) (outer : List Env) (s : Shared) (H : Hp) (vs : List V) (Q : VK) (E : XK), Room k (A.deeper (envOfC qual (defScope st) s.heap.objs.size f cdv)) → A.guards = some [] → sp vs H Q E →
      ∃ t, PSs (cxOf (L2.CX P w) P w K mg base N qual (defScope st) f cdv A outer s H E) (defBody st) t ∧ t { nx := fun _ H' => Q .non H', rt := Q } (L2.start N vs) H) :
    FnG P w K mg base (L2.CX P w) (k + 1) f fd ps sp := by
  obtain ⟨oc, od, kV, doc, pm, an, cdv, ct, osl, rfl, lk, hcd⟩ := F.ex
  constructor
  · exact len
  intro A outer s H ar us vs Q E room gd e0 bind rel hsp
  have kin : K.In s.heap := e0.mod.kin.keeps fun b o e => (e0.bs b o e).1
  have nol : s.heap.NoLimit := e0.mod.nolimit.keeps fun b o e => (e0.bs b o e).1
  have kinds : ∀ y ∈ ps.zip us, (defScope st).names.lookup y.1 = some .local ∨ ((defScope st).names.lookup y.1 = some .cell ∧ ((cellsFrom (s.heap.objs.size + 1) (defScope st).names []).lookup y.1).isSome = true) := by
    rintro ⟨n, v⟩ hy
    have hn : n ∈ ps := (List.of_mem_zip hy).1
    exact (S.par n hn).imp id fun q => ⟨q, PySem.W.cellsFrom_some _ _ _ (.inl q)⟩
  refine codeAny_call_function room.depth (kin _ _ lk) rfl S.co S.gen rfl (PySem.W.codeRec_of kin hcd) (bind _ _ _ _ ?_)
  refine wpAny_newFunctionEnv_cells S.kind kinds fun env he s1 inC => ?_
  cases he
  refine ⟨nol.keeps inC.toInCall.keep, codeAny_func ?_⟩
  obtain ⟨t, derive, reads⟩ := hbody cdv A outer s H vs Q E (room.deeper _) gd hsp
  have I := inv_start (CX := L2.CX P w) (E := E) S room.hd e0 (len _ _ _ _ hsp) rel inC
  refine wpAny_mono (derive.run [] s1 _ H _ I reads) (fun fl s' ends => ?_) fun _ _ z => z
  have close : ∀ (σ' : St) (H' : Hp) (v : V) (u : Value), Inv (cxOf (L2.CX P w) P w K mg base N qual (defScope st) f cdv A outer s H E) [] σ' H' s' → RelV v u → Q v H' → CE outer P w H s Q u s' :=
    fun _ H' v _ J rv q => ⟨v, H', J.os, J.bare, J.base, J.hok, rv, q⟩
  match fl, ends with
  | .ret u, ⟨v, σ', H', J, rv, q⟩ => exact close σ' H' v u J rv q
  | .next, ⟨σ', H', J, q⟩ => exact close σ' H' .non .none J rfl q
  | .brk, ⟨_, _, _, q⟩ => exact q.elim
  | .cont, ⟨_, _, _, q⟩ => exact q.elim
end
section
variable {X : Cx} {CX : CXT} {k : Nat} {f : Addr} {fd : FuncData} {ps : List Str} {sp : Sp} {dvs : List V} {ds : List Value} {E : St → XK} {x : Str} {p pos : Pos} {e : Expr} {es : List Expr} {t : TA}
/-- a callee runs, with its defaults -/
theorem runG {pins : List (Addr × Obj)} {σ : St} {H : Hp} {s : Shared} {Q : VK} {us : List Value} {vs : List V} (F : FnG X.prog X.w X.K X.mg X.base CX k f fd ps sp) (hr : Room k X.A) (gd : X.A.guards = some []) (hb : Binds X.K fd ps ds) (hd : Vals dvs ds)
    (hx : PassesAt CX X σ (E σ)) (I : Inv X pins σ H s) (r : Vals vs us) (h : sp (vs ++ dvs) H Q (E σ)) : wpAny (model X.prog X.w) X.A (call (.ref f) us) (EP X pins σ Q) X.xe s := by
  have all := r.append hd
  have room := hb s us I.kIn (by rw [← all.length]; exact F.len _ _ _ _ h)
  refine wpAny_call (codeAny_mono (F.run X.A X.stack s H ⟨us, []⟩ _ _ Q (E σ) hr gd I.env0 room all h) fun res s' got => ?_)
  match res, got with
  | .error er, got => exact hx pins H s er s' I got
  | .ok (.ret u), got => exact I.after got
  | .ok .next, got => exact got.elim
  | .ok .brk, got => exact got.elim
  | .ok .cont, got => exact got.elim
theorem pe_callG (F : FnG X.prog X.w X.K X.mg X.base CX k f fd ps sp) (hr : Room k X.A) (gd : X.A.guards = some []) (hg : Gl X x) (hm : X.mg x = some (.ref f)) (hk : PySem.W.keepIn X.K (.ref f) = true) (hb : Binds X.K fd ps ds) (hd : Vals dvs ds) (hx : ∀ σ, PassesAt CX X σ (E σ))
    (ha : PA X (e :: es) t) (hdb : (x == ("__debug__" : Str)) = false := by decide) (he : starEach (e :: es) X.env = (false, eval e X.env) :: starEach es X.env := by rfl) (hpl : (backTo pos (starEach es X.env)).any (·.1) = false := by rfl) :
    PE X (.Call (.Name x p) (e :: es) [] pos) (tCallSD sp dvs E t) := by
  constructor
  intro pins s σ H Q I h
  refine wpAny_Call_Name_kw (ld_glob I hg hm ?_ hdb)
  refine PySem.W.callWith_K (h₀ := X.base) I.ok.mod.kin hk ?_ he hpl
  refine thn (ha.run pos pins s σ H _ I h) ?_
  rintro us s1 ⟨vs, H1, I1, r, q⟩
  exact ⟨I1.kIn, runG F hr gd hb hd (hx σ) I1 r q⟩
end
/-- THE HEAD for such a law -/
theorem law_callG {P : Program} {w : World} {K : PySem.W.Frag} {mg mb : MG} {CX : CXT} {k : Nat} {fa a : Addr} {fd : FuncData} {x : Str} {sp : Sp} {s₁ : Shared} {vs : List Value} {ns : List Int}
    (KX : K.In s₁.heap) (hns : s₁.heap.Ns mainGlobals mg) (hb : s₁.heap.Ns builtinsNs mb) (hbb : ∀ x : Str, x ≠ "__name__" → mb x = bootBuiltins x) (hlim : s₁.heap.NoLimit) (hg : s₁.gens = #[])
    (ha : s₁.heap.get? a = some { cls := .type "list", data := .seq vs.toArray }) (hi : IntsAre vs ns) (hl : ns.length ≤ sizeLine) (hr : Room k callerA)
    (F : ∀ base : Heap, K.In base → base.Ns mainGlobals mg → FnG P w K mg base CX k fa fd [x] sp) (hbind : ∀ (s : Shared) (u : Value), BindsTo s fd ⟨[u], []⟩ [(x, u)])
    (hsp : ∀ H : Hp, Only H → SqL K H a (ns.map V.int) → sp [.ref a] H (fun v _ => v = .bl true) fun _ _ _ => False)
    (hCX : ∀ H e s', CX [] H s₁ (fun _ _ _ => False) e s' → False) :
    codeAny (model P w) callerA (.call (.ref fa) ⟨[.ref a], []⟩) (fun r s' => r = .ok (.ret (.bool true)) ∧ OldK s₁.heap s'.heap ∧ s'.os = s₁.os ∧ AllBare s'.gens) s₁ := by
  have rel := vals_ints hi
  -- the abstract heap: nothing but, it may be, the script
  suffices main : ∀ H : Hp, Only H → SqL K H a (ns.map V.int) → HOk P w H s₁.heap → (∀ b u, H b = some u → b = a ∧ K.lookup a = none) →
      codeAny (model P w) callerA (.call (.ref fa) ⟨[.ref a], []⟩) (fun r s' => r = .ok (.ret (.bool true)) ∧ OldK s₁.heap s'.heap ∧ s'.os = s₁.os ∧ AllBare s'.gens) s₁ by
    cases hk : K.lookup a with
    | some o =>
      have e : some o = _ := (KX a o hk).symm.trans ha
      cases e
      have hsz : vs.toArray.size ≤ sizeLine := by rw [List.size_toArray, hi.length]; exact hl
      refine main (fun _ => none) (fun _ => .inl rfl) (.inr ⟨_, vs.toArray, _, hk, rfl, rfl, rfl, hsz, by simpa using rel⟩) ?_ ?_
      · intro b u z; exact nomatch z
      · intro b u z; exact nomatch z
    | none =>
      let o₀ : Obj := { cls := .type "list", data := .seq vs.toArray }
      let H₀ : Hp := fun b => if b = a then some (.frz o₀ (.lst (ns.map V.int))) else none
      have at0 : H₀ a = some (.frz o₀ (.lst (ns.map V.int))) := if_pos rfl
      have only : ∀ b u, H₀ b = some u → b = a := fun b u z => by
        by_cases q : b = a
        · exact q
        · have z' : (none : Option HO) = some u := (if_neg q).symm.trans z
          cases z'
      refine main H₀ (fun b => ?_) (.inl (.inr ⟨o₀, at0⟩)) (fun b u z => ?_) fun b u z => ⟨only b u z, hk⟩
      · by_cases q : b = a
        · exact .inr ⟨_, _, if_pos q⟩
        · exact .inl (if_neg q)
      · cases only b u z
        have z' := at0.symm.trans z
        cases z'
        exact ⟨ha, by rw [List.length_map]; exact hl, vs, _, rel, ha⟩
  intro H hO hS hok hA
  have free : ∀ {b : Addr} {o : Obj} {es : Array DictEntry} {ep : Nat}, s₁.heap.get? b = some o → o.data = .dict es ep → H b = none := by
    intro b o es ep e d
    cases q : H b with
    | none => rfl
    | some u =>
      cases (hA b u q).1
      cases e.symm.trans ha
      cases d
  have hid : ∀ {b : Addr} {m : MG}, s₁.heap.Ns b m → (hidT s₁.heap H).Ns b m := by
    rintro b m ⟨o, es, ep, e, d, r⟩
    exact ⟨o, es, ep, hidT_get e (free e d), d, r⟩
  have kb : K.In (hidT s₁.heap H) := by
    intro b o e
    refine hidT_get (KX b o e) ?_
    cases q : H b with
    | none => rfl
    | some u =>
      obtain ⟨rfl, hk⟩ := hA b u q
      rw [hk] at e; cases e
  obtain ⟨mc, lim1, lim2⟩ := hlim
  have md : Mod K mg (hidT s₁.heap H) := ⟨kb, hid hns, ⟨mb, hid hb, hbb⟩, ⟨mc, hid lim1, lim2⟩⟩
  have e0 : Env0 P w K mg (hidT s₁.heap H) callerA [] s₁ H :=
    { frames := rfl, mod := md, bs := fun b o e => of_hidT e, bsz := Nat.le_of_eq (hidT_size _ _), funs := trivial, frf := fun b hm => (by cases hm), hok := hok, bare := .of_eq hg }
  refine codeAny_mono ((F _ kb (hid hns)).run callerA [] s₁ H ⟨[.ref a], []⟩ [.ref a] [.ref a] _ _ hr rfl e0 (hbind s₁ (.ref a)) (.cons rfl .nil) (hsp H hO hS)) fun res s' got => ?_
  match res, got with
  | .error er, got => exact (hCX H er s' got).elim
  | .ok .next, got => exact got.elim
  | .ok .brk, got => exact got.elim
  | .ok .cont, got => exact got.elim
  | .ok (.ret u), ⟨v, H', os, bare, un, hok', rv, q⟩ =>
    have q : v = .bl true := q
    subst q
    have rv : u = Value.bool true := rv
    subst rv
    refine ⟨rfl, OldK.of_keep fun b o e => ?_, os, bare⟩
    rcases hO b with z | ⟨ob, xs, z⟩
    · exact un.keep b o e z (fun hm => by cases hm) (fun hm => by cases hm)
    · obtain ⟨e1, _⟩ := hok b _ z
      obtain ⟨e2, _⟩ := hok' b _ (un.frzs b ob _ z)
      cases e.symm.trans e1
      exact e2
theorem walk_ofG {l : PySem.W.OpenLaw} {n k : Nat} {q : Program} {loose : List Str} {XP : MG → Heap → Prop} {YP : World → Heap → Prop} {d : DefRec} {CX : World → CXT} {x : Str}
    (hn : l.most = some n) (hn2 : n ≤ sizeLine) (hdf : d.params.defaults = []) (hr : Room k callerA)
    (F : ∀ (w : World) (mg : MG) (fa : Addr) (h : Heap), YP w h → h.Ns mainGlobals mg → mg d.name = some (.ref fa) →
      ∃ (K : PySem.W.Frag) (fd : FuncData) (sp : Sp), K.In h ∧ (∀ (s : Shared) (u : Value), BindsTo s fd ⟨[u], []⟩ [(x, u)]) ∧ (∀ base : Heap, K.In base → base.Ns mainGlobals mg → FnG l.prog w K mg base (CX w) k fa fd [x] sp) ∧
        ∀ (H : Hp) (a : Addr) (ns : List Int), ns.length ≤ n → Only H → SqL K H a (ns.map V.int) → sp [.ref a] H (fun v _ => v = .bl true) fun _ _ _ => False)
    (hCX : ∀ (w : World) (H : Hp) (s : Shared) (e : Value) (s' : Shared), CX w [] H s (fun _ _ _ => False) e s' → False) :
    PySem.W.WalkO q loose XP YP l.row.toRowW d [] (fun f vs => PySem.call f vs) := by
  refine Att.attach_call hn hdf fun w s₀ s₁ mg mb fa o pm cd doc a vs ns G Y ho hd hcd hmg hobj hints hlen hg => ?_
  obtain ⟨K, fd, sp, KX, hb, hF, hsp⟩ := F w mg fa _ Y G.T.g hmg
  exact law_callG KX G.T.g G.T.b G.T.builtins G.T.nolimit hg hobj hints (Nat.le_trans hlen hn2) hr hF hb (fun H hO hS => hsp H a ns hlen hO hS) fun H e s' => hCX w H s₁ e s'
end Fn

set_option Elab.async false
set_option linter.all false
set_option autoImplicit false
set_option maxRecDepth 100000
set_option maxHeartbeats 4000000
/-! Layer Fn, second part: expressions. -/
namespace Fn
open PySem PySem.Spec PyProof.Rows L2

/-! ### what values mean -/
def lstD (st : Sto) : D → Option (List D)
  | .lst ds => some ds
  | .mu n => match st[n]? with
    | some (.ml ds) => some ds
    | some (.fl ds) => some ds
    | _ => none
  | _ => none
def tupD : D → Option (List D)
  | .tup ds => some ds
  | _ => none
def seqD (st : Sto) : D → Option (List D)
  | .tup ds => some ds
  | .lst ds => some ds
  | .mu n => lstD st (.mu n)
  | _ => none
def truD (st : Sto) : D → Option Bool
  | .non => some false
  | .bl b => some b
  | .int i => some (i != 0)
  | .str x => some ((x.length : Int) != 0)
  | .tup ds => some (!ds.isEmpty)
  | .lst ds => some (!ds.isEmpty)
  | .mu n => (lstD st (.mu n)).map fun ds => !ds.isEmpty
  | _ => none
section
variable {K : PySem.W.Frag} {mg : MG} {μ : Wd} {H : Hp} {st : Sto} {d : D} {v : V} {ds : List D}
theorem lst_of (s : RSt K mg μ H st) (r : RA K mg μ H d v) (e : lstD st d = some ds) : ∃ a vs, v = .ref a ∧ H a = some (.lst vs) ∧ ds.length ≤ sizeLine ∧ RDs K mg μ H ds vs := by
  unfold lstD at e
  split at e
  · next xs =>
    cases e
    have r : RD K mg μ H (.lst ds) v := r
    simp only [RD] at r
    obtain ⟨a, vs, rfl, h2, h3, h4⟩ := r
    exact ⟨a, vs, rfl, s.fz _ h2, h3, h4⟩
  · next n =>
    obtain ⟨a, rfl, h2⟩ := r
    split at e
    · next xs q => cases e; obtain ⟨vs, h3, h4, h5, _⟩ := s.at_ n a _ h2 q; exact ⟨a, vs, rfl, h3, h4, h5⟩
    · next xs q => cases e; obtain ⟨vs, h3, h4, h5⟩ := s.at_ n a _ h2 q; exact ⟨a, vs, rfl, s.fz _ h3, h4, h5⟩
    · cases e
  · cases e
theorem tup_of (r : RA K mg μ H d v) (e : tupD d = some ds) : ∃ a vs, v = .ref a ∧ SqT K H a vs ∧ ds.length ≤ sizeLine ∧ RDs K mg μ H ds vs := by
  unfold tupD at e
  split at e
  · cases e
    have r : RD K mg μ H (.tup ds) v := r
    simpa only [RD] using r
  · cases e
theorem seq_of (s : RSt K mg μ H st) (r : RA K mg μ H d v) (e : seqD st d = some ds) :
    ∃ a vs, v = .ref a ∧ (SqL K H a vs ∨ SqT K H a vs) ∧ ds.length ≤ sizeLine ∧ RDs K mg μ H ds vs := by
  unfold seqD at e
  split at e
  · obtain ⟨a, vs, h1, h2, h3⟩ := tup_of r e; exact ⟨a, vs, h1, .inr h2, h3⟩
  · obtain ⟨a, vs, h1, h2, h3⟩ := lst_of s r e; exact ⟨a, vs, h1, .inl (.of h2), h3⟩
  · obtain ⟨a, vs, h1, h2, h3⟩ := lst_of s r e; exact ⟨a, vs, h1, .inl (.of h2), h3⟩
  · cases e
end
section
variable {K : PySem.W.Frag} {mg : MG} {μ : Wd} {H : Hp} {st : Sto} {d : D} {v : V} {ds : List D} {vs : List V}
theorem RDs.isEmpty (r : RDs K mg μ H ds vs) : vs.isEmpty = ds.isEmpty := by
  cases ds with
  | nil => simp only [RDs] at r; subst r; rfl
  | cons c cs => simp only [RDs] at r; obtain ⟨v, r, rfl, _⟩ := r; rfl
theorem tru_of {b : Bool} (s : RSt K mg μ H st) (r : RA K mg μ H d v) (e : truD st d = some b) : TruV K v H b := by
  unfold truD at e
  split at e
  · cases e; simp only [RA, RD] at r; subst r; rfl
  · cases e; simp only [RA, RD] at r; subst r; rfl
  · cases e; simp only [RA, RD] at r; subst r; rfl
  · cases e; simp only [RA, RD] at r; obtain ⟨rfl, h⟩ := r; exact ⟨h, rfl⟩
  · cases e; obtain ⟨a, vs, rfl, h2, h3, h4⟩ := tup_of r rfl
    exact .inr (.inl ⟨vs, h2, by rw [h4.isEmpty]⟩)
  · cases e; obtain ⟨a, vs, rfl, h2, h3, h4⟩ := lst_of s r rfl
    exact .inl ⟨vs, .of h2, by rw [h4.isEmpty]⟩
  · next n =>
    obtain ⟨ds, h1, rfl⟩ := Option.map_eq_some_iff.mp e
    obtain ⟨a, vs, rfl, h2, h3, h4⟩ := lst_of s r h1
    exact .inl ⟨vs, .of h2, by rw [h4.isEmpty]⟩
  · cases e
end

/-! ### names, constants -/
def eVar (i : Nat) : EF := fun ρ st => match ρ[i]? with
  | some (some d) => .ok d st
  | _ => .no
def eC (d : D) : EF := fun _ st => .ok d st
section
variable {X : Cx} {W : WX} {a b c e : Expr} {fa fb fc f : EF} {pos : Pos}
theorem ex_var {i : Nat} {x : Str} (hN : X.N[i]? = some x) (hv : Vis X.env.scope x) (hd : (x == ("__debug__" : Str)) = false := by decide) (hcd : (x == ("__classdict__" : Str)) = false := by decide) :
    EX X W (.Name x pos) (eVar i) := (pe_var hN hv hd hcd).imp fun σ H Q ⟨μ, ρ, st, r, p⟩ => by
  unfold eVar at p
  split at p
  · next d h => obtain ⟨v, h1, h2⟩ := r.env.at_ _ _ h; exact ⟨v, h1, p v H μ (.refl r.sto) h2⟩
  · exact p.elim
theorem ex_c {v : V} {d : D} (h : PE X e (tC v)) (hr : ∀ μ H, RD X.K X.mg μ H d v) : EX X W e (eC d) :=
  h.imp fun σ H Q ⟨μ, ρ, st, r, p⟩ => p v H μ (.refl r.sto) (.of (hr μ H))
theorem ex_int {i j} : EX X W (.Constant (.int i) j pos) (eC (.int i)) := ex_c pe_int fun _ _ => by simp only [RD]
theorem ex_bl {i j} : EX X W (.Constant (.bool i) j pos) (eC (.bl i)) := ex_c pe_bl fun _ _ => by simp only [RD]
theorem ex_non {j} : EX X W (.Constant .none j pos) (eC .non) := ex_c pe_non fun _ _ => by simp only [RD]
theorem ex_str {x j} (h : x.length ≤ sizeLine := by decide) : EX X W (.Constant (.str x) j pos) (eC (.str x)) := ex_c pe_str fun _ _ => by simp only [RD]; exact ⟨trivial, h⟩
theorem ex_glob {x : Str} {v : V} {u : Value} {d : D} (hm : X.mg x = some u) (r : RelV v u) (hr : ∀ μ H, RD X.K X.mg μ H d v) (hg : Gl X x := by rfl) (hd : (x == ("__debug__" : Str)) = false := by decide) :
    EX X W (.Name x pos) (eC d) := ex_c (pe_glob hg hm r hd) hr

/-! ### operations on two values -/
abbrev G2 := Sto → D → D → Option D
def eOp2 (g : G2) (fa fb : EF) : EF := fun ρ st => (fa ρ st).bind fun x s1 => (fb ρ s1).bind fun y s2 => match g s2 x y with
  | some z => .ok z s2
  | none => .no
/-- r is served by g -/
def Op2 (K : PySem.W.Frag) (mg : MG) (r : R2) (g : G2) : Prop :=
  ∀ μ H st x y v u z Q, RSt K mg μ H st → RA K mg μ H x v → RA K mg μ H y u → g st x y = some z → (∀ w H' μ', Aft K mg μ H μ' H' st → RD K mg μ' H' z w → Q w H') → r v u H Q
theorem op2_of {r : R2} {g : G2} {ta tb : TE} (hg : Op2 X.K X.mg r g) (ha : PE X a (tOf X.K X.mg W fa)) (hb : PE X b (tOf X.K X.mg W fb)) (h : PE X e (tOp r (tOf X.K X.mg W fa) (tOf X.K X.mg W fb))) : EX X W e (eOp2 g fa fb) :=
  h.imp fun σ H Q ⟨μ, ρ, st, r, p⟩ => ⟨μ, ρ, st, r, p.bind fun x s1 v H1 μ1 _ a1 rx p1 => ⟨μ1, ρ, s1, r.aft a1, p1.bind fun y s2 u H2 μ2 _ a2 ry p2 => by
    split at p2
    · next z hz => exact hg μ2 H2 s2 x y v u z Q a2.sto (rx.aft a2) ry hz fun w H3 μ3 a3 rw => p2 w H3 μ3 a3 (.of rw)
    · exact p2.elim⟩⟩
theorem ex_op {op : Operator} {r : R2} {g : G2} (ho : OpR X (binaryOp op) r) (hg : Op2 X.K X.mg r g) (ha : EX X W a fa) (hb : EX X W b fb) : EX X W (.BinOp a op b pos) (eOp2 g fa fb) :=
  op2_of (ta := tOf X.K X.mg W fa) (tb := tOf X.K X.mg W fb) hg ha hb (pe_op ho ha hb)
/-! ### comparisons -/
abbrev G2b := Sto → D → D → Option Bool
def eCmp (g : G2b) (fa fb : EF) : EF := fun ρ st => (fa ρ st).bind fun x s1 => (fb ρ s1).bind fun y s2 => match g s2 x y with
  | some z => .ok (.bl z) s2
  | none => .no
def tCm (g : G2b) (fa fb : EF) : TF := fun ρ st => (fa ρ st).bind fun x s1 => (fb ρ s1).bind fun y s2 => match g s2 x y with
  | some z => .ok z s2
  | none => .no
def Cm2 (K : PySem.W.Frag) (mg : MG) (r : R2) (g : G2b) : Prop :=
  ∀ μ H st x y v u z Q, RSt K mg μ H st → RA K mg μ H x v → RA K mg μ H y u → g st x y = some z → Q (.bl z) H → r v u H Q
theorem ex_cmp {op : CmpOp} {r : R2} {g : G2b} (ho : OpR X (compareOp op) r) (hg : Cm2 X.K X.mg r g) (ha : EX X W a fa) (hb : EX X W b fb) (hm : behindInMarks op b = false) : EX X W (.Compare a [op] [b] pos) (eCmp g fa fb) :=
  (pe_cmpR ho ha hb hm).imp fun σ H Q ⟨μ, ρ, st, r, p⟩ => ⟨μ, ρ, st, r, p.bind fun x s1 v H1 μ1 _ a1 rx p1 => ⟨μ1, ρ, s1, r.aft a1, p1.bind fun y s2 u H2 μ2 _ a2 ry p2 => by
    split at p2
    · next z hz => exact hg μ2 H2 s2 x y v u z Q a2.sto (rx.aft a2) ry hz (p2 (.bl z) H2 μ2 (.refl a2.sto) (by simp only [RA, RD]))
    · exact p2.elim⟩⟩
theorem tx_cmp {op : CmpOp} {r : R2} {g : G2b} (ho : OpR X (compareOp op) r) (hg : Cm2 X.K X.mg r g) (ha : EX X W a fa) (hb : EX X W b fb) (hm : behindInMarks op b = false) : TX X W (.Compare a [op] [b] pos) (tCm g fa fb) :=
  (pt_cmpR ho ha hb hm).imp fun σ H Q ⟨μ, ρ, st, r, p⟩ => ⟨μ, ρ, st, r, p.bind fun x s1 v H1 μ1 _ a1 rx p1 => ⟨μ1, ρ, s1, r.aft a1, p1.bind fun y s2 u H2 μ2 _ a2 ry p2 => by
    split at p2
    · next z hz => exact hg μ2 H2 s2 x y v u z _ a2.sto (rx.aft a2) ry hz ⟨z, rfl, p2 z H2 μ2 (.refl a2.sto) rfl⟩
    · exact p2.elim⟩⟩
/-- a op b op' c -/
def eChain (g g' : G2b) (fa fb fc : EF) : EF := fun ρ st => (fa ρ st).bind fun x s1 => (fb ρ s1).bind fun y s2 => match g s2 x y with
  | some true => (fc ρ s2).bind fun z s3 => match g' s3 y z with
    | some k => .ok (.bl k) s3
    | none => .no
  | some false => .ok (.bl false) s2
  | none => .no
def tChn (g g' : G2b) (fa fb fc : EF) : TF := fun ρ st => (fa ρ st).bind fun x s1 => (fb ρ s1).bind fun y s2 => match g s2 x y with
  | some true => (fc ρ s2).bind fun z s3 => match g' s3 y z with
    | some k => .ok k s3
    | none => .no
  | some false => .ok false s2
  | none => .no
theorem ex_chain {op op' : CmpOp} {r r' : R2} {g g' : G2b} (ho : OpR X (compareOp op) r) (ho' : OpR X (compareOp op') r') (hg : Cm2 X.K X.mg r g) (hg' : Cm2 X.K X.mg r' g') (ha : EX X W a fa) (hb : EX X W b fb) (hc : EX X W c fc)
    (hm : lastMarks [op, op'] [b, c] = false := by with_unfolding_all rfl) : EX X W (.Compare a [op, op'] [b, c] pos) (eChain g g' fa fb fc) :=
  (pe_chain ho ho' ha hb hc hm).imp fun σ H Q ⟨μ, ρ, st, r, p⟩ => ⟨μ, ρ, st, r, p.bind fun x s1 v H1 μ1 _ a1 rx p1 => ⟨μ1, ρ, s1, r.aft a1, p1.bind fun y s2 u H2 μ2 _ a2 ry p2 => by
    split at p2
    · next hz =>
      refine hg μ2 H2 s2 x y v u true _ a2.sto (rx.aft a2) ry hz ⟨true, rfl, ?_⟩
      rw [if_pos rfl]
      refine ⟨μ2, ρ, s2, (r.aft a1).aft a2, p2.bind fun z s3 w H3 μ3 _ a3 rz p3 => ?_⟩
      split at p3
      · next k hk => exact hg' μ3 H3 s3 y z u w k _ a3.sto (ry.aft a3) rz hk (p3 (.bl k) H3 μ3 (.refl a3.sto) (by simp only [RA, RD]))
      · exact p3.elim
    · next hz =>
      refine hg μ2 H2 s2 x y v u false _ a2.sto (rx.aft a2) ry hz ⟨false, rfl, ?_⟩
      rw [if_neg Bool.false_ne_true]
      exact p2 (.bl false) H2 μ2 (.refl a2.sto) (by simp only [RA, RD])
    · exact p2.elim⟩⟩
theorem tx_chain {op op' : CmpOp} {r r' : R2} {g g' : G2b} (ho : OpR X (compareOp op) r) (ho' : OpR X (compareOp op') r') (hg : Cm2 X.K X.mg r g) (hg' : Cm2 X.K X.mg r' g') (ha : EX X W a fa) (hb : EX X W b fb) (hc : EX X W c fc)
    (hm : lastMarks [op, op'] [b, c] = false := by with_unfolding_all rfl) : TX X W (.Compare a [op, op'] [b, c] pos) (tChn g g' fa fb fc) :=
  (pt_chain ho ho' ha hb hc hm).imp fun σ H Q ⟨μ, ρ, st, r, p⟩ => ⟨μ, ρ, st, r, p.bind fun x s1 v H1 μ1 _ a1 rx p1 => ⟨μ1, ρ, s1, r.aft a1, p1.bind fun y s2 u H2 μ2 _ a2 ry p2 => by
    split at p2
    · next hz =>
      refine hg μ2 H2 s2 x y v u true _ a2.sto (rx.aft a2) ry hz ⟨true, rfl, ?_⟩
      rw [if_pos rfl]
      refine ⟨μ2, ρ, s2, (r.aft a1).aft a2, p2.bind fun z s3 w H3 μ3 _ a3 rz p3 => ?_⟩
      split at p3
      · next k hk => exact hg' μ3 H3 s3 y z u w k _ a3.sto (ry.aft a3) rz hk ⟨k, rfl, p3 k H3 μ3 (.refl a3.sto) rfl⟩
      · exact p3.elim
    · next hz =>
      refine hg μ2 H2 s2 x y v u false _ a2.sto (rx.aft a2) ry hz ⟨false, rfl, ?_⟩
      rw [if_neg Bool.false_ne_true]
      exact ⟨false, rfl, p2 false H2 μ2 (.refl a2.sto) rfl⟩
    · exact p2.elim⟩⟩
/-- is None, is not None -/
def isNonD : D → Bool
  | .non => true
  | _ => false
theorem isNon_of {K : PySem.W.Frag} {mg : MG} {μ : Wd} {H : Hp} {d : D} {v : V} (r : RA K mg μ H d v) : decide (v = .non) = isNonD d := by
  cases d <;> simp only [RA, RD, isNonD] at r ⊢
  · subst r; rfl
  · subst r; rfl
  · subst r; rfl
  · obtain ⟨rfl, _⟩ := r; rfl
  · obtain ⟨a, vs, rfl, _⟩ := r; rfl
  · obtain ⟨a, vs, rfl, _⟩ := r; rfl
  · obtain ⟨a, rfl, _⟩ := r; rfl
  · obtain ⟨a, rfl, _⟩ := r; rfl
  · subst r; rfl
  · subst r; rfl
  · obtain ⟨a, rfl, _⟩ := r; rfl
def gIsN (neg : Bool) : G2b := fun _ x y => match y with
  | .non => some (if neg then !isNonD x else isNonD x)
  | _ => none
theorem cm_isN {K : PySem.W.Frag} {mg : MG} : Cm2 K mg (fun x y H Q => y = .non ∧ Q (.bl (decide (x = .non))) H) (gIsN false) := fun μ H st x y v u z Q _ rx ry e q => by
  unfold gIsN at e; split at e
  · simp only [RA, RD] at ry; subst ry; cases e; exact ⟨rfl, by rw [isNon_of rx]; simpa using q⟩
  · cases e
theorem cm_notN {K : PySem.W.Frag} {mg : MG} : Cm2 K mg (fun x y H Q => y = .non ∧ Q (.bl (!decide (x = .non))) H) (gIsN true) := fun μ H st x y v u z Q _ rx ry e q => by
  unfold gIsN at e; split at e
  · simp only [RA, RD] at ry; subst ry; cases e; exact ⟨rfl, by rw [isNon_of rx]; simpa using q⟩
  · cases e

/-! ### truth, and, or, not, if -/
def tTru (fa : EF) : TF := fun ρ st => (fa ρ st).bind fun x s1 => match truD s1 x with
  | some b => .ok b s1
  | none => .no
theorem tx_tru (ha : EX X W a fa) (he : ∀ whole, isTrue a X.env whole = (do let v ← whole; standAt a.pos; holding [v] (truthy v)) := by intro _; rfl) : TX X W a (tTru fa) :=
  (pt_truth ha he).imp fun σ H Q ⟨μ, ρ, st, r, p⟩ => ⟨μ, ρ, st, r, p.bind fun x s1 v H1 μ1 _ a1 rx p1 => by
    split at p1
    · next b hb => exact ⟨b, tru_of a1.sto rx hb, p1 b H1 μ1 (.refl a1.sto) rfl⟩
    · exact p1.elim⟩
def WXX (X : Cx) (W : WX) (e : Expr) (f : TF) : Prop := PW X e (tTOf X.K X.mg W f)
theorem WXX.tx {f : TF} (h : WXX X W e f) : TX X W e f := PW.pt h
def tAndF (fa fb : TF) : TF := fun ρ st => (fa ρ st).bind fun b s1 => if b = true then fb ρ s1 else .ok false s1
def tOrF (fa fb : TF) : TF := fun ρ st => (fa ρ st).bind fun b s1 => if b = true then .ok true s1 else fb ρ s1
def tNotF (fa : TF) : TF := fun ρ st => (fa ρ st).bind fun b s1 => .ok (!b) s1
variable {ga gb : TF} {rest : List Expr}
theorem wx_and1 (h : TX X W a ga) : WXX X W (.BoolOp .And [a] pos) ga := pw_and1 h
theorem wx_or1 (h : TX X W a ga) : WXX X W (.BoolOp .Or [a] pos) ga := pw_or1 h
theorem wx_and (ha : TX X W a ga) (hb : WXX X W (.BoolOp .And (b :: rest) pos) gb) : WXX X W (.BoolOp .And (a :: b :: rest) pos) (tAndF ga gb) :=
  (pw_and ha hb).imp fun σ H Q ⟨μ, ρ, st, r, p⟩ => ⟨μ, ρ, st, r, p.bind fun x s1 v H1 μ1 _ a1 rx p1 => by
    have rx : x = v := rx
    subst rx
    split at p1
    · next h => rw [if_pos h]; exact ⟨μ1, ρ, s1, r.aft a1, p1⟩
    · next h => rw [if_neg h]; exact p1 false H1 μ1 (.refl a1.sto) rfl⟩
theorem wx_or (ha : TX X W a ga) (hb : WXX X W (.BoolOp .Or (b :: rest) pos) gb) : WXX X W (.BoolOp .Or (a :: b :: rest) pos) (tOrF ga gb) :=
  (pw_or ha hb).imp fun σ H Q ⟨μ, ρ, st, r, p⟩ => ⟨μ, ρ, st, r, p.bind fun x s1 v H1 μ1 _ a1 rx p1 => by
    have rx : x = v := rx
    subst rx
    split at p1
    · next h => rw [if_pos h]; exact p1 true H1 μ1 (.refl a1.sto) rfl
    · next h => rw [if_neg h]; exact ⟨μ1, ρ, s1, r.aft a1, p1⟩⟩
theorem tx_not (ha : TX X W a ga) : TX X W (.UnaryOp .Not a pos) (tNotF ga) :=
  (pt_not ha).imp fun σ H Q ⟨μ, ρ, st, r, p⟩ => ⟨μ, ρ, st, r, p.bind fun x s1 v H1 μ1 _ a1 rx p1 => by
    have rx : x = v := rx
    subst rx
    exact p1 (!x) H1 μ1 (.refl a1.sto) rfl⟩
/-- as values -/
def eAnd (fa fb : EF) : EF := fun ρ st => (fa ρ st).bind fun x s1 => match truD s1 x with
  | some true => fb ρ s1
  | some false => .ok x s1
  | none => .no
def eOr (fa fb : EF) : EF := fun ρ st => (fa ρ st).bind fun x s1 => match truD s1 x with
  | some true => .ok x s1
  | some false => fb ρ s1
  | none => .no
def eNot (fa : EF) : EF := fun ρ st => (fa ρ st).bind fun x s1 => match truD s1 x with
  | some b => .ok (.bl (!b)) s1
  | none => .no
theorem ex_one {op} (h : EX X W a fa) : EX X W (.BoolOp op [a] pos) fa := pe_one h
theorem ex_and (ha : EX X W a fa) (hb : EX X W (.BoolOp .And (b :: rest) pos) fb) : EX X W (.BoolOp .And (a :: b :: rest) pos) (eAnd fa fb) :=
  (pe_andT ha hb).imp fun σ H Q ⟨μ, ρ, st, r, p⟩ => ⟨μ, ρ, st, r, p.bind fun x s1 v H1 μ1 _ a1 rx p1 => by
    split at p1
    · next h => exact ⟨true, tru_of a1.sto rx h, by rw [if_pos rfl]; exact ⟨μ1, ρ, s1, r.aft a1, p1⟩⟩
    · next h => exact ⟨false, tru_of a1.sto rx h, by rw [if_neg Bool.false_ne_true]; exact p1 v H1 μ1 (.refl a1.sto) rx⟩
    · exact p1.elim⟩
theorem ex_or (ha : EX X W a fa) (hb : EX X W (.BoolOp .Or (b :: rest) pos) fb) : EX X W (.BoolOp .Or (a :: b :: rest) pos) (eOr fa fb) :=
  (pe_orT ha hb).imp fun σ H Q ⟨μ, ρ, st, r, p⟩ => ⟨μ, ρ, st, r, p.bind fun x s1 v H1 μ1 _ a1 rx p1 => by
    split at p1
    · next h => exact ⟨true, tru_of a1.sto rx h, by rw [if_pos rfl]; exact p1 v H1 μ1 (.refl a1.sto) rx⟩
    · next h => exact ⟨false, tru_of a1.sto rx h, by rw [if_neg Bool.false_ne_true]; exact ⟨μ1, ρ, s1, r.aft a1, p1⟩⟩
    · exact p1.elim⟩
theorem ex_not (ha : EX X W a fa) : EX X W (.UnaryOp .Not a pos) (eNot fa) :=
  (pe_notT ha).imp fun σ H Q ⟨μ, ρ, st, r, p⟩ => ⟨μ, ρ, st, r, p.bind fun x s1 v H1 μ1 _ a1 rx p1 => by
    split at p1
    · next b h => exact ⟨b, tru_of a1.sto rx h, p1 (.bl (!b)) H1 μ1 (.refl a1.sto) (by simp only [RA, RD])⟩
    · exact p1.elim⟩
def eIf (t : TF) (fa fb : EF) : EF := fun ρ st => (t ρ st).bind fun b s1 => if b = true then fa ρ s1 else fb ρ s1
theorem ex_if (hc : TX X W c ga) (ha : EX X W a fa) (hb : EX X W b fb) : EX X W (.IfExp c a b pos) (eIf ga fa fb) :=
  (pe_ifExp hc ha hb).imp fun σ H Q ⟨μ, ρ, st, r, p⟩ => ⟨μ, ρ, st, r, p.bind fun x s1 v H1 μ1 _ a1 rx p1 => by
    have rx : x = v := rx
    subst rx
    split at p1
    · next h => rw [if_pos h]; exact ⟨μ1, ρ, s1, r.aft a1, p1⟩
    · next h => rw [if_neg h]; exact ⟨μ1, ρ, s1, r.aft a1, p1⟩⟩

/-! ### argument lists, displays -/
def aNil : AF := fun _ st => .ok [] st
def aCons (fa : EF) (fr : AF) : AF := fun ρ st => (fa ρ st).bind fun x s1 => (fr ρ s1).bind fun xs s2 => .ok (x :: xs) s2
variable {es : List Expr} {fr : AF}
theorem ax_nil : AX X W [] aNil := pa_nil.imp fun σ H Q ⟨μ, ρ, st, r, p⟩ => p [] H μ (.refl r.sto) .nil
theorem ax_cons (ha : EX X W a fa) (hr : AX X W es fr) (hs : starEach (a :: es) X.env = (false, eval a X.env) :: starEach es X.env := by rfl) : AX X W (a :: es) (aCons fa fr) :=
  (pa_cons ha hr hs).imp fun σ H Q ⟨μ, ρ, st, r, p⟩ => ⟨μ, ρ, st, r, p.bind fun x s1 v H1 μ1 _ a1 rx p1 => ⟨μ1, ρ, s1, r.aft a1, p1.bind fun xs s2 vs H2 μ2 _ a2 rxs p2 =>
    p2 (v :: vs) H2 μ2 (.refl a2.sto) (.cons (rx.aft a2) rxs)⟩⟩
def eTup (fr : AF) : EF := fun ρ st => (fr ρ st).bind fun xs s1 => if noMu xs = true ∧ xs.length ≤ sizeLine then .ok (.tup xs) s1 else .no
def eLst (fr : AF) : EF := fun ρ st => (fr ρ st).bind fun xs s1 => if noMu xs = true ∧ xs.length ≤ sizeLine then .ok (.lst xs) s1 else .no
/-- a list that is to change -/
def eLstM (fr : AF) : EF := fun ρ st => (fr ρ st).bind fun xs s1 => if noMu xs = true ∧ xs.length ≤ sizeLine then .ok (.mu s1.length) (s1 ++ [.ml xs]) else .no
theorem Aft.tup {K : PySem.W.Frag} {mg : MG} {μ : Wd} {H : Hp} {st : Sto} {p : Addr} {ds : List D} {vs : List V} (s : RSt K mg μ H st) (hp : H p = none) (hl : ds.length ≤ sizeLine) (r : RDs K mg μ H ds vs) :
    Aft K mg μ H μ (upd H p (.tup vs)) st ∧ RD K mg μ (upd H p (.tup vs)) (.tup ds) (.ref p) := by
  have a : Aft K mg μ H μ (upd H p (.tup vs)) st := .fresh s hp
  exact ⟨a, by simp only [RD]; exact ⟨p, vs, rfl, .of upd_same, hl, r.aft a⟩⟩
theorem Aft.lst {K : PySem.W.Frag} {mg : MG} {μ : Wd} {H : Hp} {st : Sto} {p : Addr} {ds : List D} {vs : List V} (s : RSt K mg μ H st) (hp : H p = none) (hl : ds.length ≤ sizeLine) (r : RDs K mg μ H ds vs) :
    Aft K mg μ H (μ.cool p vs) (upd H p (.lst vs)) st ∧ RD K mg (μ.cool p vs) (upd H p (.lst vs)) (.lst ds) (.ref p) := by
  have a : Aft K mg μ H (μ.cool p vs) (upd H p (.lst vs)) st := ⟨Wd.cool_le, .upF hp, s.freshL hp⟩
  exact ⟨a, by simp only [RD]; exact ⟨p, vs, rfl, List.mem_cons_self, hl, r.aft a⟩⟩
theorem Aft.lstM {K : PySem.W.Frag} {mg : MG} {μ : Wd} {H : Hp} {st : Sto} {p : Addr} {ds : List D} {vs : List V} (s : RSt K mg μ H st) (hp : H p = none) (hl : ds.length ≤ sizeLine) (r : RDs K mg μ H ds vs) :
    Aft K mg μ H (μ.more p) (upd H p (.lst vs)) (st ++ [.ml ds]) ∧ RA K mg (μ.more p) (upd H p (.lst vs)) (.mu st.length) (.ref p) :=
  ⟨⟨Wd.more_le, .upF hp, s.new hp hl r⟩, ⟨p, rfl, by rw [← s.len]; simp [Wd.more]⟩⟩
theorem ex_tup {x1} (h : AX X W es fr) : EX X W (.Tuple es x1 pos) (eTup fr) :=
  (pe_tup h).imp fun σ H Q ⟨μ, ρ, st, r, p⟩ => ⟨μ, ρ, st, r, p.bind fun xs s1 vs H1 μ1 _ a1 rx p1 => by
    split at p1
    · next hl =>
      refine ⟨by rw [← rx.length]; exact hl.2, fun q hq => ?_⟩
      obtain ⟨a2, r2⟩ := Aft.tup a1.sto hq hl.2 (rx.rd hl.1)
      exact p1 _ _ _ a2 (.of r2)
    · exact p1.elim⟩
theorem ex_lst (h : AX X W es fr) : EX X W (.List es pos) (eLst fr) :=
  (pe_lst h).imp fun σ H Q ⟨μ, ρ, st, r, p⟩ => ⟨μ, ρ, st, r, p.bind fun xs s1 vs H1 μ1 _ a1 rx p1 => by
    split at p1
    · next hl =>
      refine ⟨by rw [← rx.length]; exact hl.2, fun q hq => ?_⟩
      obtain ⟨a2, r2⟩ := Aft.lst a1.sto hq hl.2 (rx.rd hl.1)
      exact p1 _ _ _ a2 (.of r2)
    · exact p1.elim⟩
theorem ex_lstM (h : AX X W es fr) : EX X W (.List es pos) (eLstM fr) :=
  (pe_lst h).imp fun σ H Q ⟨μ, ρ, st, r, p⟩ => ⟨μ, ρ, st, r, p.bind fun xs s1 vs H1 μ1 _ a1 rx p1 => by
    split at p1
    · next hl =>
      refine ⟨by rw [← rx.length]; exact hl.2, fun q hq => ?_⟩
      obtain ⟨a2, r2⟩ := Aft.lstM a1.sto hq hl.2 (rx.rd hl.1)
      exact p1 _ _ _ a2 r2
    · exact p1.elim⟩

/-! ### calls of built-ins by values -/
abbrev GA := Sto → List D → Option D
def eCB (g : GA) (fr : AF) : EF := fun ρ st => (fr ρ st).bind fun xs s1 => match g s1 xs with
  | some z => .ok z s1
  | none => .no
def CbA (K : PySem.W.Frag) (mg : MG) (r : List V → Hp → VK → Prop) (g : GA) : Prop :=
  ∀ μ H st xs vs z Q, RSt K mg μ H st → RAs K mg μ H xs vs → g st xs = some z → (∀ w H' μ', Aft K mg μ H μ' H' st → RD K mg μ' H' z w → Q w H') → r vs H Q
variable {r : List V → Hp → VK → Prop} {g : GA} {x : Str} {p : Pos}
theorem tcb_of (hg : CbA X.K X.mg r g) {σ : St} {H : Hp} {Q : VK} (h : tOf X.K X.mg W (eCB g fr) σ H Q) : tCB r (tAOf X.K X.mg W fr) σ H Q := by
  obtain ⟨μ, ρ, st, r, p⟩ := h
  exact ⟨μ, ρ, st, r, p.bind fun xs s1 vs H1 μ1 _ a1 rx p1 => by
    split at p1
    · next z hz => exact hg μ1 H1 s1 xs vs z Q a1.sto rx hz fun w H2 μ2 a2 rw => p1 w H2 μ2 a2 (.of rw)
    · exact p1.elim⟩
theorem ex_callB {id : String} (hc : CallR X (.builtin id) r) (hg : CbA X.K X.mg r g) (hm : X.mg x = none) (hv : bootBuiltins x = some (.builtin id)) (ha : AX X W (e :: es) fr) (hgl : Gl X x := by rfl) (hn : x ≠ "__name__" := by decide) (hdb : (x == ("__debug__" : Str)) = false := by decide)
    (he : starEach (e :: es) X.env = (false, eval e X.env) :: starEach es X.env := by rfl) (hpl : (backTo pos (starEach es X.env)).any (·.1) = false := by rfl) :
    EX X W (.Call (.Name x p) (e :: es) [] pos) (eCB g fr) := (pe_callB hc hgl hm hv ha hn hdb he hpl).imp fun _ _ _ h => tcb_of hg h
theorem ex_callTy {T : String} (hc : CallR X (.type T) r) (hg : CbA X.K X.mg r g) (hm : X.mg x = none) (hv : bootBuiltins x = some (.type T)) (ha : AX X W (e :: es) fr) (hgl : Gl X x := by rfl) (hn : x ≠ "__name__" := by decide) (hdb : (x == ("__debug__" : Str)) = false := by decide)
    (he : starEach (e :: es) X.env = (false, eval e X.env) :: starEach es X.env := by rfl) (hpl : (backTo pos (starEach es X.env)).any (·.1) = false := by rfl) :
    EX X W (.Call (.Name x p) (e :: es) [] pos) (eCB g fr) := (pe_callTy hc hgl hm hv ha hn hdb he hpl).imp fun _ _ _ h => tcb_of hg h

/-! ### calls of defs -/
def spF (K : PySem.W.Frag) (mg : MG) (n : Nat) (den : Den) : Sp := fun vs H Q E => ∃ μ st ds, RSt K mg μ H st ∧ RAs K mg μ H ds vs ∧ ds.length = n ∧
  PostE K mg (RA K mg) (fun cls dd _ H' => E cls dd H') μ H [] Q (den ds st)
/-- a def as it stands behind the top, and what it is worth -/
structure DefOk (P : Program) (w : World) (K : PySem.W.Frag) (mg : MG) (base : Heap) (x : Str) (k n : Nat) (den : Den) : Prop where
  ex : ∃ (f : Addr) (fd : FuncData) (ps : List Str), mg x = some (.ref f) ∧ PySem.W.keepIn K (.ref f) = true ∧ Binds K fd ps [] ∧ FnG P w K mg base (L2.CX P w) k f fd ps (spF K mg n den)
def eCall (den : Den) (fr : AF) : EF := fun ρ st => (fr ρ st).bind fun xs s1 => den xs s1
def lenOk (n : Nat) (den : Den) : Den := fun ds st => if ds.length = n then den ds st else .no
theorem ex_call {k n : Nat} {den : Den} (D : DefOk X.prog X.w X.K X.mg X.base x k n den) (hr : Room k X.A) (gd : X.A.guards = some []) (tk : Takes X W) (ha : AX X W (e :: es) fr) (hgl : Gl X x := by rfl) (hdb : (x == ("__debug__" : Str)) = false := by decide)
    (he : starEach (e :: es) X.env = (false, eval e X.env) :: starEach es X.env := by rfl) (hpl : (backTo pos (starEach es X.env)).any (·.1) = false := by rfl) :
    EX X W (.Call (.Name x p) (e :: es) [] pos) (eCall (lenOk n den) fr) := by
  obtain ⟨f, fd, ps, hm, hk, hb, F⟩ := D.ex
  refine (pe_callG (dvs := []) (ds := []) F hr gd hgl hm hk hb .nil (fun σ => passAt tk σ) ha hdb he hpl).imp fun σ H Q ⟨μ, ρ, st, r, p⟩ => ⟨μ, ρ, st, r, p.bind fun xs s1 vs H1 μ1 _ a1 rx p1 => ?_⟩
  unfold lenOk at p1
  split at p1
  · next hl =>
    refine ⟨μ1, s1, xs, a1.sto, by rw [List.append_nil]; exact rx, hl, ?_⟩
    cases q : den xs s1 with
    | ok d s2 => rw [q] at p1; exact p1
    | er y s2 => rw [q] at p1; exact p1
    | no => rw [q] at p1; exact p1
  · exact p1.elim
end
end Fn

set_option Elab.async false
set_option linter.all false
set_option autoImplicit false
set_option maxRecDepth 100000
set_option maxHeartbeats 4000000
/-! Layer Fn, third part: targets, statements, loops, comprehensions, defs. -/
namespace Fn
open PySem PySem.Spec PyProof.Rows L2

/-! ### targets: names, and tuples of them -/
inductive Tg where
  | nm (i : Nat) | tp (l : List Tg)
mutual
def gT (st : Sto) : Tg → D → Rho → Option Rho
  | .nm i, d, ρ => some (ρ.set i (some d))
  | .tp l, d, ρ => match d with
    | .tup ds => gTs st l ds ρ
    | .lst ds => gTs st l ds ρ
    | _ => none
def gTs (st : Sto) : List Tg → List D → Rho → Option Rho
  | [], ds, ρ => match ds with
    | [] => some ρ
    | _ => none
  | t :: l, ds, ρ => match ds with
    | d :: r => match gT st t d ρ with
      | some ρ' => gTs st l r ρ'
      | none => none
    | [] => none
end
/-- a tuple or a list that is unpacked -/
def gSqT (K : PySem.W.Frag) (n : Nat) (t : TGs) : TG := fun v σ H Q => gTup K n t v σ H Q ∨ gLst K n t v σ H Q
mutual
def rT (K : PySem.W.Frag) : Tg → TG
  | .nm i => gName i
  | .tp l => gSqT K l.length (rTs K l)
def rTs (K : PySem.W.Frag) : List Tg → TGs
  | [] => gNil
  | t :: l => gCons (rT K t) (rTs K l)
end
mutual
def tgIn (vs : List Nat) : Tg → Bool
  | .nm i => vs.contains i
  | .tp l => tgsIn vs l
def tgsIn (vs : List Nat) : List Tg → Bool
  | [] => true
  | t :: l => tgIn vs t && tgsIn vs l
end
section
variable {K : PySem.W.Frag} {mg : MG} {μ : Wd} {H : Hp} {st : Sto}
theorem gTs_length : ∀ {l : List Tg} {ds : List D} {ρ ρ' : Rho}, gTs st l ds ρ = some ρ' → ds.length = l.length
  | [], ds, ρ, ρ', e => by
    unfold gTs at e; split at e
    · rfl
    · cases e
  | t :: l, ds, ρ, ρ', e => by
    unfold gTs at e; split at e
    · next d r => split at e
                  · simp [gTs_length e]
                  · cases e
    · cases e
theorem wipe_set {σ : St} {i : Nat} {o : Option V} : ∀ {vs : List Nat}, vs.contains i = true → wipe (σ.set i o) vs = wipe σ vs
  | [], h => by simp at h
  | v :: vs, h => by
    unfold wipe
    by_cases e : v = i
    · subst e
      by_cases h' : vs.contains v = true
      · rw [wipe_set h']
      · have hn : v ∉ vs := by simpa using h'
        have : ∀ (ws : List Nat), v ∉ ws → wipe (σ.set v o) ws = (wipe σ ws).set v o := by
          intro ws
          induction ws with
          | nil => intro _; rfl
          | cons w ws ih =>
            intro hw
            simp only [List.mem_cons, not_or] at hw
            unfold wipe
            rw [ih hw.2, List.set_comm _ _ (Ne.symm hw.1)]
        rw [this vs hn, List.set_set]
    · have h' : vs.contains i = true := by
        simp only [List.contains_cons, Bool.or_eq_true, beq_iff_eq] at h
        rcases h with h | h
        · exact absurd h.symm e
        · exact h
      rw [wipe_set h']
mutual
/-- a target's reading: the slots behind it -/
theorem rT_of {vs : List Nat} {Q : St → Hp → Prop} (so : RSt K mg μ H st) : ∀ {t : Tg} {d : D} {v : V} {ρ ρ' : Rho} {σ : St}, RA K mg μ H d v → RE K mg μ H ρ σ → gT st t d ρ = some ρ' →
    (∀ σ', RE K mg μ H ρ' σ' → (tgIn vs t = true → wipe σ' vs = wipe σ vs) → Q σ' H) → rT K t v σ H Q
  | .nm i, d, v, ρ, ρ', σ, rd, re, e, q => by
    unfold gT at e; cases e
    unfold rT gName
    exact q _ (re.set rd) fun h => wipe_set (by simpa only [tgIn] using h)
  | .tp l, d, v, ρ, ρ', σ, rd, re, e, q => by
    unfold gT at e
    split at e
    · next ds =>
      obtain ⟨a, ws, rfl, h2, h3, h4⟩ := tup_of rd rfl
      unfold rT gSqT gTup
      exact .inl ⟨a, ws, rfl, h2, by rw [← h4.length]; exact gTs_length e, rTs_of so h4 re e fun σ' r' w => q σ' r' (by simpa only [tgIn] using w)⟩
    · next ds =>
      have rd : RD K mg μ H (.lst ds) v := rd
      simp only [RD] at rd
      obtain ⟨a, ws, rfl, h2, h3, h4⟩ := rd
      unfold rT gSqT gLst
      exact .inr ⟨a, ws, rfl, .of (so.fz _ h2), by rw [← h4.length]; exact gTs_length e, rTs_of so h4 re e fun σ' r' w => q σ' r' (by simpa only [tgIn] using w)⟩
    · cases e
theorem rTs_of {vs : List Nat} {Q : St → Hp → Prop} (so : RSt K mg μ H st) : ∀ {l : List Tg} {ds : List D} {ws : List V} {ρ ρ' : Rho} {σ : St}, RDs K mg μ H ds ws → RE K mg μ H ρ σ → gTs st l ds ρ = some ρ' →
    (∀ σ', RE K mg μ H ρ' σ' → (tgsIn vs l = true → wipe σ' vs = wipe σ vs) → Q σ' H) → rTs K l ws σ H Q
  | [], ds, ws, ρ, ρ', σ, rd, re, e, q => by
    unfold gTs at e; split at e
    · cases e
      simp only [RDs] at rd; subst rd
      unfold rTs gNil
      exact ⟨rfl, q σ re fun _ => rfl⟩
    · cases e
  | t :: l, ds, ws, ρ, ρ', σ, rd, re, e, q => by
    unfold gTs at e; split at e
    · next d r =>
      split at e
      · next ρ1 h1 =>
        simp only [RDs] at rd
        obtain ⟨v, r', rfl, h2, h3⟩ := rd
        unfold rTs gCons
        exact ⟨v, r', rfl, rT_of (vs := vs) so (.of h2) re h1 fun σ1 re1 w1 => rTs_of (vs := vs) so h3 re1 e fun σ' re' w' => q σ' re' fun h => by
          simp only [tgsIn, Bool.and_eq_true] at h
          rw [w' h.2, w1 h.1]⟩
      · cases e
    · cases e
end
end

/-! ### statements -/
inductive SR where
  | nx (ρ : Rho) (st : Sto) | rt (d : D) (st : Sto) | bk (ρ : Rho) (st : Sto) | ct (ρ : Rho) (st : Sto) | er (x : Exc) (ρ : Rho) (st : Sto) | no
abbrev SF := Rho → Sto → SR
def PostS (K : PySem.W.Frag) (mg : MG) (W : WX) (μ : Wd) (H : Hp) (D : Ends) : SR → Prop
  | .nx ρ' st' => ∀ σ' H' μ', Aft K mg μ H μ' H' st' → RE K mg μ' H' ρ' σ' → D.nx σ' H'
  | .bk ρ' st' => ∀ σ' H' μ', Aft K mg μ H μ' H' st' → RE K mg μ' H' ρ' σ' → D.bk σ' H'
  | .ct ρ' st' => ∀ σ' H' μ', Aft K mg μ H μ' H' st' → RE K mg μ' H' ρ' σ' → D.ct σ' H'
  | .rt d st' => ∀ v H' μ', Aft K mg μ H μ' H' st' → RA K mg μ' H' d v → D.rt v H'
  | .er x ρ' st' => ∀ cls dd σ' H' μ', Aft K mg μ H μ' H' st' → RE K mg μ' H' ρ' σ' → XR K mg μ' H' x cls dd → W cls dd σ' H'
  | .no => False
def tSOf (K : PySem.W.Frag) (mg : MG) (W : WX) (f : SF) : TS := fun D σ H => ∃ μ ρ st, Rel K mg μ H ρ σ st ∧ PostS K mg W μ H D (f ρ st)
def SX (X : Cx) (W : WX) (s : Stmt) (f : SF) : Prop := PS X s (tSOf X.K X.mg W f)
def SXs (X : Cx) (W : WX) (s : List Stmt) (f : SF) : Prop := PSs X s (tSOf X.K X.mg W f)
section
variable {K : PySem.W.Frag} {mg : MG} {μ μ' : Wd} {H H' : Hp} {W : WX} {E : Ends}
theorem PostS.aft {r : SR} {st : Sto} (p : PostS K mg W μ H E r) (a : Aft K mg μ H μ' H' st) : PostS K mg W μ' H' E r := by
  cases r with
  | nx ρ' st' => exact fun σ2 H2 μ2 b q => p σ2 H2 μ2 (a.trans b) q
  | bk ρ' st' => exact fun σ2 H2 μ2 b q => p σ2 H2 μ2 (a.trans b) q
  | ct ρ' st' => exact fun σ2 H2 μ2 b q => p σ2 H2 μ2 (a.trans b) q
  | rt d st' => exact fun v H2 μ2 b q => p v H2 μ2 (a.trans b) q
  | er x ρ' st' => exact fun cls dd σ2 H2 μ2 b q => p cls dd σ2 H2 μ2 (a.trans b) q
  | no => exact p
end
/-- an expression, then more -/
def R.bindS {α : Type} (r : R α) (ρ : Rho) (f : α → Sto → SR) : SR :=
  match r with
  | .ok a st => f a st
  | .er x st => .er x ρ st
  | .no => .no
section
variable {X : Cx} {W : WX} {a b c e tg : Expr} {fa fb fc f : EF} {pos : Pos} {α β : Type} {ra : Wd → Hp → α → β → Prop}
theorem PostS.bind {K : PySem.W.Frag} {mg : MG} {μ : Wd} {H : Hp} {E : Ends} {ρ : Rho} {σ : St} {Q1 : β → Hp → Prop} {r : R α} {k : α → Sto → SR} (re : RE K mg μ H ρ σ) (p : PostS K mg W μ H E (r.bindS ρ k))
    (h : ∀ d st' v H' μ', r = .ok d st' → Aft K mg μ H μ' H' st' → ra μ' H' d v → PostS K mg W μ' H' E (k d st') → Q1 v H') : PostE K mg ra W μ H σ Q1 r := by
  cases r with
  | ok d st' => exact fun v H' μ' a q => h d st' v H' μ' rfl a q (PostS.aft p a)
  | er x st' => exact fun cls dd H' μ' a q => p cls dd σ H' μ' a (re.keep a.keep a.ext) q
  | no => exact p
def sNext : SF := fun ρ st => .nx ρ st
def sSeq (f g : SF) : SF := fun ρ st => match f ρ st with
  | .nx ρ' st' => g ρ' st'
  | o => o
theorem sxs_nil : SXs X W [] sNext := pss_nil.imp fun E σ H ⟨μ, ρ, st, r, p⟩ => p σ H μ (.refl r.sto) r.env
variable {s : Stmt} {ss : List Stmt} {fs gs : SF}
theorem sxs_cons (h : SX X W s fs) (h' : SXs X W ss gs) : SXs X W (s :: ss) (sSeq fs gs) := by
  refine (pss_cons h h').imp fun E σ H ⟨μ, ρ, st, r, p⟩ => ⟨μ, ρ, st, r, ?_⟩
  unfold sSeq at p
  cases q : fs ρ st with
  | nx ρ' st' => rw [q] at p; exact fun σ' H' μ' a re => ⟨μ', ρ', st', ⟨re, a.sto⟩, PostS.aft p a⟩
  | rt d st' => rw [q] at p; exact p
  | bk ρ' st' => rw [q] at p; exact p
  | ct ρ' st' => rw [q] at p; exact p
  | er x ρ' st' => rw [q] at p; exact p
  | no => rw [q] at p; exact p
theorem sxs_one (h : SX X W s fs) : SXs X W [s] fs := pss_one h
def sExpr (fa : EF) : SF := fun ρ st => (fa ρ st).bindS ρ fun _ s1 => .nx ρ s1
theorem sx_expr (h : EX X W e f) (hs : swapsWith e none pos.line X.env = pure false := by rfl) : SX X W (.Expr e pos) (sExpr f) :=
  (ps_expr h hs).imp fun E σ H ⟨μ, ρ, st, r, p⟩ => ⟨μ, ρ, st, r, PostS.bind r.env p fun d st' v H' μ' _ a _ p' => p' σ H' μ' (.refl a.sto) (r.aft a).env⟩
def sRet (fa : EF) : SF := fun ρ st => (fa ρ st).bindS ρ fun d s1 => .rt d s1
theorem sx_ret (h : EX X W e f) : SX X W (.Return (some e) pos) (sRet f) :=
  (ps_ret h).imp fun E σ H ⟨μ, ρ, st, r, p⟩ => ⟨μ, ρ, st, r, PostS.bind r.env p fun d st' v H' μ' _ a rd p' => p' v H' μ' (.refl a.sto) rd⟩
theorem sx_pass : SX X W (.Pass pos) sNext := ps_pass.imp fun E σ H ⟨μ, ρ, st, r, p⟩ => p σ H μ (.refl r.sto) r.env
def sBreak : SF := fun ρ st => .bk ρ st
def sCont : SF := fun ρ st => .ct ρ st
theorem sx_break : SX X W (.Break pos) sBreak := ps_break.imp fun E σ H ⟨μ, ρ, st, r, p⟩ => p σ H μ (.refl r.sto) r.env
theorem sx_cont : SX X W (.Continue pos) sCont := ps_continue.imp fun E σ H ⟨μ, ρ, st, r, p⟩ => p σ H μ (.refl r.sto) r.env
def sIf (t : TF) (f g : SF) : SF := fun ρ st => (t ρ st).bindS ρ fun b s1 => if b = true then f ρ s1 else g ρ s1
variable {ga : TF} {sa sb : List Stmt}
theorem sx_if (hc : TX X W c ga) (ha : SXs X W sa fs) (hb : SXs X W sb gs) : SX X W (.If c sa sb pos) (sIf ga fs gs) :=
  (ps_if hc ha hb).imp fun E σ H ⟨μ, ρ, st, r, p⟩ => ⟨μ, ρ, st, r, PostS.bind r.env p fun d st' v H' μ' _ a rd p' => by
    have rd : d = v := rd
    subst rd
    split at p'
    · next h => rw [if_pos h]; exact ⟨μ', ρ, st', r.aft a, p'⟩
    · next h => rw [if_neg h]; exact ⟨μ', ρ, st', r.aft a, p'⟩⟩
/-- target = value -/
def sAsg (t : Tg) (fa : EF) : SF := fun ρ st => (fa ρ st).bindS ρ fun d s1 => match gT s1 t d ρ with
  | some ρ' => .nx ρ' s1
  | none => .no
theorem asg_read {t : Tg} {te : TE} (h : PS X s (tAsg te (rT X.K t))) (hi : ∀ σ H Q, tOf X.K X.mg W f σ H Q → te σ H Q) : SX X W s (sAsg t f) :=
  h.imp fun E σ H ⟨μ, ρ, st, r, p⟩ => hi _ _ _ ⟨μ, ρ, st, r, PostS.bind r.env p fun d st' v H' μ' _ a rd p' => by
    split at p'
    · next ρ' hg => exact rT_of (vs := []) a.sto rd (r.aft a).env hg fun σ' re _ => p' σ' H' μ' (.refl a.sto) re
    · exact p'.elim⟩
theorem sx_asg {t : Tg} (h : EX X W e f) (hg : PG X tg (rT X.K t)) (hs : swapsWithSole [tg] e pos.line X.env = pure false := by rfl) (hw : swappedStores [tg] e X.env = pure none := by rfl)
    (h1 : (assignEach [tg] X.env).map (·.2) = [assign tg X.env] := by rfl) : SX X W (.Assign [tg] e pos) (sAsg t f) := asg_read (ps_asg h hg hs hw h1) fun _ _ _ q => q
theorem gx_nm {i : Nat} {x : Str} (hN : X.N.Nodup) (hi : X.N[i]? = some x) (hx : Loc X.env.scope x) (hf : X.fn x = true ∨ X.env.scope.names.lookup x = some .local := by first | exact .inl rfl | exact .inr rfl | assumption) : PG X (.Name x pos) (rT X.K (.nm i)) := by
  have := pg_name (pos := pos) hN hi hx hf
  unfold rT; exact this
theorem gx_tp {es : List Expr} {k : Nat} {l : List Tg} (hc : X.calm = true) (h : PGs X es (rTs X.K l)) (hn : (assignEach es X.env).length = l.length := by rfl) (hst : (assignEach es X.env).findIdx? (·.1) = none := by rfl) :
    PG X (.Tuple es k pos) (rT X.K (.tp l)) := by
  have h1 := pg_tup (pos := pos) (k := k) hc h hn hst
  have h2 := pg_lst (pos := pos) (k := k) hc h hn hst
  unfold rT
  exact ⟨fun pins s σ H v u Q I r hw => hw.elim (h1.run pins s σ H v u Q I r) (h2.run pins s σ H v u Q I r)⟩
theorem gxs_nil : PGs X [] (rTs X.K []) := by unfold rTs; exact pgs_nil
/-- name op= value -/
def sAug (i : Nat) (g : G2) (fa : EF) : SF := fun ρ st => match ρ[i]? with
  | some (some x) => (fa ρ st).bindS ρ fun y s1 => match g s1 x y with
    | some z => .nx (ρ.set i (some z)) s1
    | none => .no
  | _ => .no
theorem sx_aug {i : Nat} {x : Str} {op : Operator} {r : TIp} {g : G2} {pos' : Pos} (hN : X.N.Nodup) (hi : X.N[i]? = some x) (hx : Loc X.env.scope x) (h : EX X W e f) (ho : PIp X op r)
    (hg : ∀ μ H st x y v u z Q, RSt X.K X.mg μ H st → RA X.K X.mg μ H x v → RA X.K X.mg μ H y u → g st x y = some z → (∀ w H' μ', Aft X.K X.mg μ H μ' H' st → RD X.K X.mg μ' H' z w → Q w H') → r v u H Q)
    (hf : X.fn x = true ∨ X.env.scope.names.lookup x = some .local := by first | exact .inl rfl | exact .inr rfl | assumption) :
    SX X W (.AugAssign (.Name x pos') op e pos) (sAug i g f) :=
  (ps_aug hN hi hx h ho hf).imp fun E σ H ⟨μ, ρ, st, r, p⟩ => by
    unfold sAug at p
    split at p
    · next d hd =>
      obtain ⟨v, h1, h2⟩ := r.env.at_ _ _ hd
      refine ⟨v, h1, μ, ρ, st, r, PostS.bind r.env p fun y s1 u H1 μ1 _ a1 ry p1 => ?_⟩
      split at p1
      · next z hz => exact hg μ1 H1 s1 d y v u z _ a1.sto (h2.aft a1) ry hz fun w H2 μ2 a2 rz => p1 _ _ _ a2 (((r.aft a1).aft a2).env.set (.of rz))
      · exact p1.elim
    · exact p.elim

/-! ### loops -/
/-- an iterator yields the items -/
def IOk (K : PySem.W.Frag) (mg : MG) (J : It) (items : List D) (μ0 : Wd) (H0 : Hp) : Prop :=
  ∀ μ H st, Aft K mg μ0 H0 μ H st → (∀ (i : Nat) d, items[i]? = some d → J.go i H ∧ ∀ x H', J.yld i H x H' → ∃ μ', Aft K mg μ H μ' H' st ∧ RD K mg μ' H' d x) ∧ ∀ i, items.length ≤ i → J.stop i H
abbrev IF := Rho → Sto → R (List D)
def tIOf (K : PySem.W.Frag) (mg : MG) (W : WX) (f : IF) : TI := fun σ H Q => ∃ μ ρ st, Rel K mg μ H ρ σ st ∧ PostE K mg (fun μ' H' (items : List D) (J : It) => items.length ≤ sizeLine ∧ IOk K mg J items μ' H') W μ H σ Q (f ρ st)
def IX (X : Cx) (W : WX) (tg iter : Expr) (f : IF) : Prop := PI X tg iter (tIOf X.K X.mg W f)
def forD (t : Tg) (body : SF) : List D → SF
  | [], ρ, st => .nx ρ st
  | d :: r, ρ, st => match gT st t d ρ with
    | some ρ1 => match body ρ1 st with
      | .nx ρ2 s2 => forD t body r ρ2 s2
      | .ct ρ2 s2 => forD t body r ρ2 s2
      | .bk ρ2 s2 => .nx ρ2 s2
      | o => o
    | none => .no
def sFor (fi : IF) (t : Tg) (body : SF) : SF := fun ρ st => (fi ρ st).bindS ρ fun items s1 => forD t body items ρ s1
theorem drop_cons {α : Type} {l : List α} {i : Nat} (h : i < l.length) : ∃ d, l[i]? = some d ∧ l.drop i = d :: l.drop (i + 1) :=
  ⟨l[i], List.getElem?_eq_getElem h, List.drop_eq_getElem_cons h⟩
variable {iter : Expr} {body : List Stmt} {fi : IF} {t : Tg}
theorem sx_for (hp : PassesOwn (model X.prog X.w) X.A X.env X.xe) (hc : X.calm = true) (hi : IX X W tg iter fi) (hg : PG X tg (rT X.K t)) (hb : SXs X W body fs) (hs : ∀ x, foldedSetIterable iter X.env x = pure x := by intro _; rfl) :
    SX X W (.For tg iter body [] pos) (sFor fi t fs) := by
  refine (ps_for hp hc hi hg hb hs).imp fun E σ0 H0 ⟨μ, ρ, st, r, p⟩ => ⟨μ, ρ, st, r, PostS.bind r.env p fun items s1 J H1 μ1 _ a1 hJ p1 => ?_⟩
  refine ⟨fun i m σ H => m = items.length - i ∧ ∃ μ2 ρ2 s2, Aft X.K X.mg μ1 H1 μ2 H s2 ∧ RE X.K X.mg μ2 H ρ2 σ ∧ PostS X.K X.mg W μ2 H E (forD t fs (items.drop i) ρ2 s2),
    ⟨_, rfl, μ1, ρ, s1, .refl a1.sto, (r.aft a1).env, by simpa using p1⟩, fun i m σ H ⟨hm, μ2, ρ2, s2, a2, re, p2⟩ => ?_⟩
  obtain ⟨hgo, hstop⟩ := hJ.2 μ2 H s2 a2
  by_cases hl : i < items.length
  · obtain ⟨d, hd, hdr⟩ := drop_cons hl
    rw [hdr] at p2
    obtain ⟨g1, g2⟩ := hgo i d hd
    refine .inr ⟨g1, fun σ' H' => (items.length - (i + 1) = items.length - (i + 1)) ∧ ∃ μ2 ρ2 s2, Aft X.K X.mg μ1 H1 μ2 H' s2 ∧ RE X.K X.mg μ2 H' ρ2 σ' ∧ PostS X.K X.mg W μ2 H' E (forD t fs (items.drop (i + 1)) ρ2 s2),
      fun σ' H' ⟨_, q⟩ => ⟨items.length - (i + 1), by omega, rfl, q⟩, fun x H' hy => ?_⟩
    obtain ⟨μ3, a3, rx⟩ := g2 x H' hy
    have p3 := PostS.aft p2 a3
    unfold forD at p3
    split at p3
    · next ρ3 hg3 =>
      refine rT_of (vs := []) a3.sto (.of rx) (re.keep a3.keep a3.ext) hg3 fun σ4 re4 _ => ⟨μ3, ρ3, s2, ⟨re4, a3.sto⟩, ?_⟩
      cases q : fs ρ3 s2 with
      | nx ρ5 s5 => rw [q] at p3; exact fun σ6 H6 μ6 a6 re6 => ⟨rfl, μ6, ρ5, s5, (a2.trans a3).trans a6, re6, PostS.aft p3 a6⟩
      | ct ρ5 s5 => rw [q] at p3; exact fun σ6 H6 μ6 a6 re6 => ⟨rfl, μ6, ρ5, s5, (a2.trans a3).trans a6, re6, PostS.aft p3 a6⟩
      | bk ρ5 s5 => rw [q] at p3; exact p3
      | rt d5 s5 => rw [q] at p3; exact p3
      | er x5 ρ5 s5 => rw [q] at p3; exact p3
      | no => rw [q] at p3; exact p3
    · exact p3.elim
  · rw [List.drop_eq_nil_of_le (by omega)] at p2
    exact .inl ⟨hstop i (by omega), p2 σ H μ2 (.refl a2.sto) re⟩
def whileD (t : TF) (body : SF) : Nat → SF
  | 0, _, _ => .no
  | n + 1, ρ, st => (t ρ st).bindS ρ fun b s1 => if b = true then match body ρ s1 with
      | .nx ρ2 s2 => whileD t body n ρ2 s2
      | .ct ρ2 s2 => whileD t body n ρ2 s2
      | .bk ρ2 s2 => .nx ρ2 s2
      | o => o
    else .nx ρ s1
theorem sx_while (n : Nat) (hp : PassesOwn (model X.prog X.w) X.A X.env X.xe) (hc : TX X W c ga) (hb : SXs X W body fs) : SX X W (.While c body [] pos) (whileD ga fs n) := by
  refine (ps_while hp hc hb).imp fun E σ0 H0 ⟨μ, ρ, st, r, p⟩ => ?_
  refine ⟨fun m σ H => ∃ μ2 ρ2 s2, Rel X.K X.mg μ2 H ρ2 σ s2 ∧ PostS X.K X.mg W μ2 H E (whileD ga fs m ρ2 s2), ⟨n, μ, ρ, st, r, p⟩, fun m σ H ⟨μ2, ρ2, s2, r2, p2⟩ => ?_⟩
  cases m with
  | zero => exact p2.elim
  | succ m =>
    unfold whileD at p2
    refine ⟨μ2, ρ2, s2, r2, PostS.bind r2.env p2 fun d s3 v H3 μ3 _ a3 rd p3 => ?_⟩
    have rd : d = v := rd
    subst rd
    split at p3
    · next h =>
      rw [if_pos h]
      refine ⟨fun σ' H' => ∃ μ2 ρ2 s2, Rel X.K X.mg μ2 H' ρ2 σ' s2 ∧ PostS X.K X.mg W μ2 H' E (whileD ga fs m ρ2 s2), fun σ' H' q => ⟨m, Nat.lt_succ_self _, q⟩, μ3, ρ2, s3, r2.aft a3, ?_⟩
      cases q : fs ρ2 s3 with
      | nx ρ5 s5 => rw [q] at p3; exact fun σ6 H6 μ6 a6 re6 => ⟨μ6, ρ5, s5, ⟨re6, a6.sto⟩, PostS.aft p3 a6⟩
      | ct ρ5 s5 => rw [q] at p3; exact fun σ6 H6 μ6 a6 re6 => ⟨μ6, ρ5, s5, ⟨re6, a6.sto⟩, PostS.aft p3 a6⟩
      | bk ρ5 s5 => rw [q] at p3; exact p3
      | rt d5 s5 => rw [q] at p3; exact p3
      | er x5 ρ5 s5 => rw [q] at p3; exact p3
      | no => rw [q] at p3; exact p3
    · next h =>
      rw [if_neg h]
      exact p3 σ H3 μ3 (.refl a3.sto) (r2.aft a3).env

/-! ### comprehensions -/
abbrev W0 : WX := fun _ _ _ _ => False
def wipeR (ρ : Rho) : List Nat → Rho
  | [] => ρ
  | v :: vs => (wipeR ρ vs).set v none
theorem RE.unset {K : PySem.W.Frag} {mg : MG} {μ : Wd} {H : Hp} {ρ : Rho} {σ : St} (r : RE K mg μ H ρ σ) (i : Nat) : RE K mg μ H (ρ.set i none) (σ.set i none) := by
  refine ⟨by simp [r.len], fun j e hj => ?_⟩
  by_cases hi : j = i
  · subst hi
    by_cases hl : j < ρ.length
    · rw [List.getElem?_set_self hl] at hj; cases hj
    · rw [List.set_eq_of_length_le (by omega)] at hj
      have := (List.getElem?_eq_some_iff.mp hj).1; omega
  · rw [List.getElem?_set_ne (Ne.symm hi)] at hj
    rw [List.getElem?_set_ne (Ne.symm hi)]
    exact r.at_ j e hj
theorem RE.wipe {K : PySem.W.Frag} {mg : MG} {μ : Wd} {H : Hp} {ρ : Rho} {σ : St} (r : RE K mg μ H ρ σ) : ∀ vs : List Nat, RE K mg μ H (wipeR ρ vs) (wipe σ vs)
  | [] => r
  | v :: vs => (RE.wipe r vs).unset v
theorem wipe_wipe (σ : St) (vs : List Nat) : wipe (wipe σ vs) vs = wipe σ vs := by
  have idem : ∀ (us : List Nat) (τ : St), (∀ u ∈ us, ∀ (o : Option V), τ[u]? = some o → o = none) → wipe τ us = τ := by
    intro us
    induction us with
    | nil => intro τ _; rfl
    | cons u us ih =>
      intro τ hτ
      unfold wipe
      rw [ih τ fun w hw => hτ w (List.mem_cons_of_mem _ hw)]
      apply List.ext_getElem?
      intro j
      by_cases hj : u = j
      · subst hj
        by_cases hl : u < τ.length
        · rw [List.getElem?_set_self hl]
          have := hτ u List.mem_cons_self _ (List.getElem?_eq_getElem hl)
          rw [List.getElem?_eq_getElem hl, this]
        · rw [List.set_eq_of_length_le (by omega)]
      · rw [List.getElem?_set_ne hj]
  refine idem vs (wipe σ vs) fun u hu o ho => ?_
  cases o with
  | none => rfl
  | some y => exact absurd hu (wipe_some ho).2
theorem take_more' {α : Type} {l t : List α} {n : Nat} (h : l.length = n) : (l ++ t).take (n + 1) = l ++ t.take 1 := by
  rw [List.take_append, List.take_of_length_le (by omega)]
  congr 1
  rw [h]; congr 1; omega
/-- the turns of a comprehension; the new list is the store's n-th object; k turns have been -/
def lcD (t : Tg) (tt : TF) (fe : EF) (vs : List Nat) (n : Nat) : Nat → List D → Rho → Sto → R Unit
  | _, [], _, st => .ok () st
  | k, d :: r, ρ, st => match gT st t d (wipeR ρ vs) with
    | some ρ1 => match tt ρ1 st with
      | .ok b s2 => if b = true then match fe ρ1 s2 with
          | .ok z s3 => match s3[n]? with
            | some (.ml acc) => if muD z = false ∧ acc.length ≤ k then lcD t tt fe vs n (k + 1) r ρ (s3.set n (.ml (acc ++ [z]))) else .no
            | _ => .no
          | _ => .no
        else lcD t tt fe vs n (k + 1) r ρ s2
      | _ => .no
    | none => .no
/-- what a comprehension leaves: a list that changes no more, or one that is to change -/
def lcEnd (keep : Bool) (n : Nat) (st : Sto) : R D := match st[n]? with
  | some (.ml acc) => if keep = true then .ok (.mu n) (st.take (n + 1)) else .ok (.lst acc) (st.take n)
  | _ => .no
def eLc (keep : Bool) (fi : IF) (t : Tg) (tt : TF) (fe : EF) (vs : List Nat) : EF := fun ρ st => (fi ρ st).bind fun items s1 =>
  (lcD t tt fe vs s1.length 0 items ρ (s1 ++ [.ml []])).bind fun _ s2 => lcEnd keep s1.length s2
def tYesF : TF := fun _ st => .ok true st
theorem tlc_read {wi : TI} {keep : Bool} {ta : TT} {tel : TE} {tt : TF} {fe : EF} {vs : List Nat} (hin : tgIn vs t = true) (hwi : ∀ σ H Q, tIOf X.K X.mg W fi σ H Q → wi σ H Q)
    (hta : ∀ σ H Q, tTOf X.K X.mg W0 tt σ H Q → ta σ H Q) (hte : ∀ σ H Q, tOf X.K X.mg W0 fe σ H Q → tel σ H Q)
    {σ : St} {H : Hp} {Q : VK} (h : tOf X.K X.mg W (eLc keep fi t tt fe vs) σ H Q) : tLc wi (rT X.K t) ta tel vs σ H Q := by
  obtain ⟨μ, ρ, st, r, p⟩ := h
  refine hwi _ _ _ ⟨μ, ρ, st, r, p.bind fun items s1 J H1 μ1 _ a1 hJ p1 => fun L hL => ?_⟩
  obtain ⟨aL, rL⟩ := Aft.lstM (ds := []) (vs := []) a1.sto hL (Nat.zero_le _) RDs.nil
  have hlen : μ1.mu.length = s1.length := a1.sto.len
  have hLmu : (μ1.more L).mu[s1.length]? = some L := by rw [← hlen]; simp [Wd.more]
  refine ⟨fun i m H => m = items.length - i ∧ ∃ μ2 s2, Aft X.K X.mg (μ1.more L) (upd H1 L (.lst [])) μ2 H s2 ∧
      PostE X.K X.mg (RA X.K X.mg) W μ1 H1 σ Q ((lcD t tt fe vs s1.length i (items.drop i) ρ s2).bind fun _ s3 => lcEnd keep s1.length s3),
    ⟨_, rfl, μ1.more L, s1 ++ [.ml []], .refl aL.sto, by simpa using p1⟩, fun i m H ⟨hm, μ2, s2, a2, p2⟩ => ?_⟩
  obtain ⟨hgo, hstop⟩ := hJ.2 μ2 H s2 (aL.trans a2)
  have hL2 : μ2.mu[s1.length]? = some L := pre_get a2.ext.mu hLmu
  by_cases hl : i < items.length
  · obtain ⟨d, hd, hdr⟩ := drop_cons hl
    rw [hdr] at p2
    obtain ⟨g1, g2⟩ := hgo i d hd
    refine .inr ⟨g1, fun H' => ∃ μ2 s2, Aft X.K X.mg (μ1.more L) (upd H1 L (.lst [])) μ2 H' s2 ∧
      PostE X.K X.mg (RA X.K X.mg) W μ1 H1 σ Q ((lcD t tt fe vs s1.length (i + 1) (items.drop (i + 1)) ρ s2).bind fun _ s3 => lcEnd keep s1.length s3),
      fun H' q => ⟨items.length - (i + 1), by omega, rfl, q⟩, fun x H' hy => ?_⟩
    obtain ⟨μ3, a3, rx⟩ := g2 x H' hy
    unfold lcD at p2
    split at p2
    · next ρ3 hg3 =>
      have re : RE X.K X.mg μ3 H' ρ σ := ((r.aft a1).aft ((aL.trans a2).trans a3)).env
      refine rT_of (vs := vs) a3.sto (.of rx) (re.wipe vs) hg3 fun σ4 re4 w4 => ⟨?_, ?_⟩
      · rw [w4 hin]; exact wipe_wipe σ vs
      · refine hta _ _ _ ⟨μ3, ρ3, s2, ⟨re4, a3.sto⟩, ?_⟩
        cases q : tt ρ3 s2 with
        | er x5 s5 => rw [q] at p2; exact p2.elim
        | no => rw [q] at p2; exact p2.elim
        | ok b s5 =>
          rw [q] at p2
          intro b' H5 μ5 a5 eb
          have eb : b = b' := eb
          subst eb
          cases b with
          | false =>
            rw [if_neg Bool.false_ne_true]
            exact ⟨μ5, s5, (a2.trans a3).trans a5, p2⟩
          | true =>
            rw [if_pos rfl]
            refine hte _ _ _ ⟨μ5, ρ3, s5, ⟨re4.keep a5.keep a5.ext, a5.sto⟩, ?_⟩
            simp only [if_true] at p2
            cases q6 : fe ρ3 s5 with
            | er x6 s6 => rw [q6] at p2; exact p2.elim
            | no => rw [q6] at p2; exact p2.elim
            | ok z s6 =>
              rw [q6] at p2
              intro y H6 μ6 a6 rz
              dsimp only at p2
              split at p2
              · next acc hacc =>
                split at p2
                · next hz =>
                  have hL6 : μ6.mu[s1.length]? = some L := pre_get (a3.ext.mu.trans (a5.ext.mu.trans a6.ext.mu)) hL2
                  obtain ⟨ws, e1, e2, e3, e4⟩ := a6.sto.at_ _ _ _ hL6 hacc
                  have hlt : acc.length < sizeLine := Nat.lt_of_le_of_lt hz.2 (Nat.lt_of_lt_of_le hl hJ.1)
                  refine ⟨ws, e1, by rw [← e3.length]; exact hlt, ?_⟩
                  obtain ⟨s7, k7⟩ := a6.sto.put (ds := acc ++ [z]) (vs := ws ++ [y]) hL6 hacc (by simp; omega) (e3.app (.cons (rz.rd hz.1) .nil))
                  exact ⟨μ6, s6.set s1.length (.ml (acc ++ [z])), ((a2.trans a3).trans (a5.trans a6)).trans ⟨.refl, k7, s7⟩, p2⟩
                · exact p2.elim
              · exact p2.elim
    · exact p2.elim
  · rw [List.drop_eq_nil_of_le (by omega)] at p2
    refine .inl ⟨hstop i (by omega), ?_⟩
    simp only [lcD, R.bind] at p2
    unfold lcEnd at p2
    split at p2
    · next acc hacc =>
      have hmu1 : μ1.mu <+: μ2.mu := (Wd.more_le (p := L)).mu.trans a2.ext.mu
      obtain ⟨ws, e1, e2, e3, e4⟩ := a2.sto.at_ _ _ _ hL2 hacc
      have kk : Keep H1 H := aL.keep.trans a2.keep
      have fz1 : ∀ p ∈ μ1.fz, p ∈ μ2.fz := fun p hp => a2.ext.fz p hp
      split at p2
      · refine p2 (.ref L) H (μ2.cut (s1.length + 1)) ⟨⟨?_, fz1⟩, kk, a2.sto.cut _⟩ ⟨L, rfl, ?_⟩
        · obtain ⟨t, ht⟩ := hmu1
          show μ1.mu <+: μ2.mu.take (s1.length + 1)
          rw [← ht, take_more' hlen]
          exact List.prefix_append _ _
        · simp only [Wd.cut]; rw [List.getElem?_take_of_lt (Nat.lt_succ_self _)]; exact hL2
      · have hc := (a2.sto.cut s1.length)
        have hnm : L ∉ (μ2.cut s1.length).mu := fun z => by
          obtain ⟨j, hj⟩ := List.mem_iff_getElem?.mp z
          have hjl : j < s1.length := by
            have := (List.getElem?_eq_some_iff.mp hj).1
            simp [Wd.cut] at this; omega
          simp only [Wd.cut, List.getElem?_take_of_lt hjl] at hj
          have := nodupA a2.sto.nd hj hL2
          omega
        refine p2 (.ref L) H ((μ2.cut s1.length).cool L ws) ⟨⟨?_, fun p hp => List.mem_cons_of_mem _ (fz1 p hp)⟩, kk, hc.cool hnm e1⟩ (.of ?_)
        · obtain ⟨t, ht⟩ := hmu1
          show μ1.mu <+: μ2.mu.take s1.length
          rw [← ht, ← hlen, List.take_left']
          · exact List.prefix_refl _
          · rfl
        · simp only [RD]
          refine ⟨L, ws, rfl, List.mem_cons_self, e2, ?_⟩
          exact (RDs.mu_irrel (μ := μ2) (μ' := μ2.cut s1.length) rfl e3).keep .refl Wd.cool_le
    · exact p2.elim
end
end Fn

set_option Elab.async false
set_option linter.all false
set_option autoImplicit false
set_option maxRecDepth 100000
set_option maxHeartbeats 4000000
/-! Layer Fn: comprehensions as expressions, defs, raise. -/
namespace Fn
open PySem PySem.Spec PyProof.Rows L2
section
variable {X : Cx} {W : WX} {tg iter elt : Expr} {ifs : List Expr} {scope : Scope} {own : List (Str × Nat)} {pos spos py : Pos} {fi : IF} {t : Tg} {tt : TF} {fe : EF}
/-- the ifs of a comprehension -/
def IfX (X : Cx) (ifs : List Expr) (f : TF) : Prop := PTs X ifs (tTOf X.K X.mg W0 f)
theorem if_nil : IfX X [] tYesF := ⟨fun pins s σ H Q I h => pts_nil.run pins s σ H Q I (by obtain ⟨μ, ρ, st, r, p⟩ := h; exact p true H μ (.refl r.sto) rfl)⟩
theorem if_one {c : Expr} (h : TX X W0 c tt) : IfX X [c] tt := pts_one h
theorem ex_lc (keep : Bool) (hc : X.calm = true) (hN : X.N.Nodup) (hi : IX X W tg iter fi) (ok : BlkOk X.N X.env.scope scope own) (hin : tgIn (own.map (·.2)) t = true)
    (hg : ∀ (s : Shared) (H : Hp) (C : Addr) (cl : List (Str × Addr)) (fp : List Addr), PG (X.blk s H scope (compEnvC scope cl C X.env) fp) tg (rT X.K t))
    (ht : ∀ (s : Shared) (H : Hp) (C : Addr) (cl : List (Str × Addr)) (fp : List Addr), IfX (X.blk s H scope (compEnvC scope cl C X.env) fp) ifs tt)
    (he : ∀ (s : Shared) (H : Hp) (C : Addr) (cl : List (Str × Addr)) (fp : List Addr), EX (X.blk s H scope (compEnvC scope cl C X.env) fp) W0 elt fe)
    (hs : ∀ x, foldedSetIterable iter X.env x = pure x := by intro _; rfl) :
    EX X W (.ListComp elt [⟨tg, iter, ifs, 0⟩] scope pos) (eLc keep fi t tt fe (own.map (·.2))) :=
  (pe_lc (wi := tIOf X.K X.mg W fi) (g := rT X.K t) (tt := tTOf X.K X.mg W0 tt) (te := tOf X.K X.mg W0 fe) hc hN hi ok hg (fun s H C cl fp => ht s H C cl fp) (fun s H C cl fp => he s H C cl fp) hs).imp fun σ H Q h => tlc_read hin (fun _ _ _ q => q) (fun _ _ _ q => q) (fun _ _ _ q => q) h
theorem sx_setLc (keep : Bool) {i : Nat} {y : Str} (hc : X.calm = true) (hN : X.N.Nodup) (hy : X.N[i]? = some y) (hyl : X.env.scope.names.lookup y = some .local)
    (hsw : swapsWith (.ListComp elt [⟨tg, iter, ifs, 0⟩] scope pos) (some (.Name y py)) spos.line X.env = pure true)
    (hi : IX X W tg iter fi) (ok : BlkOk X.N X.env.scope scope own) (hin : tgIn (own.map (·.2)) t = true)
    (hg : ∀ (s : Shared) (H : Hp) (C : Addr) (cl : List (Str × Addr)) (fp : List Addr), PG (X.blk s H scope (compEnvC scope cl C X.env) fp) tg (rT X.K t))
    (ht : ∀ (s : Shared) (H : Hp) (C : Addr) (cl : List (Str × Addr)) (fp : List Addr), IfX (X.blk s H scope (compEnvC scope cl C X.env) fp) ifs tt)
    (he : ∀ (s : Shared) (H : Hp) (C : Addr) (cl : List (Str × Addr)) (fp : List Addr), EX (X.blk s H scope (compEnvC scope cl C X.env) fp) W0 elt fe)
    (hs : ∀ x, foldedSetIterable iter X.env x = pure x := by intro _; rfl) :
    SX X W (.Assign [.Name y py] (.ListComp elt [⟨tg, iter, ifs, 0⟩] scope pos) spos) (sAsg (.nm i) (eLc keep fi t tt fe (own.map (·.2)))) := by
  have h := ps_setLc (wi := tIOf X.K X.mg W fi) (g := rT X.K t) (tt := tTOf X.K X.mg W0 tt) (te := tOf X.K X.mg W0 fe) (spos := spos) (py := py) hc hN hy hyl hsw hi ok hg (fun s H C cl fp => ht s H C cl fp) (fun s H C cl fp => he s H C cl fp) hs
  refine asg_read (t := .nm i) (f := eLc keep fi t tt fe (own.map (·.2))) (te := tLc (tIOf X.K X.mg W fi) (rT X.K t) (tTOf X.K X.mg W0 tt) (tOf X.K X.mg W0 fe) (own.map (·.2))) ?_ fun σ H Q h => tlc_read hin (fun _ _ _ q => q) (fun _ _ _ q => q) (fun _ _ _ q => q) h
  rw [show rT X.K (.nm i) = gName i from by unfold rT; rfl]
  exact h
end

/-! ### defs -/
/-- what is left of the store behind a call -/
def exitD (keep : Bool) (n : Nat) : R D → R D
  | .ok (.mu m) st => if m < n then .ok (.mu m) (st.take n) else match st[m]? with
      | some (.ml ds) => if keep = true then .ok (.mu n) (st.take n ++ [.ml ds]) else .ok (.lst ds) (st.take n)
      | some (.fl ds) => .ok (.lst ds) (st.take n)
      | _ => .no
  | .ok d st => .ok d (st.take n)
  | .er x st => .er x (st.take n)
  | .no => .no
def endR : SR → R D
  | .nx _ st => .ok .non st
  | .rt d st => .ok d st
  | .er x _ st => .er x st
  | _ => .no
def denOf (nN : Nat) (keep : Bool) (body : SF) : Den := fun ds st => exitD keep st.length (endR (body (ds.map some ++ List.replicate (nN - ds.length) none) st))
section
variable {K : PySem.W.Frag} {mg : MG} {μ μ' : Wd} {H H' : Hp} {st st' : Sto}
theorem Aft.cutE (a : Aft K mg μ H μ' H' st') (h : μ.mu.length = st.length) : Aft K mg μ H (μ'.cut st.length) H' (st'.take st.length) := by
  refine ⟨⟨?_, a.ext.fz⟩, a.keep, a.sto.cut _⟩
  obtain ⟨t, ht⟩ := a.ext.mu
  show μ.mu <+: μ'.mu.take st.length
  rw [← ht, ← h, List.take_left' rfl]
  exact List.prefix_refl _
theorem exit_ok {keep : Bool} {d : D} {v : V} {Q : V → Hp → Prop} {W : WX} {σ : St} (hl : μ.mu.length = st.length) (a : Aft K mg μ H μ' H' st') (r : RA K mg μ' H' d v)
    (p : PostE K mg (RA K mg) W μ H σ Q (exitD keep st.length (.ok d st'))) : Q v H' := by
  have ac := a.cutE (st := st) hl
  cases d with
  | mu m =>
    obtain ⟨b, rfl, hb⟩ := r
    simp only [exitD] at p
    split at p
    · next hm =>
      exact p _ H' _ ac ⟨b, rfl, by simp only [Wd.cut]; rw [List.getElem?_take_of_lt hm]; exact hb⟩
    · next hm =>
      have hnm : b ∉ (μ'.cut st.length).mu := fun z => by
        obtain ⟨j, hj⟩ := List.mem_iff_getElem?.mp z
        have hjl : j < st.length := by
          have := (List.getElem?_eq_some_iff.mp hj).1
          simp [Wd.cut] at this; omega
        simp only [Wd.cut, List.getElem?_take_of_lt hjl] at hj
        have := nodupA a.sto.nd hj hb
        omega
      split at p
      · next ds hds =>
        obtain ⟨ws, e1, e2, e3, e4⟩ := a.sto.at_ _ _ _ hb hds
        have e3' : RDs K mg (μ'.cut st.length) H' ds ws := RDs.mu_irrel (μ := μ') (μ' := μ'.cut st.length) rfl e3
        split at p
        · -- kept as it is
          have hlen : (μ'.cut st.length).mu.length = st.length := by
            have := ac.sto.len
            rw [this]
            have h2 : st.length ≤ st'.length := by
              have := a.ext.mu.length_le
              rw [hl, a.sto.len] at this; exact this
            simp; omega
          have le1 : (μ'.cut st.length).Le ⟨(μ'.cut st.length).mu ++ [b], μ'.fz⟩ := ⟨List.prefix_append _ _, fun _ h => h⟩
          refine p (.ref b) H' ⟨(μ'.cut st.length).mu ++ [b], μ'.fz⟩ ⟨ac.ext.trans le1, ac.keep, ?_⟩ ⟨b, rfl, by rw [List.getElem?_append_right (by omega)]; simp [hlen]⟩
          refine ⟨by simp [ac.sto.len], List.nodup_append.mpr ⟨ac.sto.nd, by simp, fun x hx y hy z => hnm (by simp at hy; rw [← hy, ← z]; exact hx)⟩, fun i x m e5 e6 => ?_, fun x hx => ?_, a.sto.fz⟩
          · by_cases hi : i < (μ'.cut st.length).mu.length
            · have e5 : ((μ'.cut st.length).mu ++ [b])[i]? = some x := e5
              rw [List.getElem?_append_left hi] at e5
              rw [List.getElem?_append_left (by rw [← ac.sto.len]; exact hi)] at e6
              have := ac.sto.at_ i x m e5 e6
              cases m with
              | ml es => obtain ⟨ws, h1, h2, h3, h4⟩ := this; exact ⟨ws, h1, h2, h3.keep .refl le1, h4⟩
              | fl es => obtain ⟨ws, h1, h2, h3⟩ := this; exact ⟨ws, h1, h2, h3.keep .refl le1⟩
              | dead => trivial
            · have e5 : ((μ'.cut st.length).mu ++ [b])[i]? = some x := e5
              have hi' : i = (μ'.cut st.length).mu.length := by
                have := (List.getElem?_eq_some_iff.mp e5).1
                simp at this; omega
              subst hi'
              rw [List.getElem?_append_right (Nat.le_refl _)] at e5
              rw [ac.sto.len, List.getElem?_append_right (Nat.le_refl _)] at e6
              simp at e5 e6
              subst e5; subst e6
              exact ⟨ws, e1, e2, e3'.keep .refl le1, e4⟩
          · rcases List.mem_append.mp hx with z | z
            · exact ac.sto.live x z
            · simp at z; rw [z, e1]; simp
        · exact p (.ref b) H' ((μ'.cut st.length).cool b ws) ⟨⟨ac.ext.mu, fun q hq => List.mem_cons_of_mem _ (a.ext.fz q hq)⟩, ac.keep, ac.sto.cool hnm e1⟩ (.of (by simp only [RD]; exact ⟨b, ws, rfl, List.mem_cons_self, e2, e3'.keep .refl Wd.cool_le⟩))
      · next ds hds =>
        obtain ⟨ws, e1, e2, e3⟩ := a.sto.at_ _ _ _ hb hds
        have e3' : RDs K mg (μ'.cut st.length) H' ds ws := RDs.mu_irrel (μ := μ') (μ' := μ'.cut st.length) rfl e3
        exact p (.ref b) H' _ ac (.of (by simp only [RD]; exact ⟨b, ws, rfl, e1, e2, e3'⟩))
      · exact p.elim
  | _ =>
    refine p v H' _ ac ?_
    exact .of (RD.mu_irrel (μ := μ') (μ' := μ'.cut st.length) rfl r)
end
structure Ctx (X : Cx) (W : WX) (k : Nat) : Prop where
  calm : X.calm = true
  room : Room k X.A
  gd : X.A.guards = some []
  tk : Takes X W
  po : PassesOwn (model X.prog X.w) X.A X.env X.xe
section
variable {P : Program} {w : World} {K : PySem.W.Frag} {mg : MG} {base : Heap}
theorem law_of {x qual : Str} {st : Stmt} {f : Addr} {fd : FuncData} {N ps : List Str} {k : Nat} {body : SF} (keep : Bool) (F : Fun K x qual st f fd) (S : FnScope N ps (defScope st))
    (hbody : ∀ (cdv : Value) (A : Around) (outer : List Env) (s : Shared) (H : Hp) (E : XK),
      Ctx (cxOf (L2.CX P w) P w K mg base N qual (defScope st) f cdv A outer s H E) (fun cls dd _ H' => E cls dd H') k → SXs (cxOf (L2.CX P w) P w K mg base N qual (defScope st) f cdv A outer s H E) (fun cls dd _ H' => E cls dd H') (defBody st) body) :
    FnG P w K mg base (L2.CX P w) (k + 1) f fd ps (spF K mg ps.length (denOf N.length keep body)) := by
  refine fnG_of F S (fun vs H Q E h => ?_) fun cdv A outer s H vs Q E hr gd h => ?_
  · obtain ⟨μ, st0, ds, h1, h2, h3, h4⟩ := h
    rw [← h2.length, h3]
  · refine ⟨_, hbody cdv A outer s H E ⟨rfl, hr, gd, takes_of rfl rfl rfl rfl, passes_of rfl⟩, ?_⟩
    obtain ⟨μ, st0, ds, h1, h2, h3, h4⟩ := h
    refine ⟨μ, _, st0, ⟨RE.start (N := N) h2, h1⟩, ?_⟩
    unfold denOf at h4
    cases q : body (ds.map some ++ List.replicate (N.length - ds.length) none) st0 with
    | nx ρ' s' => rw [q] at h4; exact fun σ' H' μ' a re => exit_ok h1.len a (d := .non) (.of (by simp only [RD])) h4
    | rt d s' => rw [q] at h4; exact fun v H' μ' a rd => exit_ok h1.len a rd h4
    | er e ρ' s' =>
      rw [q] at h4
      intro cls dd σ' H' μ' a re xr
      refine h4 cls dd H' (μ'.cut st0.length) (a.cutE h1.len) ⟨xr.1, xr.2.1, fun f d e => ?_⟩
      obtain ⟨dx, v, e1, e2, e3⟩ := xr.2.2 f d e
      exact ⟨dx, v, e1, e2, RD.mu_irrel (μ := μ') (μ' := μ'.cut st0.length) rfl e3⟩
    | bk ρ' s' => rw [q] at h4; exact h4.elim
    | ct ρ' s' => rw [q] at h4; exact h4.elim
    | no => rw [q] at h4; exact h4.elim
theorem def_of {x qual : Str} {st : Stmt} {f : Addr} {fd : FuncData} {N ps : List Str} {k : Nat} {body : SF} (keep : Bool) (F : Fun K x qual st f fd) (S : FnScope N ps (defScope st)) (hm : mg x = some (.ref f)) (hb : Binds K fd ps [])
    (hbody : ∀ (cdv : Value) (A : Around) (outer : List Env) (s : Shared) (H : Hp) (E : XK),
      Ctx (cxOf (L2.CX P w) P w K mg base N qual (defScope st) f cdv A outer s H E) (fun cls dd _ H' => E cls dd H') k → SXs (cxOf (L2.CX P w) P w K mg base N qual (defScope st) f cdv A outer s H E) (fun cls dd _ H' => E cls dd H') (defBody st) body) :
    DefOk P w K mg base x (k + 1) ps.length (denOf N.length keep body) :=
  ⟨f, fd, ps, hm, F.kp, hb, law_of keep F S hbody⟩
end

/-! ### raise X('..') -/
structure ExcOk (K : PySem.W.Frag) (mg : MG) (x : Str) : Prop where
  ex : ∃ C, mg x = some (.ref C) ∧ PySem.W.excIn K C [.type "ValueError", .type "Exception", .type "BaseException", .type "object"] "ValueError.__new__" = true ∧ PySem.W.keepIn K (.ref C) = true ∧
    PySem.W.subIn K (.ref C) (.type "BaseException") = some true ∧ PySem.W.typeIn K (.ref C) = some (.type "type")
def sRaise (x : Str) : SF := fun ρ st => .er ⟨x, none⟩ ρ st
section
variable {X : Cx} {W : WX}
theorem sx_raise {x m : Str} {j : Nat} {p p2 pos pos2 : Pos} (hc : X.calm = true) (tk : Takes X W) (e : ExcOk X.K X.mg x) (hg : Gl X x := by rfl) (hdb : (x == ("__debug__" : Str)) = false := by decide) :
    SX X W (.Raise (some (.Call (.Name x p) [.Constant (.str m) j p2] [] pos)) none pos2) (sRaise x) := by
  obtain ⟨C, h1, h2, h3, h4, h5⟩ := e.ex
  refine (ps_raise (W := W) hc tk (pmk_own PySem.F.excBase_ValueError h2 h1 h3 (raises_own h4 h5) hg hdb)).imp fun E σ H ⟨μ, ρ, st, r, q⟩ => ?_
  exact q (.ref C) none σ H μ (.refl r.sto) r.env ⟨⟨C, h1, rfl⟩, fun _ => rfl, fun f d z => by cases z⟩
end
end Fn

set_option Elab.async false
set_option linter.all false
set_option autoImplicit false
set_option maxRecDepth 100000
set_option maxHeartbeats 4000000
/-! Layer Fn: a tuple times a small number. -/
namespace Fn
open PySem PySem.Spec PyProof.Rows L2
theorem tuple_mul1 (l : Addr) (items : Array Value) (n : Nat) (dd : Option Addr) (sl : Array (Option Value)) (x : Int) (u : Tok) (c0 : (decide (x < -(2 ^ 63)) || decide (x ≥ 2 ^ 63)) = false) (c1 : (items.isEmpty || x == 1) = true) :
    Meets (Builtin.«tuple.__mul__» ⟨[.ref l, .int x u], []⟩) (fun _ R s => s.heap.get? l = some { cls := .type "tuple", dict := dd, data := .seq items n, slots := sl } ∧
      R (.ok (.ret (Value.ref l))) s) :=
  .of_wp fun prog w A R s h => by
    obtain ⟨hp, g, d, tk, os⟩ := s
    obtain ⟨hl, h⟩ := h
    have f1 := AutoSeq1.idx_int
    wp_walk using wpAny_loadPart' hl
    repeat (first
      | (refine wpAny_ite_false (decide_eq_false (by rw [c0]; exact Bool.false_ne_true)) ?_; wp_walk using wpAny_loadPart' hl)
      | (refine wpAny_ite_true (decide_eq_true c1) ?_; wp_walk using wpAny_loadPart' hl))
    exact ⟨_, rfl, h⟩
theorem tuple_mul0 (l : Addr) (items : Array Value) (n : Nat) (dd : Option Addr) (sl : Array (Option Value)) (x : Int) (u : Tok) (c0 : (decide (x < -(2 ^ 63)) || decide (x ≥ 2 ^ 63)) = false) (c1 : (items.isEmpty || x == 1) = false) (c2 : (decide (x ≤ 0) || items.isEmpty) = true) :
    Meets (Builtin.«tuple.__mul__» ⟨[.ref l, .int x u], []⟩) (fun _ R s => s.heap.get? l = some { cls := .type "tuple", dict := dd, data := .seq items n, slots := sl } ∧
      R (.ok (.ret (Value.ref s.heap.objs.size))) { s with heap := s.heap.push { cls := Value.type "tuple", data := Data.seq #[] }, toks := s.toks }) :=
  .of_wp fun prog w A R s h => by
    obtain ⟨hp, g, d, tk, os⟩ := s
    obtain ⟨hl, h⟩ := h
    have f1 := AutoSeq1.idx_int
    wp_walk using wpAny_loadPart' hl
    repeat (first
      | (refine wpAny_ite_false (decide_eq_false (by rw [c0]; exact Bool.false_ne_true)) ?_; wp_walk using wpAny_loadPart' hl)
      | (refine wpAny_ite_false (decide_eq_false (by rw [c1]; exact Bool.false_ne_true)) ?_; wp_walk using wpAny_loadPart' hl)
      | (refine wpAny_ite_true (decide_eq_true c2) ?_; wp_walk using wpAny_loadPart' hl))
    exact ⟨_, rfl, h⟩
/-- a tuple times a number below two, an empty tuple times any -/
def rRepS (K : PySem.W.Frag) : R2 := fun x y H Q => ∃ l k xs, x = .ref l ∧ y = .int k ∧ SqT K H l xs ∧ -(2 ^ 63) ≤ k ∧ k < 2 ^ 63 ∧
  (((xs = [] ∨ k = 1) ∧ Q (.ref l) H) ∨ (xs ≠ [] ∧ k ≤ 0 ∧ ∀ p, H p = none → Q (.ref p) (upd H p (.tup []))))
section
variable {X : Cx}
theorem op_repS : OpR X (binaryOp .Mult) (rRepS X.K) := by
  intro pins s σ H x y v u Q I rx ry h
  obtain ⟨l, k, xs, rfl, rfl, hT, h1, h2, h⟩ := h
  cases rx
  obtain ⟨t, rfl⟩ := ry
  obtain ⟨its, r, ⟨⟨cls, dd, data, sl⟩, ho, hc, n, hd⟩, hs⟩ := I.tuple hT
  simp only at hc hd
  subst hc hd
  have hle : its.length = xs.length := r.length.symm
  have c0 : (decide (k < -(2 ^ 63)) || decide (k ≥ 2 ^ 63)) = false := by
    rw [decide_eq_false (by omega), decide_eq_false (by omega)] <;> rfl
  have emp : xs = [] ↔ its.toArray.isEmpty = true := by
    cases its with
    | nil => simpa using hle.symm
    | cons a b => constructor
                  · intro e; subst e; simp at hle
                  · intro e; simp at e
  rcases h with ⟨h3, q⟩ | ⟨h3, h4, q⟩
  · have c1 : (its.toArray.isEmpty || k == 1) = true := by
      rcases h3 with e | e
      · rw [emp.mp e]; rfl
      · rw [e]; simp
    refine wpAny_binaryOp_repeat_ref (T := "tuple") (U := "int") (by decide) ⟨_, ho, rfl⟩ (fun s' => typeIs_int s' k t) noFill_tuple_mul F.fills_int_mul F.slot_int_rmul repeat_tuple F.slot_int_index.lookup
      (call_meets F.slot_int_rmul (typeIs_int s k t) F.entry_int_rmul (F.args_int_rmul_2 _ _) (int_rmul_tuple k t l its.toArray n dd sl)
        ⟨ho, rfl, ⟨_, ho, rfl⟩, call_meets F.slot_tuple_mul ⟨_, ho, rfl⟩ F.entry_tuple_mul (F.args_tuple_mul_2 _ _) (tuple_mul1 l its.toArray n dd sl k t c0 c1) ⟨ho, ?_⟩⟩)
    exact ⟨.ref l, H, I, rfl, q⟩
  · have hi : its.toArray.isEmpty = false := by
      cases z : its.toArray.isEmpty with
      | false => rfl
      | true => exact absurd (emp.mpr z) h3
    have c1 : (its.toArray.isEmpty || k == 1) = false := by
      rw [hi, Bool.false_or]
      exact beq_eq_false_iff_ne.mpr (by omega)
    have c2 : (decide (k ≤ 0) || its.toArray.isEmpty) = true := by
      rw [decide_eq_true h4]; rfl
    refine wpAny_binaryOp_repeat_ref (T := "tuple") (U := "int") (by decide) ⟨_, ho, rfl⟩ (fun s' => typeIs_int s' k t) noFill_tuple_mul F.fills_int_mul F.slot_int_rmul repeat_tuple F.slot_int_index.lookup
      (call_meets F.slot_int_rmul (typeIs_int s k t) F.entry_int_rmul (F.args_int_rmul_2 _ _) (int_rmul_tuple k t l its.toArray n dd sl)
        ⟨ho, rfl, ⟨_, ho, rfl⟩, call_meets F.slot_tuple_mul ⟨_, ho, rfl⟩ F.entry_tuple_mul (F.args_tuple_mul_2 _ _) (tuple_mul0 l its.toArray n dd sl k t c0 c1 c2) ⟨ho, ?_⟩⟩)
    refine ⟨.ref s.heap.objs.size, _, I.laid (t' := s.toks) (o := .tup []) (fun b ob q => Heap.get?_push_of_some _ q) (Nat.le_refl _) ?_, rfl, q _ (I.hok.fresh (Nat.le_refl _))⟩
    exact ⟨Nat.zero_le _, [], .nil, IsTup.new _ _⟩
end
end Fn

set_option Elab.async false
set_option linter.all false
set_option autoImplicit false
set_option maxRecDepth 100000
set_option maxHeartbeats 4000000
/-! Layer Fn: the operations. -/
namespace Fn
open PySem PySem.Spec PyProof.Rows L2
section
variable {K : PySem.W.Frag} {mg : MG} {μ : Wd} {H : Hp} {st : Sto} {d : D} {v : V}
theorem RA.int {i : Int} (r : RA K mg μ H (.int i) v) : v = .int i := by simpa only [RA, RD] using r
theorem RA.bl {b : Bool} (r : RA K mg μ H (.bl b) v) : v = .bl b := by simpa only [RA, RD] using r
theorem RA.str {x : Str} (r : RA K mg μ H (.str x) v) : v = .str x ∧ x.length ≤ sizeLine := by simpa only [RA, RD] using r
theorem RA.non (r : RA K mg μ H .non v) : v = .non := by simpa only [RA, RD] using r
theorem RD.int (i : Int) : RD K mg μ H (.int i) (.int i) := by simp only [RD]
theorem RD.bl (i : Bool) : RD K mg μ H (.bl i) (.bl i) := by simp only [RD]
theorem RD.non : RD K mg μ H .non .non := by simp only [RD]
theorem RD.str {x : Str} (h : x.length ≤ sizeLine) : RD K mg μ H (.str x) (.str x) := by simp only [RD]; exact ⟨trivial, h⟩
end
theorem Op2.or {K : PySem.W.Frag} {mg : MG} {r r' : R2} {g g' : G2} (h : Op2 K mg r g) (h' : Op2 K mg r' g') : Op2 K mg (fun x y H Q => r x y H Q ∨ r' x y H Q) (fun st x y => (g st x y).or (g' st x y)) :=
  fun μ H st x y v u z Q s rx ry e q => by
    dsimp only at e
    cases e1 : g st x y with
    | some w => rw [e1] at e; cases e; exact .inl (h μ H st x y v u _ Q s rx ry e1 q)
    | none => rw [e1] at e; exact .inr (h' μ H st x y v u _ Q s rx ry e q)
theorem Cm2.or {K : PySem.W.Frag} {mg : MG} {r r' : R2} {g g' : G2b} (h : Cm2 K mg r g) (h' : Cm2 K mg r' g') : Cm2 K mg (fun x y H Q => r x y H Q ∨ r' x y H Q) (fun st x y => (g st x y).or (g' st x y)) :=
  fun μ H st x y v u z Q s rx ry e q => by
    dsimp only at e
    cases e1 : g st x y with
    | some w => rw [e1] at e; cases e; exact .inl (h μ H st x y v u _ Q s rx ry e1 q)
    | none => rw [e1] at e; exact .inr (h' μ H st x y v u _ Q s rx ry e q)
section
variable {K : PySem.W.Frag} {mg : MG}
/-- two ints in -/
def gII (f : Int → Int → Option Int) : G2 := fun _ x y => match x, y with
  | .int i, .int j => (f i j).map .int
  | _, _ => none
theorem op2_ii {C : Int → Int → Prop} {f : Int → Int → Int} {p : Int → Int → Option Int} (hp : ∀ i j k, p i j = some k → C i j ∧ k = f i j) : Op2 K mg (rI C fun i j => .int (f i j)) (gII p) := fun μ H st x y v u z Q s rx ry e q => by
  unfold gII at e
  split at e
  · next i j =>
    obtain ⟨k, h1, h2⟩ := Option.map_eq_some_iff.mp e
    subst h2
    obtain ⟨c, rfl⟩ := hp i j k h1
    have := rx.int; have := ry.int; subst v u
    exact ⟨i, j, rfl, rfl, c, q _ H μ (.refl s) (.int _)⟩
  · cases e
theorem op2_ii0 {f : Int → Int → Int} : Op2 K mg (rI0 fun i j => .int (f i j)) (gII fun i j => some (f i j)) := fun μ H st x y v u z Q s rx ry e q => by
  unfold gII at e
  split at e
  · next i j =>
    cases e
    have := rx.int; have := ry.int; subst v u
    exact ⟨i, j, rfl, rfl, q _ H μ (.refl s) (.int _)⟩
  · cases e
/-! + -/
def gCatS : G2 := fun _ x y => match x, y with
  | .str a, .str b => if a.length + b.length ≤ sizeLine then some (.str (a ++ b)) else none
  | _, _ => none
theorem str_app_len (a b : Str) : (a ++ b).length = a.length + b.length := by
  show (a.cps ++ b.cps).size = _
  simp [Array.size_append]; rfl
theorem op2_catS : Op2 K mg (fun x y H Q => ∃ i j, x = .str i ∧ y = .str j ∧ i.length + j.length ≤ sizeLine ∧ Q (.str (i ++ j)) H) gCatS := fun μ H st x y v u z Q s rx ry e q => by
  unfold gCatS at e
  split at e
  · next i j =>
    split at e
    · next h => cases e; exact ⟨i, j, rx.str.1, ry.str.1, h, q _ H μ (.refl s) (.str (by rw [str_app_len]; exact h))⟩
    · cases e
  · cases e
def gCatL : G2 := fun st x y => match lstD st x, lstD st y with
  | some a, some b => if a.length + b.length ≤ sizeLine then some (.lst (a ++ b)) else none
  | _, _ => none
theorem op2_catL : Op2 K mg rCat gCatL := fun μ H st x y v u z Q s rx ry e q => by
  unfold gCatL at e
  split at e
  · next a b h1 h2 =>
    split at e
    · next h =>
      cases e
      obtain ⟨p1, vs, rfl, e1, l1, r1⟩ := lst_of s rx h1
      obtain ⟨p2, ws, rfl, e2, l2, r2⟩ := lst_of s ry h2
      refine ⟨p1, p2, vs, ws, rfl, rfl, e1, e2, by rw [← r1.length, ← r2.length]; exact h, fun p hp => ?_⟩
      obtain ⟨a2, rr⟩ := Aft.lst s hp (by simpa using h) (r1.app r2)
      exact q _ _ _ a2 rr
    · cases e
  · cases e
def gCatT : G2 := fun st x y => match tupD x, tupD y with
  | some a, some b => if a.length + b.length ≤ sizeLine then some (.tup (a ++ b)) else none
  | _, _ => none
theorem RDs.eq_nil {μ : Wd} {H : Hp} {ds : List D} {vs : List V} (r : RDs K mg μ H ds vs) : vs = [] ↔ ds = [] := by
  rw [← List.length_eq_zero_iff, ← r.length, List.length_eq_zero_iff]
theorem op2_catT : Op2 K mg (rCatA K) gCatT := fun μ H st x y v u z Q s rx ry e q => by
  unfold gCatT at e
  split at e
  · next a b h1 h2 =>
    split at e
    · next h =>
      cases e
      obtain ⟨p1, vs, rfl, e1, l1, r1⟩ := tup_of rx h1
      obtain ⟨p2, ws, rfl, e2, l2, r2⟩ := tup_of ry h2
      refine ⟨p1, p2, vs, ws, rfl, rfl, e1, e2, by rw [← r1.length, ← r2.length]; exact h, fun n => ?_, fun _ n => ?_, fun _ _ p hp => ?_⟩
      · have : a = [] := r1.eq_nil.mp n
        subst this
        exact q _ H μ (.refl s) (by simp only [RD]; exact ⟨p2, ws, rfl, e2, by simpa using l2, by simpa using r2⟩)
      · have : b = [] := r2.eq_nil.mp n
        subst this
        exact q _ H μ (.refl s) (by simp only [RD]; exact ⟨p1, vs, rfl, e1, by simpa using l1, by simpa using r1⟩)
      · obtain ⟨a2, rr⟩ := Aft.tup s hp (by simpa using h) (r1.app r2)
        exact q _ _ _ a2 rr
    · cases e
  · cases e
def gAddI : G2 := gII fun i j => some (i + j)
def gAdd : G2 := fun st x y => (gAddI st x y).or ((gCatS st x y).or ((gCatL st x y).or (gCatT st x y)))
theorem opR_add {X : Cx} : OpR X (binaryOp .Add) (fun x y H Q => rI0 (fun i j => .int (i + j)) x y H Q ∨ ((∃ i j, x = .str i ∧ y = .str j ∧ i.length + j.length ≤ sizeLine ∧ Q (.str (i ++ j)) H) ∨ (rCat x y H Q ∨ rCatA X.K x y H Q))) :=
  op_add.or (op_add_str.or (op_cat.or op_catA))
theorem op2_add : Op2 K mg (fun x y H Q => rI0 (fun i j => .int (i + j)) x y H Q ∨ ((∃ i j, x = .str i ∧ y = .str j ∧ i.length + j.length ≤ sizeLine ∧ Q (.str (i ++ j)) H) ∨ (rCat x y H Q ∨ rCatA K x y H Q))) gAdd :=
  op2_ii0.or (op2_catS.or (op2_catL.or op2_catT))
def gSub : G2 := gII fun i j => some (i - j)
theorem op2_sub : Op2 K mg (rI0 fun i j => .int (i - j)) gSub := op2_ii0
/-! * -/
def big64 (i : Int) : Bool := decide (-(2 ^ 64) < i ∧ i < 2 ^ 64)
def gMulI : G2 := gII fun i j => if big64 i || big64 j then some (i * j) else none
theorem op2_mulI : Op2 K mg (rI CMul fun i j => .int (i * j)) gMulI := op2_ii fun i j k e => by
  split at e
  · next h =>
    cases e
    refine ⟨?_, rfl⟩
    simp only [Bool.or_eq_true, big64, decide_eq_true_eq] at h
    exact h
  · cases e
def gRepL : G2 := fun st x y => match lstD st x, y with
  | some a, .int k => if -(2 ^ 63) ≤ k ∧ k < 2 ^ 63 ∧ a.length * k.toNat ≤ sizeLine then some (.lst (List.replicate k.toNat a).flatten) else none
  | _, _ => none
theorem RDs.rep {μ : Wd} {H : Hp} {ds : List D} {vs : List V} (r : RDs K mg μ H ds vs) : ∀ k : Nat, RDs K mg μ H (List.replicate k ds).flatten (List.replicate k vs).flatten
  | 0 => by simpa using RDs.nil
  | k + 1 => by rw [List.replicate_succ, List.replicate_succ, List.flatten_cons, List.flatten_cons]; exact r.app (RDs.rep r k)
theorem op2_repL : Op2 K mg rRep gRepL := fun μ H st x y v u z Q s rx ry e q => by
  unfold gRepL at e
  split at e
  · next a k h1 =>
    split at e
    · next h =>
      cases e
      obtain ⟨p1, vs, rfl, e1, l1, r1⟩ := lst_of s rx h1
      refine ⟨p1, k, vs, rfl, ry.int, e1, h.1, h.2.1, by rw [← r1.length]; exact h.2.2, fun p hp => ?_⟩
      obtain ⟨a2, rr⟩ := Aft.lst s hp (by simp [List.length_flatten, Nat.mul_comm]; rw [Nat.mul_comm]; exact h.2.2) (r1.rep k.toNat)
      exact q _ _ _ a2 rr
    · cases e
  · cases e
def gRepT : G2 := fun st x y => match tupD x, y with
  | some a, .int k => if a ≠ [] ∧ 2 ≤ k ∧ k ≤ 1000 ∧ a.length ≤ 1000 then some (.tup (List.replicate k.toNat a).flatten) else none
  | _, _ => none
theorem op2_repT : Op2 K mg (rRepT K) gRepT := fun μ H st x y v u z Q s rx ry e q => by
  unfold gRepT at e
  split at e
  · next a k h1 =>
    split at e
    · next h =>
      cases e
      obtain ⟨p1, vs, rfl, e1, l1, r1⟩ := tup_of rx h1
      refine ⟨p1, k, vs, rfl, ry.int, e1, fun z => h.1 (r1.eq_nil.mp z), h.2.1, h.2.2.1, by rw [← r1.length]; exact h.2.2.2, fun p hp => ?_⟩
      have hl : (List.replicate k.toNat a).flatten.length ≤ sizeLine := by
        simp [List.length_flatten]
        have h1 : k.toNat ≤ 1000 := by omega
        have h2 := Nat.mul_le_mul h1 h.2.2.2
        rw [sizeLine_eq]; omega
      obtain ⟨a2, rr⟩ := Aft.tup s hp hl (r1.rep k.toNat)
      exact q _ _ _ a2 rr
    · cases e
  · cases e
def gRepS : G2 := fun st x y => match tupD x, y with
  | some a, .int k => if -(2 ^ 63) ≤ k ∧ k < 2 ^ 63 ∧ (a = [] ∨ k ≤ 1) then some (.tup (List.replicate k.toNat a).flatten) else none
  | _, _ => none
theorem flat_nil {α : Type} (n : Nat) : (List.replicate n ([] : List α)).flatten = [] := by
  induction n with
  | zero => rfl
  | succ n ih => rw [List.replicate_succ, List.flatten_cons, ih]; rfl
theorem op2_repS : Op2 K mg (rRepS K) gRepS := fun μ H st x y v u z Q s rx ry e q => by
  unfold gRepS at e
  split at e
  · next a k h1 =>
    split at e
    · next h =>
      cases e
      obtain ⟨p1, vs, rfl, e1, l1, r1⟩ := tup_of rx h1
      refine ⟨p1, k, vs, rfl, ry.int, e1, h.1, h.2.1, ?_⟩
      by_cases ha : a = []
      · subst ha
        refine .inl ⟨.inl (r1.eq_nil.mpr rfl), q _ H μ (.refl s) ?_⟩
        rw [flat_nil]
        simp only [RD]
        exact ⟨p1, vs, rfl, e1, l1, r1⟩
      · by_cases hk : k = 1
        · subst hk
          refine .inl ⟨.inr rfl, q _ H μ (.refl s) ?_⟩
          have : (List.replicate (1 : Int).toNat a).flatten = a := by simp
          rw [this]
          simp only [RD]
          exact ⟨p1, vs, rfl, e1, l1, r1⟩
        · have hk0 : k ≤ 0 := by
            rcases h.2.2 with e | e
            · exact absurd e ha
            · omega
          refine .inr ⟨fun z => ha (r1.eq_nil.mp z), hk0, fun p hp => ?_⟩
          have : (List.replicate k.toNat a).flatten = [] := by
            have : k.toNat = 0 := by omega
            rw [this]; rfl
          rw [this] at q
          obtain ⟨a2, rr⟩ := Aft.tup s hp (Nat.zero_le _) (RDs.nil (K := K) (mg := mg) (μ := μ) (H := H))
          exact q _ _ _ a2 rr
    · cases e
  · cases e
def gMul : G2 := fun st x y => (gMulI st x y).or ((gRepL st x y).or ((gRepT st x y).or (gRepS st x y)))
theorem opR_mul {X : Cx} : OpR X (binaryOp .Mult) (fun x y H Q => rI CMul (fun i j => .int (i * j)) x y H Q ∨ (rRep x y H Q ∨ (rRepT X.K x y H Q ∨ rRepS X.K x y H Q))) := op_mul.or (op_rep.or (op_repT.or op_repS))
theorem op2_mul : Op2 K mg (fun x y H Q => rI CMul (fun i j => .int (i * j)) x y H Q ∨ (rRep x y H Q ∨ (rRepT K x y H Q ∨ rRepS K x y H Q))) gMul := op2_mulI.or (op2_repL.or (op2_repT.or op2_repS))
/-! // and % by positive divisors -/
def gDiv : G2 := gII fun i j => if 0 < j ∧ j < 1073741824 then some (i / j) else none
theorem op2_div : Op2 K mg (rI CDivW fun i j => .int (i / j)) gDiv := op2_ii fun i j k e => by
  split at e
  · next h =>
    cases e
    exact ⟨wide_div (b := 30) h.1 (by omega) (by decide) (by decide), rfl⟩
  · cases e
def gMod : G2 := gII fun i j => if 0 < j then some (i % j) else none
theorem op2_mod : Op2 K mg (rI (fun _ j => 0 < j) fun i j => .int (i % j)) gMod := op2_ii fun i j k e => by
  split at e
  · next h => cases e; exact ⟨h, rfl⟩
  · cases e
def gPow : G2 := gII fun i j => if 0 ≤ j ∧ j ≤ 1000000 ∧ i.natAbs < 2 ^ 64 then some (i ^ j.toNat) else none
theorem op2_pow : Op2 K mg (rI CPow fun i j => .int (i ^ j.toNat)) gPow := op2_ii fun i j k e => by
  split at e
  · next h => cases e; exact ⟨h, rfl⟩
  · cases e

/-! ### comparisons -/
def gCI (p : Int → Int → Bool) : G2b := fun _ x y => match x, y with
  | .int i, .int j => some (p i j)
  | _, _ => none
theorem cm_ci {p : Int → Int → Bool} : Cm2 K mg (rI0 fun i j => .bl (p i j)) (gCI p) := fun μ H st x y v u z Q s rx ry e q => by
  unfold gCI at e
  split at e
  · next i j =>
    cases e
    have := rx.int; have := ry.int; subst v u
    exact ⟨i, j, rfl, rfl, q⟩
  · cases e
def gLtS : G2b := fun _ x y => match x, y with
  | .str i, .str j => some (decide (i.cps.toList < j.cps.toList))
  | _, _ => none
theorem cm_ltS : Cm2 K mg (fun x y H Q => ∃ i j, x = .str i ∧ y = .str j ∧ Q (.bl (decide (i.cps.toList < j.cps.toList))) H) gLtS := fun μ H st x y v u z Q s rx ry e q => by
  unfold gLtS at e
  split at e
  · next i j => cases e; exact ⟨i, j, rx.str.1, ry.str.1, q⟩
  · cases e
def intsD : List D → Option (List Int)
  | [] => some []
  | .int i :: r => (intsD r).map (i :: ·)
  | _ :: _ => none
theorem ints_of {μ : Wd} {H : Hp} : ∀ {ds : List D} {vs : List V} {ns : List Int}, RDs K mg μ H ds vs → intsD ds = some ns → vs = ns.map V.int
  | [], vs, ns, r, e => by simp only [RDs] at r; subst r; unfold intsD at e; cases e; rfl
  | d :: ds, vs, ns, r, e => by
    simp only [RDs] at r
    obtain ⟨v, w, rfl, h2, h3⟩ := r
    unfold intsD at e
    split at e
    · next h => cases h
    · next i r h =>
      cases h
      obtain ⟨ms, h4, rfl⟩ := Option.map_eq_some_iff.mp e
      rw [ints_of h3 h4]
      simp only [RD] at h2; subst h2; rfl
    · cases e
def gLtT : G2b := fun _ x y => match tupD x, tupD y with
  | some a, some b => match intsD a, intsD b with
    | some i, some j => some (HT.lexLt i j)
    | _, _ => none
  | _, _ => none
theorem cm_ltT : Cm2 K mg (rLtT K) gLtT := fun μ H st x y v u z Q s rx ry e q => by
  unfold gLtT at e
  split at e
  · next a b h1 h2 =>
    split at e
    · next i j h3 h4 =>
      cases e
      obtain ⟨p1, vs, rfl, e1, l1, r1⟩ := tup_of rx h1
      obtain ⟨p2, ws, rfl, e2, l2, r2⟩ := tup_of ry h2
      rw [ints_of r1 h3] at e1
      rw [ints_of r2 h4] at e2
      exact ⟨p1, p2, i, j, rfl, rfl, e1, e2, q⟩
    · cases e
  · cases e
def gLt : G2b := fun st x y => (gCI (fun i j => decide (i < j)) st x y).or ((gLtS st x y).or (gLtT st x y))
theorem opR_lt {X : Cx} (hu : X.A.units < cLine) : OpR X (compareOp .Lt) (fun x y H Q => rI0 (fun i j => .bl (decide (i < j))) x y H Q ∨ ((∃ i j, x = .str i ∧ y = .str j ∧ Q (.bl (decide (i.cps.toList < j.cps.toList))) H) ∨ rLtT X.K x y H Q)) := op_lt.or (op_lt_str.or (op_ltT hu))
theorem cm_lt : Cm2 K mg (fun x y H Q => rI0 (fun i j => .bl (decide (i < j))) x y H Q ∨ ((∃ i j, x = .str i ∧ y = .str j ∧ Q (.bl (decide (i.cps.toList < j.cps.toList))) H) ∨ rLtT K x y H Q)) gLt := cm_ci.or (cm_ltS.or cm_ltT)
def gLe : G2b := gCI fun i j => decide (i ≤ j)
def gGt : G2b := gCI fun i j => decide (j < i)
def gGe : G2b := gCI fun i j => decide (j ≤ i)
/-! ### == -/
mutual
def toP : D → PyData
  | .non => .none
  | .bl b => .bool b
  | .int i => .int i
  | .str x => .str x
  | .tup ds => .tuple (toPs ds)
  | .lst ds => .list (toPs ds)
  | _ => .dict []
def toPs : List D → List PyData
  | [] => []
  | d :: ds => toP d :: toPs ds
end
mutual
theorem dp_of {μ : Wd} {H : Hp} {st : Sto} (s : RSt K mg μ H st) : ∀ {d : D} {v : V}, RD K mg μ H d v → (toP d).canLay0 = true → Dp K H v (toP d)
  | .non, v, r, _ => by simp only [RD] at r; subst r; simp only [toP]; exact .non
  | .bl b, v, r, _ => by simp only [RD] at r; subst r; simp only [toP]; exact .bl b
  | .int i, v, r, _ => by simp only [RD] at r; subst r; simp only [toP]; exact .int i
  | .str x, v, r, _ => by simp only [RD] at r; obtain ⟨rfl, _⟩ := r; simp only [toP]; exact .str x
  | .tup ds, v, r, c => by
    simp only [RD] at r
    obtain ⟨a, vs, rfl, h2, h3, h4⟩ := r
    simp only [toP] at c ⊢
    exact .tup h2 (dps_of s h4 (by simpa only [PyData.canLay0] using c))
  | .lst ds, v, r, c => by
    simp only [RD] at r
    obtain ⟨a, vs, rfl, h2, h3, h4⟩ := r
    simp only [toP] at c ⊢
    exact .lst (.of (s.fz _ h2)) (dps_of s h4 (by simpa only [PyData.canLay0] using c))
  | .mu n, v, r, c => by simp only [RD] at r
  | .gl x, v, r, c => by simp only [toP, PyData.canLay0] at c; cases c
  | .ty x, v, r, c => by simp only [toP, PyData.canLay0] at c; cases c
  | .ptr x, v, r, c => by simp only [toP, PyData.canLay0] at c; cases c
  | .scr x, v, r, c => by simp only [toP, PyData.canLay0] at c; cases c
theorem dps_of {μ : Wd} {H : Hp} {st : Sto} (s : RSt K mg μ H st) : ∀ {ds : List D} {vs : List V}, RDs K mg μ H ds vs → PyData.canLayAll0 (toPs ds) = true → DpAll K H vs (toPs ds)
  | [], vs, r, _ => by simp only [RDs] at r; subst r; simp only [toPs]; exact .nil
  | d :: ds, vs, r, c => by
    simp only [RDs] at r
    obtain ⟨v, w, rfl, h2, h3⟩ := r
    simp only [toPs, PyData.canLayAll0, Bool.and_eq_true] at c ⊢
    exact .cons (dp_of s h2 c.1) (dps_of s h3 c.2)
end
/-- a changing list as it stands -/
def rsD (st : Sto) : D → D
  | .mu n => match lstD st (.mu n) with
    | some ds => .lst ds
    | none => .gl "?"
  | d => d
theorem dpr_of {μ : Wd} {H : Hp} {st : Sto} {d : D} {v : V} (s : RSt K mg μ H st) (r : RA K mg μ H d v) (c : (toP (rsD st d)).canLay0 = true) : Dp K H v (toP (rsD st d)) := by
  cases d with
  | mu n =>
    simp only [rsD] at c ⊢
    split at c
    · next ds h =>
      obtain ⟨a, vs, rfl, e, l, q⟩ := lst_of s r h
      simp only [toP] at c ⊢
      exact .lst (.of e) (dps_of s q (by simpa only [PyData.canLay0] using c))
    · simp only [toP, PyData.canLay0] at c; cases c
  | _ => exact dp_of s r c
def gEqS (neg : Bool) : G2b := fun _ x y => match x, y with
  | .int i, .int j => some (if neg then !decide (i = j) else decide (i = j))
  | .str i, .str j => some (if neg then !decide (i = j) else decide (i = j))
  | .bl i, .bl j => some (if neg then !decide (i = j) else decide (i = j))
  | _, _ => none
theorem deq_int {i j : Int} : decide (V.int i = V.int j) = decide (i = j) := by simp
theorem deq_str {i j : Str} : decide (V.str i = V.str j) = decide (i = j) := by simp
theorem deq_bl {i j : Bool} : decide (V.bl i = V.bl j) = decide (i = j) := by simp
theorem cm_eqS : Cm2 K mg rEq (gEqS false) := fun μ H st x y v u z Q s rx ry e q => by
  unfold gEqS at e
  split at e
  · cases e; have := rx.int; have := ry.int; subst v u; exact ⟨rfl, by rw [deq_int]; exact q⟩
  · cases e; have := rx.str.1; have := ry.str.1; subst v u; exact ⟨rfl, by rw [deq_str]; exact q⟩
  · cases e; have := rx.bl; have := ry.bl; subst v u; exact ⟨rfl, by rw [deq_bl]; exact q⟩
  · cases e
theorem cm_neS : Cm2 K mg rNe (gEqS true) := fun μ H st x y v u z Q s rx ry e q => by
  unfold gEqS at e
  split at e
  · cases e; have := rx.int; have := ry.int; subst v u; exact ⟨rfl, by rw [deq_int]; exact q⟩
  · cases e; have := rx.str.1; have := ry.str.1; subst v u; exact ⟨rfl, by rw [deq_str]; exact q⟩
  · cases e; have := rx.bl; have := ry.bl; subst v u; exact ⟨rfl, by rw [deq_bl]; exact q⟩
  · cases e
def gEqP (neg : Bool) : G2b := fun st x y => if (SeqAt.shaped (toP (rsD st x)) && SeqAt.shaped (toP (rsD st y))) = true then some (if neg then !PyData.eqv (toP (rsD st x)) (toP (rsD st y)) else PyData.eqv (toP (rsD st x)) (toP (rsD st y))) else none
theorem cm_eqP : Cm2 K mg (rEqD K) (gEqP false) := fun μ H st x y v u z Q s rx ry e q => by
  unfold gEqP at e
  split at e
  · next h =>
    cases e
    simp only [Bool.and_eq_true] at h
    exact ⟨_, _, dpr_of s rx (SeqAt.canLay_of_shaped h.1), dpr_of s ry (SeqAt.canLay_of_shaped h.2), h.1, h.2, by simpa using q⟩
  · cases e
theorem cm_neP : Cm2 K mg (rNeD K) (gEqP true) := fun μ H st x y v u z Q s rx ry e q => by
  unfold gEqP at e
  split at e
  · next h =>
    cases e
    simp only [Bool.and_eq_true] at h
    exact ⟨_, _, dpr_of s rx (SeqAt.canLay_of_shaped h.1), dpr_of s ry (SeqAt.canLay_of_shaped h.2), h.1, h.2, by simpa using q⟩
  · cases e
def gEq : G2b := fun st x y => (gEqS false st x y).or (gEqP false st x y)
def gNe : G2b := fun st x y => (gEqS true st x y).or (gEqP true st x y)
theorem opR_eq {X : Cx} (hu : X.A.units + 64 < cLine) : OpR X (compareOp .Eq) (fun x y H Q => rEq x y H Q ∨ rEqD X.K x y H Q) := op_eq.or (op_eqD hu)
theorem opR_ne {X : Cx} (hu : X.A.units + 64 < cLine) : OpR X (compareOp .NotEq) (fun x y H Q => rNe x y H Q ∨ rNeD X.K x y H Q) := op_ne.or (op_neD hu)
theorem cm_eq : Cm2 K mg (fun x y H Q => rEq x y H Q ∨ rEqD K x y H Q) gEq := cm_eqS.or cm_eqP
theorem cm_ne : Cm2 K mg (fun x y H Q => rNe x y H Q ∨ rNeD K x y H Q) gNe := cm_neS.or cm_neP
/-! is, is not of bools -/
def gIsB (neg : Bool) : G2b := fun _ x y => match x, y with
  | .bl i, .bl j => some (if neg then !decide (i = j) else decide (i = j))
  | _, _ => none
theorem cm_isB : Cm2 K mg rIsB (gIsB false) := fun μ H st x y v u z Q s rx ry e q => by
  unfold gIsB at e
  split at e
  · cases e; exact ⟨_, _, rx.bl, ry.bl, q⟩
  · cases e
theorem cm_notB : Cm2 K mg rNotB (gIsB true) := fun μ H st x y v u z Q s rx ry e q => by
  unfold gIsB at e
  split at e
  · cases e; exact ⟨_, _, rx.bl, ry.bl, q⟩
  · cases e
def gIs : G2b := fun st x y => (gIsN false st x y).or (gIsB false st x y)
def gIsNot : G2b := fun st x y => (gIsN true st x y).or (gIsB true st x y)
theorem opR_is {X : Cx} : OpR X (compareOp .Is) (fun x y H Q => (y = .non ∧ Q (.bl (decide (x = .non))) H) ∨ rIsB x y H Q) := op_isN.or op_isBl
theorem opR_isnot {X : Cx} : OpR X (compareOp .IsNot) (fun x y H Q => (y = .non ∧ Q (.bl (!decide (x = .non))) H) ∨ rNotB x y H Q) := op_notN.or op_notBl
theorem cm_is : Cm2 K mg (fun x y H Q => (y = .non ∧ Q (.bl (decide (x = .non))) H) ∨ rIsB x y H Q) gIs := cm_isN.or cm_isB
theorem cm_isnot : Cm2 K mg (fun x y H Q => (y = .non ∧ Q (.bl (!decide (x = .non))) H) ∨ rNotB x y H Q) gIsNot := cm_notN.or cm_notB
/-! in -/
def gInS (neg : Bool) : G2b := fun _ x y => match x, y with
  | .str i, .str j => some (if neg then !(!(Builtin.Str.occurrences j i 0 j.length 1).isEmpty) else !(Builtin.Str.occurrences j i 0 j.length 1).isEmpty)
  | _, _ => none
theorem cm_inS : Cm2 K mg (fun x y H Q => ∃ i j, x = .str i ∧ y = .str j ∧ Q (.bl (!(Builtin.Str.occurrences j i 0 j.length 1).isEmpty)) H) (gInS false) := fun μ H st x y v u z Q s rx ry e q => by
  unfold gInS at e
  split at e
  · cases e; exact ⟨_, _, rx.str.1, ry.str.1, q⟩
  · cases e
theorem cm_notInS : Cm2 K mg (fun x y H Q => ∃ i j, x = .str i ∧ y = .str j ∧ Q (.bl (!(!(Builtin.Str.occurrences j i 0 j.length 1).isEmpty))) H) (gInS true) := fun μ H st x y v u z Q s rx ry e q => by
  unfold gInS at e
  split at e
  · cases e; exact ⟨_, _, rx.str.1, ry.str.1, q⟩
  · cases e
/-- flat things as the hand layer compares them -/
def toV : D → Option V
  | .non => some .non
  | .bl b => some (.bl b)
  | .int i => some (.int i)
  | .str x => some (.str x)
  | _ => none
def toVs : List D → Option (List V)
  | [] => some []
  | d :: ds => match toV d, toVs ds with
    | some v, some r => some (v :: r)
    | _, _ => none
theorem toV_of {μ : Wd} {H : Hp} {d : D} {v w : V} (r : RA K mg μ H d v) (e : toV d = some w) : v = w ∧ flatV w = true := by
  cases d <;> simp only [toV] at e <;> first | (cases e; done) | skip
  · cases e; exact ⟨r.non, rfl⟩
  · cases e; exact ⟨r.bl, rfl⟩
  · cases e; exact ⟨r.int, rfl⟩
  · cases e; exact ⟨r.str.1, rfl⟩
theorem toVs_of {μ : Wd} {H : Hp} : ∀ {ds : List D} {vs ws : List V}, RDs K mg μ H ds vs → toVs ds = some ws → vs = ws ∧ ws.all flatV = true
  | [], vs, ws, r, e => by simp only [RDs] at r; subst r; simp only [toVs] at e; cases e; exact ⟨rfl, rfl⟩
  | d :: ds, vs, ws, r, e => by
    simp only [RDs] at r
    obtain ⟨v, q, rfl, h2, h3⟩ := r
    unfold toVs at e
    split at e
    · next v' r' h4 h5 =>
      cases e
      obtain ⟨rfl, f1⟩ := toV_of (.of h2) h4
      obtain ⟨rfl, f2⟩ := toVs_of h3 h5
      exact ⟨rfl, by simp [f1, f2]⟩
    · cases e
def gInQ (neg : Bool) : G2b := fun st x y => match seqD st y with
  | some ds => match toV x, toVs ds with
    | some v, some vs => some (if neg then !inV v vs else inV v vs)
    | _, _ => none
  | none => none
theorem cm_inQ {neg : Bool} : Cm2 K mg (rIn K neg) (gInQ neg) := fun μ H st x y v u z Q s rx ry e q => by
  unfold gInQ at e
  split at e
  · next ds h =>
    split at e
    · next v' vs' h1 h2 =>
      cases e
      obtain ⟨p, ws, rfl, hs, hl, rr⟩ := seq_of s ry h
      obtain ⟨rfl, f1⟩ := toV_of rx h1
      obtain ⟨rfl, f2⟩ := toVs_of rr h2
      exact ⟨p, ws, rfl, hs, f1, f2, q⟩
    · cases e
  · cases e
def gIn : G2b := fun st x y => (gInS false st x y).or (gInQ false st x y)
def gNotIn : G2b := fun st x y => (gInS true st x y).or (gInQ true st x y)
theorem opR_in {X : Cx} : OpR X (compareOp .In) (fun x y H Q => (∃ i j, x = .str i ∧ y = .str j ∧ Q (.bl (!(Builtin.Str.occurrences j i 0 j.length 1).isEmpty)) H) ∨ rIn X.K false x y H Q) := op_in_str.or op_in_seq
theorem opR_notIn {X : Cx} : OpR X (compareOp .NotIn) (fun x y H Q => (∃ i j, x = .str i ∧ y = .str j ∧ Q (.bl (!(!(Builtin.Str.occurrences j i 0 j.length 1).isEmpty))) H) ∨ rIn X.K true x y H Q) := op_notIn_str.or op_notIn_seq
theorem cm_in : Cm2 K mg (fun x y H Q => (∃ i j, x = .str i ∧ y = .str j ∧ Q (.bl (!(Builtin.Str.occurrences j i 0 j.length 1).isEmpty)) H) ∨ rIn K false x y H Q) gIn := cm_inS.or cm_inQ
theorem cm_notIn : Cm2 K mg (fun x y H Q => (∃ i j, x = .str i ∧ y = .str j ∧ Q (.bl (!(!(Builtin.Str.occurrences j i 0 j.length 1).isEmpty))) H) ∨ rIn K true x y H Q) gNotIn := cm_notInS.or cm_inQ
end
end Fn

set_option Elab.async false
set_option linter.all false
set_option autoImplicit false
set_option maxRecDepth 100000
set_option maxHeartbeats 4000000
/-! Layer Fn: subscripts, slices, built-ins, methods of lists. -/
namespace Fn
open PySem PySem.Spec PyProof.Rows L2
section
variable {K : PySem.W.Frag} {mg : MG} {μ : Wd} {H : Hp} {st : Sto}
/-! ### subscripts -/
def atD (ds : List D) (i : Int) : Option D := atI ds i
theorem RDs.atI {ds : List D} {vs : List V} {i : Int} {d : D} (r : RDs K mg μ H ds vs) (e : L2.atI ds i = some d) : ∃ v, L2.atI vs i = some v ∧ RD K mg μ H d v := by
  unfold L2.atI at e ⊢
  rw [← r.length]
  cases h : ixN ds.length i with
  | none => rw [h] at e; cases e
  | some j =>
    rw [h] at e
    exact r.get (i := j) e
def gIx : G2 := fun st x y => match y with
  | .int i => match x with
    | .str z => (L2.atI z.cps.toList i).map fun c => .str ⟨#[c]⟩
    | x => match seqD st x with
      | some ds => L2.atI ds i
      | none => none
  | _ => none
theorem op2_ix : Op2 K mg (rIx K) gIx := fun μ H st x y v u z Q s rx ry e q => by
  unfold gIx at e
  split at e
  · next i =>
    split at e
    · next t =>
      obtain ⟨c, h1, rfl⟩ := Option.map_eq_some_iff.mp e
      have r := rx.str
      exact .inr (.inr ⟨t, i, c, r.1, ry.int, r.2, h1, q _ H μ (.refl s) (.str (by show 1 ≤ sizeLine; decide))⟩)
    · next x' _ =>
      split at e
      · next ds h =>
        obtain ⟨a, vs, rfl, hs, hl, rr⟩ := seq_of s rx h
        obtain ⟨w, h3, h4⟩ := rr.atI e
        rcases hs with hs | hs
        · exact .inl ⟨a, vs, i, w, rfl, ry.int, hs, h3, q _ H μ (.refl s) h4⟩
        · exact .inr (.inl ⟨a, vs, i, w, rfl, ry.int, hs, h3, q _ H μ (.refl s) h4⟩)
      · cases e
  · cases e
end
section
variable {X : Cx} {W : WX} {a b c e : Expr} {fa fb fc f : EF} {pos p2 : Pos}
theorem ex_ix (ha : EX X W a fa) (hb : EX X W b fb) (hs : PlainIx b := by intro _ _; rfl) : EX X W (.Subscript a b pos) (eOp2 gIx fa fb) :=
  op2_of (ta := tOf X.K X.mg W fa) (tb := tOf X.K X.mg W fb) op2_ix ha hb (pe_ix ix_seq ha hb hs)
/-! ### slices -/
abbrev PF := Rho → Sto → R (Option Int)
def pNone : PF := fun _ st => .ok none st
def pSome (fa : EF) : PF := fun ρ st => (fa ρ st).bind fun d s1 => match d with
  | .int i => .ok (some i) s1
  | _ => .no
def tPOf (K : PySem.W.Frag) (mg : MG) (W : WX) (f : PF) : TO := fun σ H Q => ∃ μ ρ st, Rel K mg μ H ρ σ st ∧ PostE K mg (fun _ _ (b c : Option Int) => b = c) W μ H σ Q (f ρ st)
def PX (X : Cx) (W : WX) (e : Option Expr) (f : PF) : Prop := PO X e (tPOf X.K X.mg W f)
theorem _root_.L2.PO.imp {X : Cx} {e : Option Expr} {t t' : TO} (h : PO X e t) (i : ∀ σ H Q, t' σ H Q → t σ H Q) : PO X e t' := ⟨fun pins s σ H Q I q => h.run pins s σ H Q I (i _ _ _ q)⟩
theorem px_none : PX X W none pNone := po_none.imp fun σ H Q ⟨μ, ρ, st, r, p⟩ => p none H μ (.refl r.sto) rfl
theorem px_some (h : EX X W e f) : PX X W (some e) (pSome f) := (po_some h).imp fun σ H Q ⟨μ, ρ, st, r, p⟩ => ⟨μ, ρ, st, r, p.bind fun d s1 v H1 μ1 _ a1 rx p1 => by
  cases d with
  | int i => exact ⟨i, RA.int rx, p1 (some i) H1 μ1 (.refl a1.sto) rfl⟩
  | _ => exact p1.elim⟩
def cutD (ds : List D) (lo hi : Option Int) : List D := (ds.drop (HT.sIx ds.length 0 lo)).take (HT.sIx ds.length ds.length hi - HT.sIx ds.length 0 lo)
theorem RDs.cut {K : PySem.W.Frag} {mg : MG} {μ : Wd} {H : Hp} {ds : List D} {vs : List V} (r : RDs K mg μ H ds vs) (lo hi : Option Int) : RDs K mg μ H (cutD ds lo hi) (cutV vs lo hi) := by
  unfold cutD cutV
  rw [r.length]
  exact (r.drop _).take _
theorem cutD_len (ds : List D) (lo hi : Option Int) : (cutD ds lo hi).length ≤ ds.length := by
  unfold cutD; simp; omega
def sliceD (st : Sto) (x : D) (lo hi : Option Int) : Option D := match x with
  | .str z => some (.str (cutS z lo hi))
  | .tup ds => some (.tup (cutD ds lo hi))
  | x => (lstD st x).map fun ds => .lst (cutD ds lo hi)
def eSl (fa : EF) (fl fh : PF) : EF := fun ρ st => (fa ρ st).bind fun x s1 => (fl ρ s1).bind fun lo s2 => (fh ρ s2).bind fun hi s3 => match sliceD s3 x lo hi with
  | some z => .ok z s3
  | none => .no
theorem cutS_len (z : Str) (lo hi : Option Int) : (cutS z lo hi).length ≤ z.length := by
  unfold cutS
  show (List.toArray _).size ≤ z.cps.size
  rw [List.size_toArray, List.length_take, List.length_drop, Array.length_toList]
  omega
theorem slice_read {K : PySem.W.Frag} {mg : MG} {μ : Wd} {H : Hp} {st : Sto} {x z : D} {v : V} {lo hi : Option Int} {Q : VK} (s : RSt K mg μ H st) (rx : RA K mg μ H x v) (hz : sliceD st x lo hi = some z)
    (q : ∀ w H' μ', Aft K mg μ H μ' H' st → RD K mg μ' H' z w → Q w H') : rSlS v lo hi H Q ∨ (rSlA K v lo hi H Q ∨ rSlL K v lo hi H Q) := by
  unfold sliceD at hz
  split at hz
  · next t =>
    cases hz
    have r := rx.str
    exact .inl ⟨t, r.1, r.2, q _ H μ (.refl s) (.str (Nat.le_trans (cutS_len _ _ _) r.2))⟩
  · next ds =>
    cases hz
    obtain ⟨a, vs, rfl, e1, l1, r1⟩ := tup_of rx rfl
    refine .inr (.inl ⟨a, vs, rfl, e1, fun n => ?_, fun _ p hp => ?_⟩)
    · have : cutD ds lo hi = ds := by
        unfold cutD
        rw [← r1.length] at n
        rw [n.1, n.2]; simp
      rw [this] at q
      exact q _ H μ (.refl s) (rx.rd rfl)
    · obtain ⟨a4, rr⟩ := Aft.tup s hp (Nat.le_trans (cutD_len _ _ _) l1) (r1.cut lo hi)
      exact q _ _ _ a4 rr
  · obtain ⟨ds, h1, rfl⟩ := Option.map_eq_some_iff.mp hz
    obtain ⟨a, vs, rfl, e1, l1, r1⟩ := lst_of s rx h1
    refine .inr (.inr ⟨a, vs, rfl, .of e1, fun p hp => ?_⟩)
    obtain ⟨a4, rr⟩ := Aft.lst s hp (Nat.le_trans (cutD_len _ _ _) l1) (r1.cut lo hi)
    exact q _ _ _ a4 rr
theorem ex_slice {fl fh : PF} {lo hi : Option Expr} (ha : EX X W a fa) (hl : PX X W lo fl) (hh : PX X W hi fh) : EX X W (.Subscript a (.Slice lo hi none p2) pos) (eSl fa fl fh) :=
  (pe_slice (SlR.or sl_str (SlR.or sl_tupA sl_list)) ha hl hh).imp fun σ H Q ⟨μ, ρ, st, r, p⟩ => ⟨μ, ρ, st, r, p.bind fun x s1 v H1 μ1 _ a1 rx p1 => ⟨μ1, ρ, s1, r.aft a1, p1.bind fun lo s2 lo' H2 μ2 _ a2 el p2 =>
    ⟨μ2, ρ, s2, (r.aft a1).aft a2, p2.bind fun hi s3 hi' H3 μ3 _ a3 eh p3 => by
      have el : lo = lo' := el
      have eh : hi = hi' := eh
      subst el; subst eh
      split at p3
      · next z hz => exact slice_read a3.sto ((rx.aft a2).aft a3) hz fun w H4 μ4 a4 rw => p3 w H4 μ4 a4 (.of rw)
      · exact p3.elim⟩⟩⟩
end
/-! ### built-ins -/
section
variable {K : PySem.W.Frag} {mg : MG}
def gLen : GA := fun st xs => match xs with
  | [.str z] => some (.int z.length)
  | [x] => (seqD st x).map fun ds => .int ds.length
  | _ => none
theorem RAs.one {μ : Wd} {H : Hp} {x : D} {vs : List V} (r : RAs K mg μ H [x] vs) : ∃ v, vs = [v] ∧ RA K mg μ H x v := by
  simp only [RAs] at r
  obtain ⟨v, w, rfl, h, rfl⟩ := r
  exact ⟨v, rfl, h⟩
theorem RAs.two {μ : Wd} {H : Hp} {x y : D} {vs : List V} (r : RAs K mg μ H [x, y] vs) : ∃ v u, vs = [v, u] ∧ RA K mg μ H x v ∧ RA K mg μ H y u := by
  simp only [RAs] at r
  obtain ⟨v, w, rfl, h, u, w', rfl, h', rfl⟩ := r
  exact ⟨v, u, rfl, h, h'⟩
theorem cb_len : CbA K mg (fun xs H Q => ∃ x n, xs = [x] ∧ LenV K x H n ∧ Q (.int n) H) gLen := fun μ H st xs vs z Q s r e q => by
  unfold gLen at e
  split at e
  · cases e
    obtain ⟨v, rfl, rv⟩ := r.one
    have h := rv.str
    exact ⟨v, _, rfl, by rw [h.1]; exact ⟨h.2, rfl⟩, q _ H μ (.refl s) (.int _)⟩
  · obtain ⟨ds, h1, rfl⟩ := Option.map_eq_some_iff.mp e
    obtain ⟨v, rfl, rv⟩ := r.one
    obtain ⟨a, ws, rfl, hs, hl, rr⟩ := seq_of s rv h1
    refine ⟨_, ds.length, rfl, ?_, q _ H μ (.refl s) (.int _)⟩
    rcases hs with hs | hs
    · exact .inl ⟨ws, hs, rr.length⟩
    · exact .inr ⟨ws, hs, rr.length⟩
  · cases e
def boolsD : List D → Option (List Bool)
  | [] => some []
  | .bl i :: r => (boolsD r).map (i :: ·)
  | _ :: _ => none
theorem bools_of {μ : Wd} {H : Hp} : ∀ {ds : List D} {vs : List V} {ns : List Bool}, RDs K mg μ H ds vs → boolsD ds = some ns → vs = ns.map V.bl
  | [], vs, ns, r, e => by simp only [RDs] at r; subst r; unfold boolsD at e; cases e; rfl
  | d :: ds, vs, ns, r, e => by
    simp only [RDs] at r
    obtain ⟨v, w, rfl, h2, h3⟩ := r
    unfold boolsD at e
    split at e
    · next h => cases h
    · next i r h =>
      cases h
      obtain ⟨ms, h4, rfl⟩ := Option.map_eq_some_iff.mp e
      rw [bools_of h3 h4]
      simp only [RD] at h2; subst h2; rfl
    · cases e
def gAll : GA := fun st xs => match xs with
  | [x] => (lstD st x).bind fun ds => (boolsD ds).map fun bs => .bl (bs.all id)
  | _ => none
def gAny : GA := fun st xs => match xs with
  | [x] => (lstD st x).bind fun ds => (boolsD ds).map fun bs => .bl (bs.any id)
  | _ => none
theorem cb_all : CbA K mg (rAll K) gAll := fun μ H st xs vs z Q s r e q => by
  unfold gAll at e
  split at e
  · obtain ⟨ds, h1, h2⟩ := Option.bind_eq_some_iff.mp e
    obtain ⟨bs, h3, rfl⟩ := Option.map_eq_some_iff.mp h2
    obtain ⟨v, rfl, rv⟩ := r.one
    obtain ⟨a, ws, rfl, hs, hl, rr⟩ := lst_of s rv h1
    rw [bools_of rr h3] at hs
    exact ⟨a, bs, rfl, .of hs, q _ H μ (.refl s) (.bl _)⟩
  · cases e
theorem cb_any : CbA K mg (rAny K) gAny := fun μ H st xs vs z Q s r e q => by
  unfold gAny at e
  split at e
  · obtain ⟨ds, h1, h2⟩ := Option.bind_eq_some_iff.mp e
    obtain ⟨bs, h3, rfl⟩ := Option.map_eq_some_iff.mp h2
    obtain ⟨v, rfl, rv⟩ := r.one
    obtain ⟨a, ws, rfl, hs, hl, rr⟩ := lst_of s rv h1
    rw [bools_of rr h3] at hs
    exact ⟨a, bs, rfl, .of hs, q _ H μ (.refl s) (.bl _)⟩
  · cases e
def gSum : GA := fun st xs => match xs with
  | [x] => (lstD st x).bind fun ds => (intsD ds).map fun ns => .int ns.sum
  | _ => none
theorem cb_sum : CbA K mg (rSum K) gSum := fun μ H st xs vs z Q s r e q => by
  unfold gSum at e
  split at e
  · obtain ⟨ds, h1, h2⟩ := Option.bind_eq_some_iff.mp e
    obtain ⟨bs, h3, rfl⟩ := Option.map_eq_some_iff.mp h2
    obtain ⟨v, rfl, rv⟩ := r.one
    obtain ⟨a, ws, rfl, hs, hl, rr⟩ := lst_of s rv h1
    rw [ints_of rr h3] at hs
    exact ⟨a, bs, rfl, .of hs, q _ H μ (.refl s) (.int _)⟩
  · cases e
def gInt : GA := fun _ xs => match xs with
  | [.int i] => some (.int i)
  | [.bl b] => some (.int (if b then 1 else 0))
  | _ => none
theorem cb_int : CbA K mg (fun xs H Q => (∃ i, xs = [.int i] ∧ Q (.int i) H) ∨ ∃ k, xs = [.bl k] ∧ Q (.int (if k then 1 else 0)) H) gInt := fun μ H st xs vs z Q s r e q => by
  unfold gInt at e
  split at e
  · cases e
    obtain ⟨v, rfl, rv⟩ := r.one
    exact .inl ⟨_, by rw [rv.int], q _ H μ (.refl s) (.int _)⟩
  · cases e
    obtain ⟨v, rfl, rv⟩ := r.one
    exact .inr ⟨_, by rw [rv.bl], q _ H μ (.refl s) (.int _)⟩
  · cases e
def gMin2 : GA := fun _ xs => match xs with
  | [.int i, .int j] => some (.int (if j < i then j else i))
  | _ => none
def gMax2 : GA := fun _ xs => match xs with
  | [.int i, .int j] => some (.int (if j > i then j else i))
  | _ => none
theorem cb_min2 : CbA K mg (fun xs H Q => ∃ i j, xs = [.int i, .int j] ∧ Q (.int (if j < i then j else i)) H) gMin2 := fun μ H st xs vs z Q s r e q => by
  unfold gMin2 at e
  split at e
  · cases e
    obtain ⟨v, u, rfl, rv, ru⟩ := r.two
    exact ⟨_, _, by rw [rv.int, ru.int], q _ H μ (.refl s) (.int _)⟩
  · cases e
theorem cb_max2 : CbA K mg (fun xs H Q => ∃ i j, xs = [.int i, .int j] ∧ Q (.int (if j > i then j else i)) H) gMax2 := fun μ H st xs vs z Q s r e q => by
  unfold gMax2 at e
  split at e
  · cases e
    obtain ⟨v, u, rfl, rv, ru⟩ := r.two
    exact ⟨_, _, by rw [rv.int, ru.int], q _ H μ (.refl s) (.int _)⟩
  · cases e
def gAbs : GA := fun _ xs => match xs with
  | [.int i] => some (.int (if i < 0 then -i else i))
  | _ => none
theorem cb_abs : CbA K mg (fun xs H Q => ∃ i, xs = [.int i] ∧ Q (.int (if i < 0 then -i else i)) H) gAbs := fun μ H st xs vs z Q s r e q => by
  unfold gAbs at e
  split at e
  · cases e
    obtain ⟨v, rfl, rv⟩ := r.one
    exact ⟨_, by rw [rv.int], q _ H μ (.refl s) (.int _)⟩
  · cases e
def gTuple : GA := fun st xs => match xs with
  | [.tup ds] => some (.tup ds)
  | [x] => (lstD st x).map .tup
  | _ => none
theorem cb_tuple : CbA K mg (fun xs H Q => ∃ p ys, xs = [.ref p] ∧ ((SqL K H p ys ∧ ∀ l, H l = none → Q (.ref l) (upd H l (.tup ys))) ∨ (SqT K H p ys ∧ Q (.ref p) H))) gTuple := fun μ H st xs vs z Q s r e q => by
  unfold gTuple at e
  split at e
  · cases e
    obtain ⟨v, rfl, rv⟩ := r.one
    obtain ⟨a, ws, rfl, hs, hl, rr⟩ := tup_of rv rfl
    exact ⟨a, ws, rfl, .inr ⟨hs, q _ H μ (.refl s) (rv.rd rfl)⟩⟩
  · obtain ⟨ds, h1, rfl⟩ := Option.map_eq_some_iff.mp e
    obtain ⟨v, rfl, rv⟩ := r.one
    obtain ⟨a, ws, rfl, hs, hl, rr⟩ := lst_of s rv h1
    refine ⟨a, ws, rfl, .inl ⟨.of hs, fun l hl' => ?_⟩⟩
    obtain ⟨a2, r2⟩ := Aft.tup s hl' hl rr
    exact q _ _ _ a2 r2
  · cases e
def gList : GA := fun st xs => match xs with
  | [x] => (seqD st x).map .lst
  | _ => none
theorem cb_list : CbA K mg (fun xs H Q => ∃ p ys, xs = [.ref p] ∧ (SqL K H p ys ∨ SqT K H p ys) ∧ ∀ l, H l = none → Q (.ref l) (upd H l (.lst ys))) gList := fun μ H st xs vs z Q s r e q => by
  unfold gList at e
  split at e
  · obtain ⟨ds, h1, rfl⟩ := Option.map_eq_some_iff.mp e
    obtain ⟨v, rfl, rv⟩ := r.one
    obtain ⟨a, ws, rfl, hs, hl, rr⟩ := seq_of s rv h1
    refine ⟨a, ws, rfl, hs, fun l hl' => ?_⟩
    obtain ⟨a2, r2⟩ := Aft.lst s hl' hl rr
    exact q _ _ _ a2 r2
  · cases e
end
/-! repr -/
def gRepr : GA := fun st xs => match xs with
  | [x] => if (toP (rsD st x)).canLay0 = true ∧ (toP (rsD st x)).showable = true ∧ (toP (rsD st x)).depth ≤ 64 ∧ (toP (rsD st x)).shown.length ≤ sizeLine then some (.str (toP (rsD st x)).shown) else none
  | _ => none
def rRepr (K : PySem.W.Frag) : List V → Hp → VK → Prop := fun xs H Q => ∃ x d, xs = [x] ∧ Dp K H x d ∧ d.canLay0 = true ∧ d.showable = true ∧ d.depth ≤ 64 ∧ d.shown.length ≤ sizeLine ∧ Q (.str d.shown) H
theorem cb_repr {K : PySem.W.Frag} {mg : MG} : CbA K mg (rRepr K) gRepr := fun μ H st xs vs z Q s r e q => by
  unfold gRepr at e
  split at e
  · split at e
    · next h =>
      cases e
      obtain ⟨v, rfl, rv⟩ := r.one
      exact ⟨v, _, rfl, dpr_of s rv h.1, h.1, h.2.1, h.2.2.1, h.2.2.2, q _ H μ (.refl s) (.str h.2.2.2)⟩
    · cases e
  · cases e
theorem call_reprD {X : Cx} {k : Nat} (hr : Room k X.A) (gd : X.A.guards = some []) : CallR X (.builtin "repr") (rRepr X.K) := by
  intro pins s σ H xs us Q I r h
  obtain ⟨x, d, rfl, dp, c, sh, dep, len, q⟩ := h
  obtain ⟨u, rfl, ru⟩ := Vals.one r
  have hu := hr.units
  have fin : ∀ h' t tk, (∀ b o, s.heap.get? b = some o → h'.get? b = some o) → EP X pins σ Q (.str d.shown t) { s with heap := h', toks := tk } := fun h' t tk hk => ⟨.str d.shown, H, I.kept hk, ⟨_, rfl⟩, q⟩
  have same : ∀ t, EP X pins σ Q (.str d.shown t) { s with toks := s.toks + 1 } := fun t => fin s.heap t _ fun _ _ z => z
  obtain ⟨as, rd⟩ := Dp.reads I d x u dp ru
  cases dp with
  | non => cases ru; simp only [PyData.shown] at same; exact PySem.P.repr_of_none (same _)
  | bl b => cases ru; simp only [PyData.shown] at same; exact PySem.P.repr_of_bool (same _)
  | int i =>
    obtain ⟨t, rfl⟩ := ru
    simp only [PyData.showable, decide_eq_true_eq] at sh
    simp only [PyData.shown] at same
    exact PySem.P.repr_of_int sh (same _)
  | str y =>
    obtain ⟨t, rfl⟩ := ru
    simp only [PyData.shown] at same len
    exact PySem.P.repr_of_str (same _) len
  | lst h1 h2 =>
    cases ru
    exact repr_of_reads' rd sh (PyData.noDict_hsm (PyData.hasDict_of_canLay _ c)) gd (by have := hr.un; omega) (fun _ _ z => z) (fun h' t tk hk => fin h' t tk hk) len
  | tup h1 h2 =>
    cases ru
    exact repr_of_reads' rd sh (PyData.noDict_hsm (PyData.hasDict_of_canLay _ c)) gd (by have := hr.un; omega) (fun _ _ z => z) (fun h' t tk hk => fin h' t tk hk) len
/-! ### methods of lists -/
section
abbrev GM := Sto → D → List D → Option (D × Sto)
def eMt (g : GM) (fo : EF) (fr : AF) : EF := fun ρ st => (fo ρ st).bind fun x s1 => match lstD s1 x with
  | some _ => (fr ρ s1).bind fun xs s2 => match g s2 x xs with
    | some (d, s3) => .ok d s3
    | none => .no
  | none => .no
def MtA (K : PySem.W.Frag) (mg : MG) (r : V → List V → Hp → VK → Prop) (g : GM) : Prop :=
  ∀ μ H st x xs v vs z st' Q, RSt K mg μ H st → RA K mg μ H x v → RAs K mg μ H xs vs → g st x xs = some (z, st') → (∀ w H' μ', Aft K mg μ H μ' H' st' → RA K mg μ' H' z w → Q w H') → r v vs H Q
variable {X : Cx} {W : WX} {o e : Expr} {es : List Expr} {fo : EF} {fr : AF} {g : GM} {r : V → List V → Hp → VK → Prop} {pos p : Pos} {name : Str} {id : String}
theorem tyV_list {K : PySem.W.Frag} {mg : MG} {μ : Wd} {H : Hp} {st : Sto} {x : D} {v : V} {ds : List D} (s : RSt K mg μ H st) (rx : RA K mg μ H x v) (h : lstD st x = some ds) : tyV K "list" v H := by
  obtain ⟨a, vs, rfl, e, _⟩ := lst_of s rx h
  exact .inl ⟨rfl, vs, .of e⟩
/-- o.m(..) -/
theorem ex_mt (slot : Slot "list" name id) (hty : typeOf (.builtin id) = pure (.type "method_descriptor")) (hm : MtR X id r) (hg : MtA X.K X.mg r g) (ho : EX X W o fo) (ha : AX X W (e :: es) fr)
    (hbase : attributeBase o name X.env (eval o X.env) = eval o X.env := by rfl)
    (hfew : ((backTo pos (starEach (e :: es) X.env)).all (fun x => !x.1) && (backToKw pos (keywordEach [] X.env)).all (fun x => x.1.isSome)
      && decide ((e :: es).length + ([] : List Keyword).length + (if ([] : List Keyword).isEmpty then 0 else 1) < 30)) = true := by rfl)
    (hline : (p.endLine == pos.line) = true := by rfl) (hs : starEach (e :: es) X.env = (false, eval e X.env) :: starEach es X.env := by rfl) (hplain : (backTo pos (starEach es X.env)).any (·.1) = false := by rfl) :
    EX X W (.Call (.Attribute o name p) (e :: es) [] pos) (eMt g fo fr) :=
  (pe_bm PySem.F.plainAttrs_list slot hty hm ho ha hbase hfew hline hs hplain).imp fun σ H Q ⟨μ, ρ, st, rr, q⟩ => ⟨μ, ρ, st, rr, q.bind fun x s1 v H1 μ1 _ a1 rx q1 => by
    split at q1
    · next ds hds =>
      refine ⟨tyV_list a1.sto rx hds, μ1, ρ, s1, rr.aft a1, q1.bind fun xs s2 vs H2 μ2 _ a2 rxs q2 => ?_⟩
      split at q2
      · next d s3 hg3 => exact hg μ2 H2 s2 x xs v vs d s3 Q a2.sto (rx.aft a2) rxs hg3 fun w H3 μ3 a3 rw => q2 w H3 μ3 a3 rw
      · exact q2.elim
    · exact q1.elim⟩
theorem ex_mt0 (slot : Slot "list" name id) (hty : typeOf (.builtin id) = pure (.type "method_descriptor")) (hm : MtR X id r) (hg : MtA X.K X.mg r g) (ho : EX X W o fo)
    (hbase : attributeBase o name X.env (eval o X.env) = eval o X.env := by rfl) (hline : (p.endLine == pos.line) = true := by rfl) :
    EX X W (.Call (.Attribute o name p) [] [] pos) (eMt g fo aNil) :=
  (pe_bm0 PySem.F.plainAttrs_list slot hty hm ho hbase hline).imp fun σ H Q ⟨μ, ρ, st, rr, q⟩ => ⟨μ, ρ, st, rr, q.bind fun x s1 v H1 μ1 _ a1 rx q1 => by
    split at q1
    · next ds hds =>
      refine ⟨tyV_list a1.sto rx hds, ?_⟩
      simp only [aNil, R.bind] at q1
      split at q1
      · next d s3 hg3 => exact hg μ1 H1 s1 x [] v [] d s3 Q a1.sto rx .nil hg3 fun w H3 μ3 a3 rw => q1 w H3 μ3 a3 rw
      · exact q1.elim
    · exact q1.elim⟩
end
section
variable {K : PySem.W.Frag} {mg : MG}
def mlD (st : Sto) : D → Option (Nat × List D)
  | .mu n => match st[n]? with
    | some (.ml ds) => some (n, ds)
    | _ => none
  | _ => none
theorem ml_of {μ : Wd} {H : Hp} {st : Sto} {d : D} {v : V} {n : Nat} {ds : List D} (s : RSt K mg μ H st) (r : RA K mg μ H d v) (e : mlD st d = some (n, ds)) :
    ∃ a vs, v = .ref a ∧ H a = some (.lst vs) ∧ μ.mu[n]? = some a ∧ st[n]? = some (.ml ds) ∧ ds.length ≤ sizeLine ∧ RDs K mg μ H ds vs := by
  unfold mlD at e
  split at e
  · next m =>
    split at e
    · next xs h =>
      cases e
      obtain ⟨a, rfl, h2⟩ := r
      obtain ⟨vs, h3, h4, h5, _⟩ := s.at_ n a _ h2 h
      exact ⟨a, vs, rfl, h3, h2, h, h4, h5⟩
    · cases e
  · cases e
def gAppend : GM := fun st x xs => match mlD st x, xs with
  | some (n, ds), [y] => if muD y = false ∧ ds.length < sizeLine then some (.non, st.set n (.ml (ds ++ [y]))) else none
  | _, _ => none
theorem mt_app : MtA K mg rAppend gAppend := fun μ H st x xs v vs z st' Q s rx rxs e q => by
  unfold gAppend at e
  split at e
  · next n ds y h =>
    split at e
    · next hy =>
      cases e
      obtain ⟨a, ws, rfl, h1, h2, h3, h4, h5⟩ := ml_of s rx h
      obtain ⟨u, rfl, ru⟩ := rxs.one
      obtain ⟨s2, k2⟩ := s.put (ds := ds ++ [y]) (vs := ws ++ [u]) h2 h3 (by simp; omega) (h5.app (.cons (ru.rd hy.1) .nil))
      exact ⟨a, ws, u, rfl, rfl, h1, by rw [← h5.length]; exact hy.2, q _ _ μ ⟨.refl, k2, s2⟩ (.of .non)⟩
    · cases e
  · cases e
def gExtend : GM := fun st x xs => match mlD st x, xs with
  | some (n, ds), [y] => match lstD st y with
    | some es => if ds.length + es.length ≤ sizeLine then some (.non, st.set n (.ml (ds ++ es))) else none
    | none => none
  | _, _ => none
theorem mt_ext : MtA K mg rExtend gExtend := fun μ H st x xs v vs z st' Q s rx rxs e q => by
  unfold gExtend at e
  split at e
  · next n ds y h =>
    split at e
    · next es he =>
      split at e
      · next hy =>
        cases e
        obtain ⟨a, ws, rfl, h1, h2, h3, h4, h5⟩ := ml_of s rx h
        obtain ⟨u, rfl, ru⟩ := rxs.one
        obtain ⟨b, us, rfl, b1, b2, b3⟩ := lst_of s ru he
        obtain ⟨s2, k2⟩ := s.put (ds := ds ++ es) (vs := ws ++ us) h2 h3 (by simpa using hy) (h5.app b3)
        exact ⟨a, b, ws, us, rfl, rfl, h1, b1, by rw [← h5.length, ← b3.length]; exact hy, q _ _ μ ⟨.refl, k2, s2⟩ (.of .non)⟩
      · cases e
    · cases e
  · cases e
theorem RDs.dropLast {μ : Wd} {H : Hp} {ds : List D} {vs : List V} (r : RDs K mg μ H ds vs) : RDs K mg μ H ds.dropLast vs.dropLast := by
  rw [List.dropLast_eq_take, List.dropLast_eq_take, ← r.length]; exact r.take _
def gPop : GM := fun st x xs => match mlD st x, xs with
  | some (n, ds), [] => match ds[ds.length - 1]? with
    | some y => some (y, st.set n (.ml ds.dropLast))
    | none => none
  | _, _ => none
theorem mt_popL : MtA K mg rPop gPop := fun μ H st x xs v vs z st' Q s rx rxs e q => by
  unfold gPop at e
  split at e
  · next n ds h =>
    split at e
    · next y hy =>
      cases e
      obtain ⟨a, ws, rfl, h1, h2, h3, h4, h5⟩ := ml_of s rx h
      simp only [RAs] at rxs; subst rxs
      obtain ⟨u, e1, e2⟩ := h5.get hy
      obtain ⟨s2, k2⟩ := s.put (ds := ds.dropLast) (vs := ws.dropLast) h2 h3 (by simp; omega) h5.dropLast
      exact ⟨a, ws, u, rfl, rfl, h1, by rw [← h5.length]; exact e1, q _ _ μ ⟨.refl, k2, s2⟩ (.of (e2.keep k2 .refl))⟩
    · cases e
  · cases e
def gReverse : GM := fun st x xs => match mlD st x, xs with
  | some (n, ds), [] => some (.non, st.set n (.ml ds.reverse))
  | _, _ => none
theorem mt_rev : MtA K mg rReverse gReverse := fun μ H st x xs v vs z st' Q s rx rxs e q => by
  unfold gReverse at e
  split at e
  · next n ds h =>
    cases e
    obtain ⟨a, ws, rfl, h1, h2, h3, h4, h5⟩ := ml_of s rx h
    simp only [RAs] at rxs; subst rxs
    obtain ⟨s2, k2⟩ := s.put (ds := ds.reverse) (vs := ws.reverse) h2 h3 (by simpa using h4) h5.reverse
    exact ⟨a, ws, rfl, rfl, h1, q _ _ μ ⟨.refl, k2, s2⟩ (.of .non)⟩
  · cases e
def gClear : GM := fun st x xs => match mlD st x, xs with
  | some (n, ds), [] => some (.non, st.set n (.ml []))
  | _, _ => none
theorem mt_clr : MtA K mg rClear gClear := fun μ H st x xs v vs z st' Q s rx rxs e q => by
  unfold gClear at e
  split at e
  · next n ds h =>
    cases e
    obtain ⟨a, ws, rfl, h1, h2, h3, h4, h5⟩ := ml_of s rx h
    simp only [RAs] at rxs; subst rxs
    obtain ⟨s2, k2⟩ := s.put (ds := []) (vs := []) h2 h3 (Nat.zero_le _) .nil
    exact ⟨a, ws, rfl, rfl, h1, q _ _ μ ⟨.refl, k2, s2⟩ (.of .non)⟩
  · cases e
/-- the first place of a flat thing -/
def firstV (v : V) : List V → Nat → Option Nat
  | [], _ => none
  | u :: us, i => if eqV u v = true then some i else firstV v us (i + 1)
theorem firstV_spec {v : V} : ∀ {us : List V} {i j : Nat}, firstV v us i = some j → ∃ z, i ≤ j ∧ us[j - i]? = some z ∧ eqV z v = true ∧ ∀ (m : Nat) (z' : V), m < j - i → us[m]? = some z' → eqV z' v = false
  | [], i, j, e => by simp [firstV] at e
  | u :: us, i, j, e => by
    unfold firstV at e
    split at e
    · next h => cases e; exact ⟨u, Nat.le_refl _, by simp, h, fun m z' hm => by omega⟩
    · next h =>
      obtain ⟨z, h1, h2, h3, h4⟩ := firstV_spec e
      refine ⟨z, by omega, ?_, h3, fun m z' hm hz => ?_⟩
      · have : j - i = (j - (i + 1)) + 1 := by omega
        rw [this, List.getElem?_cons_succ]; exact h2
      · cases m with
        | zero => simp at hz; subst hz; simpa using h
        | succ m => exact h4 m z' (by omega) (by simpa using hz)
def gIndex : GM := fun st x xs => match lstD st x, xs with
  | some ds, [y] => match toV y, toVs ds with
    | some v, some vs => (firstV v vs 0).map fun j => (.int (j : Nat), st)
    | _, _ => none
  | _, _ => none
theorem mt_idx : MtA K mg (rIndex K) gIndex := fun μ H st x xs v vs z st' Q s rx rxs e q => by
  unfold gIndex at e
  split at e
  · next ds y h =>
    split at e
    · next v' vs' h1 h2 =>
      obtain ⟨j, h3, h4⟩ := Option.map_eq_some_iff.mp e
      cases h4
      obtain ⟨a, ws, rfl, e1, e2, e3⟩ := lst_of s rx h
      obtain ⟨u, rfl, ru⟩ := rxs.one
      obtain ⟨rfl, f1⟩ := toV_of ru h1
      obtain ⟨rfl, f2⟩ := toVs_of e3 h2
      obtain ⟨z, g1, g2, g3, g4⟩ := firstV_spec h3
      exact ⟨a, ws, u, j, z, rfl, rfl, .of e1, f1, f2, by simpa using g2, g3, fun m z' hm hz => g4 m z' (by simpa using hm) hz, q _ H μ (.refl s) (.of (.int _))⟩
    · cases e
  · cases e
end
end Fn

set_option Elab.async false
set_option linter.all false
set_option autoImplicit false
set_option maxRecDepth 100000
set_option maxHeartbeats 4000000
/-! Layer Fn: what loops walk. -/
namespace Fn
open PySem PySem.Spec PyProof.Rows L2
section
variable {X : Cx} {W : WX} {tg e e2 : Expr} {f f2 : EF} {fr : AF} {pos p tpos : Pos} {elts : List Expr} {kk : Nat}
/-! ### a list, a tuple, a text -/
def chrsD (x : Str) : List D := x.cps.toList.map fun c => .str ⟨#[c]⟩
def itemsD (st : Sto) : D → Option (List D × Sto)
  | .tup ds => some (ds, st)
  | .lst ds => some (ds, st)
  | .str x => some (chrsD x, st)
  | .scr ns => some (ns.map .int, st)
  | .mu n => match st[n]? with
    | some (.ml ds) => some (ds, st.set n (.fl ds))
    | some (.fl ds) => some (ds, st)
    | _ => none
  | _ => none
def iSeq (fa : EF) : IF := fun ρ st => (fa ρ st).bind fun x s1 => match itemsD s1 x with
  | some (ds, s2) => .ok ds s2
  | none => .no
theorem iok_list {K : PySem.W.Frag} {mg : MG} {μ : Wd} {H : Hp} {a : Addr} {ds : List D} {vs : List V} (h : (a, vs) ∈ μ.fz) (r : RDs K mg μ H ds vs) : IOk K mg (Itl K a) ds μ H := by
  intro μ2 H2 st a2
  have hL : H2 a = some (.lst vs) := a2.sto.fz _ (a2.ext.fz _ h)
  have r2 := r.aft a2
  refine ⟨fun i d hd => ?_, fun i hi => ⟨vs, .of hL, by rw [← r2.length]; exact hi⟩⟩
  obtain ⟨v, h1, h2⟩ := r2.get hd
  refine ⟨⟨vs, v, .of hL, h1⟩, fun x H' hy => ?_⟩
  obtain ⟨rfl, hy⟩ := hy
  have := hy vs (.of hL)
  rw [h1] at this; cases this
  exact ⟨μ2, .refl a2.sto, h2⟩
theorem iok_tup {K : PySem.W.Frag} {mg : MG} {μ : Wd} {H : Hp} {a : Addr} {ds : List D} {vs : List V} (h : SqT K H a vs) (r : RDs K mg μ H ds vs) : IOk K mg (Itt K a) ds μ H := by
  intro μ2 H2 st a2
  have hL : SqT K H2 a vs := SqT.keep a2.keep h
  have r2 := r.aft a2
  refine ⟨fun i d hd => ?_, fun i hi => ⟨vs, hL, by rw [← r2.length]; exact hi⟩⟩
  obtain ⟨v, h1, h2⟩ := r2.get hd
  refine ⟨⟨vs, v, hL, h1⟩, fun x H' hy => ?_⟩
  obtain ⟨rfl, hy⟩ := hy
  have := hy vs hL
  rw [h1] at this; cases this
  exact ⟨μ2, .refl a2.sto, h2⟩
theorem rds_ints {K : PySem.W.Frag} {mg : MG} {μ : Wd} {H : Hp} : ∀ ns : List Int, RDs K mg μ H (ns.map .int) (ns.map V.int)
  | [] => RDs.nil
  | _ :: ns => RDs.cons (by simp only [RD]) (rds_ints ns)
theorem iok_scr {K : PySem.W.Frag} {mg : MG} {μ : Wd} {H : Hp} {a : Addr} {ns : List Int} (h : SqR K H a (ns.map V.int)) : IOk K mg (Itl K a) (ns.map .int) μ H := by
  intro μ2 H2 st a2
  have hL : SqL K H2 a (ns.map V.int) := (SqR.keep a2.keep h).sq
  have r2 : RDs K mg μ2 H2 (ns.map .int) (ns.map V.int) := rds_ints ns
  refine ⟨fun i d hd => ?_, fun i hi => ⟨_, hL, by rw [← r2.length]; exact hi⟩⟩
  obtain ⟨v, h1, h2⟩ := r2.get hd
  refine ⟨⟨_, v, hL, h1⟩, fun x H' hy => ?_⟩
  obtain ⟨rfl, hy⟩ := hy
  have := hy _ hL
  rw [h1] at this; cases this
  exact ⟨μ2, .refl a2.sto, h2⟩
theorem iok_str {K : PySem.W.Frag} {mg : MG} {μ : Wd} {H : Hp} {x : Str} : IOk K mg (Its x) (chrsD x) μ H := by
  intro μ2 H2 st a2
  refine ⟨fun i d hd => ?_, fun i hi => by show x.cps.size ≤ i; simpa [chrsD] using hi⟩
  simp only [chrsD, List.getElem?_map, Option.map_eq_some_iff] at hd
  obtain ⟨c, h1, rfl⟩ := hd
  have hc : x.cps[i]? = some c := by simpa using h1
  refine ⟨(Array.getElem?_eq_some_iff.mp hc).1, fun v H' hy => ?_⟩
  obtain ⟨rfl, c', h2, rfl⟩ := hy
  rw [hc] at h2; cases h2
  exact ⟨μ2, .refl a2.sto, .str (by show 1 ≤ sizeLine; decide)⟩
theorem ix_seq (h : EX X W e f) : IX X W tg e (iSeq f) := by
  refine ⟨fun pins s σ H Rr I hw => ?_⟩
  obtain ⟨μ, ρ, st, r, p⟩ := hw
  unfold iSeq at p
  cases q : f ρ st with
  | no => rw [q] at p; exact p.elim
  | er y s1 =>
    rw [q] at p
    exact (pi_list (tg := tg) h).run pins s σ H Rr I ⟨μ, ρ, st, r, by rw [q]; exact p⟩
  | ok d s1 =>
    rw [q] at p
    simp only [R.bind] at p
    cases d with
    | tup ds =>
      refine (pi_tup (tg := tg) h).run pins s σ H Rr I ⟨μ, ρ, st, r, ?_⟩
      rw [q]
      intro v H1 μ1 a1 rv
      obtain ⟨a, vs, rfl, h2, h3, h4⟩ := tup_of rv rfl
      exact ⟨a, rfl, ⟨vs, h2⟩, p _ H1 μ1 a1 ⟨h3, iok_tup h2 h4⟩⟩
    | lst ds =>
      refine (pi_list (tg := tg) h).run pins s σ H Rr I ⟨μ, ρ, st, r, ?_⟩
      rw [q]
      intro v H1 μ1 a1 rv
      have rv : RD X.K X.mg μ1 H1 (.lst ds) v := rv
      simp only [RD] at rv
      obtain ⟨a, vs, rfl, h2, h3, h4⟩ := rv
      exact ⟨a, rfl, ⟨vs, .of (a1.sto.fz _ h2)⟩, p _ H1 μ1 a1 ⟨h3, iok_list h2 h4⟩⟩
    | scr ns =>
      refine (pi_list (tg := tg) h).run pins s σ H Rr I ⟨μ, ρ, st, r, ?_⟩
      rw [q]
      intro v H1 μ1 a1 rv
      have rv : RD X.K X.mg μ1 H1 (.scr ns) v := rv
      simp only [RD] at rv
      obtain ⟨a, rfl, h2, h3⟩ := rv
      exact ⟨a, rfl, ⟨_, h2.sq⟩, p _ H1 μ1 a1 ⟨by simpa using h3, iok_scr h2⟩⟩
    | str x =>
      refine (pi_str (tg := tg) h).run pins s σ H Rr I ⟨μ, ρ, st, r, ?_⟩
      rw [q]
      intro v H1 μ1 a1 rv
      have := rv.str
      exact ⟨x, this.1, p _ H1 μ1 a1 ⟨by simp only [chrsD, List.length_map, Array.length_toList]; exact this.2, iok_str⟩⟩
    | mu n =>
      refine (pi_list (tg := tg) h).run pins s σ H Rr I ⟨μ, ρ, st, r, ?_⟩
      rw [q]
      intro v H1 μ1 a1 rv
      obtain ⟨a, rfl, ha⟩ := rv
      simp only [itemsD] at p
      cases qs : s1[n]? with
      | none => simp only [qs] at p; exact p.elim
      | some m =>
        simp only [qs] at p
        cases m with
        | dead => exact p.elim
        | ml ds =>
          obtain ⟨vs, f1, f2⟩ := a1.sto.freeze ha qs
          simp only [RD] at f2
          obtain ⟨a', vs', e1, h2, h3, h4⟩ := f2
          cases e1
          exact ⟨a, rfl, ⟨vs', .of (f1.fz _ h2)⟩, p _ H1 _ ⟨a1.ext.trans Wd.cool_le, a1.keep, f1⟩ ⟨h3, iok_list h2 h4⟩⟩
        | fl ds =>
          obtain ⟨vs, g1, g2, g3⟩ := a1.sto.at_ n a _ ha qs
          exact ⟨a, rfl, ⟨vs, .of (a1.sto.fz _ g1)⟩, p _ H1 μ1 a1 ⟨g2, iok_list g1 g3⟩⟩
    | _ => exact p.elim
/-! ### range -/
def rngD (lo : Int) (n : Nat) : List D := (List.range n).map fun i => .int (lo + (i : Nat))
theorem iok_rng {K : PySem.W.Frag} {mg : MG} {μ : Wd} {H : Hp} {lo : Int} {n : Nat} : IOk K mg (Itr lo n) (rngD lo n) μ H := by
  intro μ2 H2 st a2
  refine ⟨fun i d hd => ?_, fun i hi => by show n ≤ i; simpa [rngD] using hi⟩
  simp only [rngD, List.getElem?_map, Option.map_eq_some_iff] at hd
  obtain ⟨c, h1, rfl⟩ := hd
  have h2 := List.getElem?_eq_some_iff.mp h1
  obtain ⟨h3, h4⟩ := h2
  simp at h3 h4
  subst h4
  refine ⟨h3, fun v H' hy => ?_⟩
  obtain ⟨rfl, rfl⟩ := hy
  exact ⟨μ2, .refl a2.sto, .int _⟩
def iRange1 (fr : AF) : IF := fun ρ st => (fr ρ st).bind fun xs s1 => match xs with
  | [.int j] => if j.toNat ≤ sizeLine ∧ -(2 ^ 62) ≤ j then .ok (rngD 0 j.toNat) s1 else .no
  | _ => .no
def iRange2 (fr : AF) : IF := fun ρ st => (fr ρ st).bind fun xs s1 => match xs with
  | [.int i, .int j] => if (j - i).toNat ≤ sizeLine ∧ -(2 ^ 62) ≤ i ∧ i < 2 ^ 62 ∧ -(2 ^ 62) ≤ j ∧ j < 2 ^ 62 then .ok (rngD i (j - i).toNat) s1 else .no
  | _ => .no
theorem ix_range1 (hm : X.mg "range" = none) (ha : AX X W [e] fr) (hg : Gl X "range" := by rfl) (hs : starEach [e] X.env = [(false, eval e X.env)] := by rfl) : IX X W tg (.Call (.Name "range" p) [e] [] pos) (iRange1 fr) :=
  (pi_range1 hg hm ha hs).imp fun σ H Q ⟨μ, ρ, st, r, q⟩ => ⟨μ, ρ, st, r, q.bind fun xs s1 vs H1 μ1 eq a1 rx q1 => by
    split at q1
    · obtain ⟨v, rfl, rv⟩ := RAs.one rx
      split at q1
      · next h =>
        refine ⟨_, by rw [rv.int], h.2, ?_, q1 _ H1 μ1 (.refl a1.sto) ⟨by simpa [rngD] using h.1, iok_rng⟩⟩
        have := h.1
        rw [sizeLine_eq] at this
        omega
      · exact q1.elim
    · exact q1.elim⟩
theorem ix_range2 (hm : X.mg "range" = none) (ha : AX X W [e, e2] fr) (hg : Gl X "range" := by rfl) (hs : starEach [e, e2] X.env = [(false, eval e X.env), (false, eval e2 X.env)] := by rfl) (hs2 : starEach [e2] X.env = [(false, eval e2 X.env)] := by rfl) :
    IX X W tg (.Call (.Name "range" p) [e, e2] [] pos) (iRange2 fr) :=
  (pi_range2 hg hm ha hs hs2).imp fun σ H Q ⟨μ, ρ, st, r, q⟩ => ⟨μ, ρ, st, r, q.bind fun xs s1 vs H1 μ1 eq a1 rx q1 => by
    split at q1
    · obtain ⟨v, u, rfl, rv, ru⟩ := RAs.two rx
      split at q1
      · next h => exact ⟨_, _, by rw [rv.int, ru.int], h.2, q1 _ H1 μ1 (.refl a1.sto) ⟨by simpa [rngD] using h.1, iok_rng⟩⟩
      · exact q1.elim
    · exact q1.elim⟩
end

/-! ### zip of lists, tuples, texts in any mix -/
inductive Src where
  | tp (a : Addr) (xs : List V) | ls (a : Addr) (xs : List V) | sg (x : Str)
def Src.ok (K : PySem.W.Frag) (H : Hp) : Src → Prop
  | .tp a xs => SqT K H a xs
  | .ls a xs => SqL K H a xs
  | .sg _ => True
def Src.len : Src → Nat
  | .tp _ xs => xs.length
  | .ls _ xs => xs.length
  | .sg x => x.cps.size
def Src.at_ (i : Nat) : Src → Option V
  | .tp _ xs => xs[i]?
  | .ls _ xs => xs[i]?
  | .sg x => x.cps[i]?.map fun c => .str ⟨#[c]⟩
def Src.fp : Src → List Addr
  | .tp a _ => [a]
  | .ls a _ => [a]
  | .sg _ => []
def Src.itSt (h : Heap) (it : Addr) (i : Nat) : Src → Prop
  | .tp a _ => h.IsTupleIter it a i
  | .ls a _ => h.IsListIter it a i
  | .sg x => ∃ t, h.IsStrIter it (strIterType x) x t i
def Src.val : Src → Value → Prop
  | .tp a _, v => v = .ref a
  | .ls a _, v => v = .ref a
  | .sg x, v => ∃ t, v = .str x t
theorem vals_back : ∀ {xs : List V} {us : List Value} {i : Nat} {u : Value}, Vals xs us → us[i]? = some u → ∃ x, xs[i]? = some x ∧ RelV x u
  | _, _, _, _, .nil, e => by simp at e
  | _, _, 0, _, .cons r _, e => by simp at e; subst e; exact ⟨_, rfl, r⟩
  | _, _, i + 1, u, .cons _ t, e => by
    obtain ⟨x, h1, h2⟩ := vals_back (i := i) (u := u) t (by simpa using e)
    exact ⟨x, by simpa using h1, h2⟩
section
variable {X : Cx} {pins : List (Addr × Obj)} {σ : St} {H : Hp} {s : Shared}
theorem Src.draws (S : Src) (I : Inv X pins σ H s) (ok : S.ok X.K H) (hc : X.calm = true) {A : Around} (hh : A.handled = none) {it : Addr} (hit : it ∉ S.fp) : ∃ (P : Nat → Value → Prop) (St : Nat → Heap → Prop),
    Draws X.prog X.w A it (it :: S.fp) S.len P St ∧ (∀ i, S.itSt s.heap it i → St i s.heap) ∧ (∀ i h, St i h → S.itSt h it i) ∧ ∀ i u, P i u → ∃ x, S.at_ i = some x ∧ RelV x u := by
  cases S with
  | tp a xs =>
    obtain ⟨its, rv, pl, hz⟩ := I.tuple ok
    have hne : a ≠ it := fun z => hit (by simp [Src.fp, z])
    have D := Draws.tuple (prog := X.prog) (w := X.w) hh it a hne its.toArray
    have hs : its.toArray.size = (Src.tp a xs).len := by simp [Src.len, rv.length]
    rw [hs] at D
    exact ⟨_, _, D, fun i h => ⟨h, pl⟩, fun i h q => q.1, fun i u h => vals_back rv (by simpa using h)⟩
  | ls a xs =>
    obtain ⟨its, rv, pl, hz⟩ := I.list ok
    have hne : a ≠ it := fun z => hit (by simp [Src.fp, z])
    have D := Draws.list (prog := X.prog) (w := X.w) hh it a hne its.toArray
    have hs : its.toArray.size = (Src.ls a xs).len := by simp [Src.len, rv.length]
    rw [hs] at D
    exact ⟨_, _, D, fun i h => ⟨h, pl.isList⟩, fun i h q => q.1, fun i u h => vals_back rv (by simpa using h)⟩
  | sg x =>
    by_cases hi : ∃ t i, s.heap.IsStrIter it (strIterType x) x t i
    · obtain ⟨t0, i0, h0⟩ := hi
      refine ⟨_, _, Draws.text (prog := X.prog) (w := X.w) hh it x t0, fun i h => ?_, fun i h q => ⟨t0, q⟩, fun i u h => ?_⟩
      · obtain ⟨t, h⟩ := h
        obtain ⟨o, e1, e2, e3⟩ := h0
        obtain ⟨o', e1', e2', e3'⟩ := h
        rw [e1] at e1'; cases e1'
        rw [e3] at e3'
        have : (#[Value.str x t0, Value.int i0 0] : Array Value) = #[Value.str x t, Value.int i 0] := by injection e3'
        have hl := congrArg Array.toList this
        simp only [List.cons.injEq, Value.str.injEq, Value.int.injEq, true_and, and_true] at hl
        obtain ⟨h1, h2⟩ := hl
        have h2 : i0 = i := by omega
        subst h1; subst h2
        exact ⟨o, e1, e2, e3⟩
      · obtain ⟨c, u', h1, rfl⟩ := h
        exact ⟨.str ⟨#[c]⟩, by simp [Src.at_, h1], ⟨u', rfl⟩⟩
    · refine ⟨_, _, Draws.text (prog := X.prog) (w := X.w) hh it x 0, fun i h => (hi (let ⟨t, h⟩ := h; ⟨t, i, h⟩)).elim, fun i h q => ⟨0, q⟩, fun i u h => ?_⟩
      obtain ⟨c, u', h1, rfl⟩ := h
      exact ⟨.str ⟨#[c]⟩, by simp [Src.at_, h1], ⟨u', rfl⟩⟩
theorem Src.begins (S : Src) (I : Inv X pins σ H s) (ok : S.ok X.K H) {v : Value} (hv : S.val v) : ∃ (o : Obj) (Hb : Heap → Prop), Begins v o Hb ∧ Hb s.heap ∧ (∀ h it, h.get? it = some o → S.itSt h it 0) ∧ ∀ b ∈ S.fp, b < s.heap.objs.size := by
  cases S with
  | tp a xs =>
    cases hv
    obtain ⟨its, rv, pl, hz⟩ := I.tuple ok
    exact ⟨_, _, begins_tuple a its.toArray, pl, fun h it e => ⟨_, e, rfl, rfl⟩, fun b hb => by simp [Src.fp] at hb; subst hb; exact pl.lt⟩
  | ls a xs =>
    cases hv
    obtain ⟨its, rv, pl, hz⟩ := I.list ok
    exact ⟨_, _, begins_list a its.toArray, pl.isList, fun h it e => ⟨_, e, rfl, rfl⟩, fun b hb => by simp [Src.fp] at hb; subst hb; exact pl.lt⟩
  | sg x =>
    obtain ⟨t, rfl⟩ := hv
    exact ⟨_, _, begins_text x t, trivial, fun h it e => ⟨t, _, e, rfl, rfl⟩, fun b hb => by simp [Src.fp] at hb⟩
theorem Src.itSt_keep (S : Src) {h h' : Heap} {it : Addr} {i : Nat} (st : S.itSt h it i) (k : ∀ o, h.get? it = some o → h'.get? it = some o) : S.itSt h' it i := by
  cases S with
  | tp a xs => obtain ⟨o, e, r⟩ := st; exact ⟨o, k o e, r⟩
  | ls a xs => obtain ⟨o, e, r⟩ := st; exact ⟨o, k o e, r⟩
  | sg x => obtain ⟨t, o, e, r⟩ := st; exact ⟨t, o, k o e, r⟩
theorem Src.itSt_obj (S : Src) {h : Heap} {it : Addr} {i : Nat} (st : S.itSt h it i) : ∃ o, h.get? it = some o ∧ ∀ v, o.data ≠ .cell v := by
  cases S with
  | tp a xs => obtain ⟨o, e, _, d⟩ := st; exact ⟨o, e, fun v z => by rw [d] at z; cases z⟩
  | ls a xs => obtain ⟨o, e, _, d⟩ := st; exact ⟨o, e, fun v z => by rw [d] at z; cases z⟩
  | sg x => obtain ⟨t, o, e, _, d⟩ := st; exact ⟨o, e, fun v z => by rw [d] at z; cases z⟩
end
def ItZ (K : PySem.W.Frag) (S1 S2 : Src) : It :=
  ⟨fun i H => S1.ok K H ∧ S2.ok K H ∧ i < S1.len ∧ i < S2.len,
    fun i H v H' => ∃ T x y, v = .ref T ∧ H T = none ∧ H' = upd H T (.tup [x, y]) ∧ S1.at_ i = some x ∧ S2.at_ i = some y,
    fun i H => S1.ok K H ∧ S2.ok K H ∧ (S1.len ≤ i ∨ S2.len ≤ i)⟩
theorem turn_zipS {P : Program} {w : World} {K : PySem.W.Frag} {elts : List Expr} {kk N : Nat} {tpos : Pos} {S1 S2 : Src} (f1 : ∀ b ∈ S1.fp, b < N) (f2 : ∀ b ∈ S2.fp, b < N) :
    Turn P w K (.Tuple elts kk tpos) (ItZ K S1 S2) [N + 4, N + 2, N + 3, N, N + 1] (N + 4)
      (fun i h => IsZip h (N + 4) (N + 2) (N + 3) .none ∧ IsTupOf2 h (N + 2) (.ref N) (.ref (N + 1)) ∧ (∃ a1 a2, IsTupOf2 h (N + 3) a1 a2) ∧ S1.itSt h N i ∧ S2.itSt h (N + 1) i ∧ i ≤ min S1.len S2.len) where
  mem := by simp
  obj := fun i h ⟨z1, z2, ⟨a1, a2, z3⟩, z4, z5, _⟩ b hb => by
    simp only [List.mem_cons, List.not_mem_nil, or_false] at hb
    rcases hb with rfl | rfl | rfl | rfl | rfl
    · exact ⟨_, z1, fun v q => nomatch q⟩
    · exact ⟨_, z2, fun v q => nomatch q⟩
    · exact ⟨_, z3, fun v q => nomatch q⟩
    · exact S1.itSt_obj z4
    · exact S2.itSt_obj z5
  keep := fun i h h' ⟨z1, z2, ⟨a1, a2, z3⟩, z4, z5, z6⟩ k =>
    ⟨k _ (by simp) _ z1, k _ (by simp) _ z2, ⟨a1, a2, k _ (by simp) _ z3⟩, S1.itSt_keep z4 (k _ (by simp)), S2.itSt_keep z5 (k _ (by simp)), z6⟩
  item := by
    intro X hP hw hK hc i pins s σ H E I hf st hg
    subst hP hw hK
    obtain ⟨z1, z2, z3, z4, z5, z6⟩ := st
    obtain ⟨o1, o2, l1, l2⟩ := hg
    have n1 : N ∉ S1.fp := fun z => Nat.lt_irrefl _ (f1 _ z)
    have n2 : N + 1 ∉ S2.fp := fun z => Nat.not_succ_lt_self (f2 _ z)
    obtain ⟨P1, St1, D1, t1, u1, r1⟩ := S1.draws I o1 hc (A := X.A.in1) (I.ok.hd hc) n1
    obtain ⟨P2, St2, D2, t2, u2, r2⟩ := S2.draws I o2 hc (A := X.A.in1) (I.ok.hd hc) n2
    have G := GoesN.zip2 (elts := elts) (x1 := kk) (pos := tpos) (zip_sep2 (N := N) f1 f2) D1 D2
    refine G.goes i s (fun u s2 => ∃ x H', Inv X pins σ H' s2 ∧ RelV x u ∧ (ItZ X.K S1 S2).yld i H x H' ∧ _ ∧ ∀ b ∈ _, H' b = none) E (by omega) ⟨z1, z2, z3, t1 _ z4, t2 _ z5⟩ fun v h' tk ⟨T, x, y, ev, hT, p1, p2, hI⟩ ⟨y1, y2, y3, y4, y5⟩ hk _ => ?_
    subst ev
    obtain ⟨x', ex, rx⟩ := r1 _ _ p1
    obtain ⟨y', ey, ry⟩ := r2 _ _ p2
    have new : ObjOk X.prog X.w (upd H T (.tup [x', y'])) h' T (.tup [x', y']) := ⟨by show 2 ≤ sizeLine; decide, [x, y], .cons rx (.cons ry .nil), hI⟩
    have I1 : Inv X pins σ (upd H T (.tup [x', y'])) { s with heap := h', toks := tk } :=
      I.turnedNew (t' := tk) (ch := [N + 4, N + 3, N, N + 1]) (fun c o hb q => hk c o hb q) (fun b hb => hf b (by
        simp only [List.mem_cons, List.not_mem_nil, or_false] at hb ⊢
        rcases hb with rfl | rfl | rfl | rfl <;> simp)) hT new
    refine ⟨.ref T, _, I1, rfl, ⟨T, x', y', rfl, I.hok.fresh hT, rfl, ex, ey⟩, ⟨y1, y2, y3, u1 _ _ y4, u2 _ _ y5, by omega⟩, fun c hcm => ?_⟩
    have hcT : c ≠ T := fun z => by
      subst z
      have hlt : c < s.heap.objs.size := by
        simp only [List.mem_cons, List.not_mem_nil, or_false] at hcm
        rcases hcm with q | q | q | q | q
        · rw [q]; exact Heap.lt_size z1
        · rw [q]; exact Heap.lt_size z2
        · obtain ⟨_, _, z3⟩ := z3; rw [q]; exact Heap.lt_size z3
        · obtain ⟨o, e, _⟩ := S1.itSt_obj z4; rw [q]; exact Heap.lt_size e
        · obtain ⟨o, e, _⟩ := S2.itSt_obj z5; rw [q]; exact Heap.lt_size e
      exact absurd hlt (Nat.not_lt.mpr hT)
    rw [upd_ne hcT]
    exact (hf c hcm).1
  done := by
    intro X hP hw hK hc i pins s σ H E I hf st hg
    subst hP hw hK
    obtain ⟨z1, z2, z3, z4, z5, z6⟩ := st
    obtain ⟨o1, o2, l1⟩ := hg
    have n1 : N ∉ S1.fp := fun z => Nat.lt_irrefl _ (f1 _ z)
    have n2 : N + 1 ∉ S2.fp := fun z => Nat.not_succ_lt_self (f2 _ z)
    obtain ⟨P1, St1, D1, t1, u1, r1⟩ := S1.draws I o1 hc (A := X.A.in1) (I.ok.hd hc) n1
    obtain ⟨P2, St2, D2, t2, u2, r2⟩ := S2.draws I o2 hc (A := X.A.in1) (I.ok.hd hc) n2
    have G := GoesN.zip2 (elts := elts) (x1 := kk) (pos := tpos) (zip_sep2 (N := N) f1 f2) D1 D2
    have hi : i = min S1.len S2.len := by omega
    subst hi
    exact G.stops s (fun s1 => Inv X pins σ H s1) E ⟨z1, z2, z3, t1 _ z4, t2 _ z5⟩ fun h' tk hk _ => I.turnedL (t' := tk) (ch := [N + 4, N + 3, N, N + 1]) (fun c o hb q => hk c o hb q) (fun b hb => hf b (by
        simp only [List.mem_cons, List.not_mem_nil, or_false] at hb ⊢
        rcases hb with rfl | rfl | rfl | rfl <;> simp))
  self := fun A i s Q E st h => wpAny_pyIter_zip st.1 h
/-- zip(a, b), by values -/
def iZipS (K : PySem.W.Frag) (ta : TA) : TI := fun σ H R => ta σ H fun vs H1 => ∃ (v1 v2 : V) (S1 S2 : Src), vs = [v1, v2] ∧ (∀ u, RelV v1 u → S1.val u) ∧ (∀ u, RelV v2 u → S2.val u) ∧ S1.ok K H1 ∧ S2.ok K H1 ∧ R (ItZ K S1 S2) H1
theorem pi_zipS {X : Cx} {e e2 : Expr} {ta : TA} {p pos tpos : Pos} {elts : List Expr} {kk : Nat} (hg : Gl X "zip") (hm : X.mg "zip" = none) (ha : PA X [e, e2] ta)
    (hs : starEach [e, e2] X.env = (false, eval e X.env) :: starEach [e2] X.env := by rfl) (hpl : (backTo pos (starEach [e2] X.env)).any (·.1) = false := by rfl) :
    PI X (.Tuple elts kk tpos) (.Call (.Name "zip" p) [e, e2] [] pos) (iZipS X.K ta) := by
  constructor
  intro pins s σ H R I h
  refine Call_ (ld_blt I hg hm PyProof.Rows.boot_zip (PyProof.Rows.callWith_type1 (thn (ha.run pos pins s σ H _ I h) ?_) hs hpl))
  rintro us s1 ⟨vs, H1, I1, r1, v1, v2, S1, S2, rfl, w1, w2, o1, o2, q⟩
  obtain ⟨u1, u2, rfl, q1, q2⟩ := Vals.two r1
  obtain ⟨b1, Hb1, B1, k1, i1, f1⟩ := S1.begins I1 o1 (w1 _ q1)
  obtain ⟨b2, Hb2, B2, k2, i2, f2⟩ := S2.begins I1 o2 (w2 _ q2)
  refine zip_begins2 B1 B2 k1 k2 fun h' hz hTI hTO h1 h2 hsz hk => wpAny_pyIter_zip hz ?_
  have I2 : Inv X pins σ H1 { s1 with heap := h' } := I1.kept (t' := s1.toks) hk
  refine ⟨_, _, _, _, H1, rfl, I2, turn_zipS f1 f2, ⟨hz, hTI, ⟨_, _, hTO⟩, i1 _ _ h1, i2 _ _ h2, Nat.zero_le _⟩, fun c hc => ?_, q⟩
  have hle : s1.heap.objs.size ≤ c := by
    simp only [List.mem_cons, List.not_mem_nil, or_false] at hc
    rcases hc with z | z | z | z | z <;> rw [z] <;> first | exact Nat.le_refl _ | exact Nat.le_add_right _ _
  exact I1.fpOk hle (I1.hok.fresh hle)
section
variable {X : Cx} {W : WX} {e e2 : Expr} {fr : AF} {pos p tpos : Pos} {elts : List Expr} {kk : Nat}
def srcD (st : Sto) : D → Option (List D)
  | .tup ds => some ds
  | .lst ds => some ds
  | .str x => some (chrsD x)
  | .mu n => match st[n]? with
    | some (.fl ds) => some ds
    | _ => none
  | _ => none
def zipD : List D → List D → List D
  | x :: xs, y :: ys => .tup [x, y] :: zipD xs ys
  | _, _ => []
theorem zipD_get : ∀ {xs ys : List D} {i : Nat}, (zipD xs ys)[i]? = match xs[i]?, ys[i]? with
    | some x, some y => some (.tup [x, y])
    | _, _ => none
  | [], ys, i => by simp [zipD]
  | x :: xs, [], i => by simp [zipD]
  | x :: xs, y :: ys, 0 => by simp [zipD]
  | x :: xs, y :: ys, i + 1 => by simp only [zipD, List.getElem?_cons_succ]; exact zipD_get
theorem zipD_len : ∀ {xs ys : List D}, (zipD xs ys).length = min xs.length ys.length
  | [], ys => by simp [zipD]
  | x :: xs, [] => by simp [zipD]
  | x :: xs, y :: ys => by simp [zipD, zipD_len]
/-- a source as a value stands for it -/
theorem src_of {K : PySem.W.Frag} {mg : MG} {μ : Wd} {H : Hp} {st : Sto} {d : D} {v : V} {ds : List D} (s : RSt K mg μ H st) (r : RA K mg μ H d v) (e : srcD st d = some ds) :
    ∃ S : Src, (∀ u, RelV v u → S.val u) ∧ S.len = ds.length ∧ ds.length ≤ sizeLine ∧ ∀ μ' H' st', Aft K mg μ H μ' H' st' → S.ok K H' ∧ ∀ (i : Nat) (x : D), ds[i]? = some x → ∃ y, S.at_ i = some y ∧ RD K mg μ' H' x y := by
  unfold srcD at e
  split at e
  · next es =>
    cases e
    obtain ⟨a, vs, rfl, h2, h3, h4⟩ := tup_of r rfl
    exact ⟨.tp a vs, fun u h => h, h4.length.symm, h3, fun μ' H' st' a2 => ⟨SqT.keep a2.keep h2, fun i x hx => (h4.aft a2).get hx⟩⟩
  · next es =>
    cases e
    have r : RD K mg μ H (.lst ds) v := r
    simp only [RD] at r
    obtain ⟨a, vs, rfl, h2, h3, h4⟩ := r
    exact ⟨.ls a vs, fun u h => h, h4.length.symm, h3, fun μ' H' st' a2 => ⟨.of (a2.sto.fz _ (a2.ext.fz _ h2)), fun i x hx => (h4.aft a2).get hx⟩⟩
  · next x =>
    cases e
    have r := r.str
    refine ⟨.sg x, fun u h => by rw [r.1] at h; exact h, by simp [Src.len, chrsD], by simp only [chrsD, List.length_map, Array.length_toList]; exact r.2, fun μ' H' st' a2 => ⟨trivial, fun i y hy => ?_⟩⟩
    simp only [chrsD, List.getElem?_map, Option.map_eq_some_iff] at hy
    obtain ⟨c, h1, rfl⟩ := hy
    exact ⟨.str ⟨#[c]⟩, by simp only [Src.at_]; rw [show x.cps[i]? = some c from by simpa using h1]; rfl, .str (by show 1 ≤ sizeLine; decide)⟩
  · next n =>
    split at e
    · next es h =>
      cases e
      obtain ⟨a, rfl, ha⟩ := r
      obtain ⟨vs, g1, g2, g3⟩ := s.at_ n a _ ha h
      exact ⟨.ls a vs, fun u h => h, g3.length.symm, g2, fun μ' H' st' a2 => ⟨.of (a2.sto.fz _ (a2.ext.fz _ g1)), fun i x hx => (g3.aft a2).get hx⟩⟩
    · cases e
  · cases e
def iZip2 (fr : AF) : IF := fun ρ st => (fr ρ st).bind fun xs s1 => match xs with
  | [x, y] => match srcD s1 x, srcD s1 y with
    | some ds, some es => .ok (zipD ds es) s1
    | _, _ => .no
  | _ => .no
theorem ix_zip (hm : X.mg "zip" = none) (ha : AX X W [e, e2] fr) (hg : Gl X "zip" := by rfl) (hs : starEach [e, e2] X.env = (false, eval e X.env) :: starEach [e2] X.env := by rfl) (hpl : (backTo pos (starEach [e2] X.env)).any (·.1) = false := by rfl) :
    IX X W (.Tuple elts kk tpos) (.Call (.Name "zip" p) [e, e2] [] pos) (iZip2 fr) :=
  (pi_zipS hg hm ha hs hpl).imp fun σ H Q ⟨μ, ρ, st, r, q⟩ => ⟨μ, ρ, st, r, q.bind fun xs s1 vs H1 μ1 eq a1 rx q1 => by
    split at q1
    · next x y _ =>
      obtain ⟨v, u, rfl, rv, ru⟩ := RAs.two rx
      split at q1
      · next ds es h1 h2 =>
        obtain ⟨S1, w1, l1, z1, k1⟩ := src_of a1.sto rv h1
        obtain ⟨S2, w2, l2, z2, k2⟩ := src_of a1.sto ru h2
        refine ⟨v, u, S1, S2, rfl, w1, w2, (k1 _ _ _ (.refl a1.sto)).1, (k2 _ _ _ (.refl a1.sto)).1, q1 _ H1 μ1 (.refl a1.sto) ⟨by rw [zipD_len]; omega, fun μ2 H2 st2 a2 => ⟨fun i d hd => ?_, fun i hi => ?_⟩⟩⟩
        · obtain ⟨ok1, g1⟩ := k1 _ _ _ a2
          obtain ⟨ok2, g2⟩ := k2 _ _ _ a2
          rw [zipD_get] at hd
          split at hd
          · next x' y' hx hy =>
            cases hd
            obtain ⟨x1, e1, r1⟩ := g1 i x' hx
            obtain ⟨y1, e2, r2⟩ := g2 i y' hy
            refine ⟨⟨ok1, ok2, by rw [l1]; exact (List.getElem?_eq_some_iff.mp hx).1, by rw [l2]; exact (List.getElem?_eq_some_iff.mp hy).1⟩, fun z H' ⟨T, x2, y2, ez, hT, eH, e3, e4⟩ => ?_⟩
            subst ez; subst eH
            rw [e1] at e3; cases e3
            rw [e2] at e4; cases e4
            obtain ⟨a3, r3⟩ := Aft.tup (ds := [x', y']) (vs := [x1, y1]) a2.sto hT (by show 2 ≤ sizeLine; decide) (.cons r1 (.cons r2 .nil))
            exact ⟨μ2, a3, r3⟩
          · cases hd
        · rw [zipD_len] at hi
          exact ⟨(k1 _ _ _ a2).1, (k2 _ _ _ a2).1, by omega⟩
      · exact q1.elim
    · exact q1.elim⟩
end
end Fn

set_option Elab.async false
set_option linter.all false
set_option autoImplicit false
set_option maxRecDepth 100000
set_option maxHeartbeats 4000000
/-! Layer Fn: exceptions caught; a def that looks at them; count. -/
namespace Fn
open PySem PySem.Spec PyProof.Rows L2
/-! ### list.count -/
theorem count_eq {x : V} : ∀ {xs : List V} {us : List Value}, Vals xs us → xs.all flatV = true → us.countP (eqU x) = (xs.filter fun y => eqV y x).length
  | _, _, .nil, _ => rfl
  | y :: xs, _, .cons r t, f => by
    simp only [List.all_cons, Bool.and_eq_true] at f
    rw [List.countP_cons, count_eq t f.2, List.filter_cons, eqU_of r f.1]
    cases eqV y x <;> simp
def rCountF (K : PySem.W.Frag) : V → List V → Hp → VK → Prop := fun x xs H Q => ∃ (p : Addr) (ys : List V) (y : V), x = .ref p ∧ xs = [y] ∧ SqL K H p ys ∧ flatV y = true ∧ ys.all flatV = true ∧ Q (.int ((ys.filter fun z => eqV z y).length : Nat)) H
theorem mt_countF {X : Cx} : MtR X "list.count" (rCountF X.K) := by
  intro pins s σ H x xs v us Q I rx rxs h
  obtain ⟨p, ys, y, rfl, rfl, hs, fy, fys, q⟩ := h
  cases rx
  obtain ⟨u, rfl, ru⟩ := rxs.one
  obtain ⟨its, rv, ⟨⟨cls, dd, data, sl⟩, n, ho, hc, hdn, hd⟩, hlen⟩ := I.list hs
  simp only at hc hd
  subst hc hd
  refine call_meets PySem.F.slot_list_count ⟨_, ho, rfl⟩ PySem.F.entry_list_count (PySem.F.args_list_count_2 _ _)
    (SeqAt.list_countAt p its.toArray n dd sl u (eqU y)) ⟨ho, fun z hz => mem_eqAt ru fy rv fys z (by simpa using hz), ?_⟩
  refine ⟨.int _, H, I.tok _, ⟨s.toks, ?_⟩, q⟩
  rw [← count_eq rv fys]
section
variable {K : PySem.W.Frag} {mg : MG}
def gCount : GM := fun st x xs => match lstD st x, xs with
  | some ds, [y] => match toV y, toVs ds with
    | some v, some vs => some (.int ((vs.filter fun z => eqV z v).length : Nat), st)
    | _, _ => none
  | _, _ => none
theorem mt_cnt : MtA K mg (rCountF K) gCount := fun μ H st x xs v vs z st' Q s rx rxs e q => by
  unfold gCount at e
  split at e
  · next ds y h =>
    split at e
    · next v' vs' h1 h2 =>
      cases e
      obtain ⟨a, ws, rfl, e1, e2, e3⟩ := lst_of s rx h
      obtain ⟨u, rfl, ru⟩ := rxs.one
      obtain ⟨rfl, f1⟩ := toV_of ru h1
      obtain ⟨rfl, f2⟩ := toVs_of e3 h2
      exact ⟨a, ws, u, rfl, rfl, .of e1, f1, f2, q _ H μ (.refl s) (.of (.int _))⟩
    · cases e
  · cases e
end
/-! ### a def called in an except suite, that gets the exception p -/
structure FnX (P : Program) (w : World) (K : PySem.W.Frag) (mg : MG) (base : Heap) (k : Nat) (f : Addr) (fd : FuncData) (ps : List Str) (spp : Addr × Obj → Sp) : Prop where
  len : ∀ p vs H Q E, spp p vs H Q E → vs.length = ps.length
  run : ∀ (A : Around) (outer : List Env) (s : Shared) (H : Hp) (ar : Args) (us : List Value) (vs : List V) (Q : VK) (E : XK) (p : Addr × Obj), L2H.RoomH k A → L2H.PinOk outer H s p → Env0 P w K mg base A outer s H → BindsTo s fd ar (ps.zip us) →
    Vals vs us → spp p vs H Q E → codeAny (model P w) A (.call (.ref f) ar) (CR (L2.CX P w) outer P w H s Q E) s
section
variable {P : Program} {w : World} {K : PySem.W.Frag} {mg : MG} {base : Heap} {k : Nat} {f : Addr} {fd : FuncData} {ps : List Str} {spp : Addr × Obj → Sp}
theorem fnX_of {x qual : Str} {st : Stmt} {N : List Str} (F : Fun K x qual st f fd) (S : FnScope N ps (defScope st)) (len : ∀ p vs H Q E, spp p vs H Q E → vs.length = ps.length)
    (hbody : ∀ (cdv : Value) (A : Around) (outer : List Env) (s : Shared) (H : Hp) (vs : List V) (Q : VK) (E : XK) (p : Addr × Obj), L2H.RoomH k (A.deeper (envOfC qual (defScope st) s.heap.objs.size f cdv)) → spp p vs H Q E →
      ∃ t, PSs (L2H.cxH (L2.CX P w) P w K mg base N qual (defScope st) f cdv A outer s H E p) (defBody st) t ∧ t { nx := fun _ H' => Q .non H', rt := Q } (L2.start N vs) H) :
    FnX P w K mg base (k + 1) f fd ps spp := by
  obtain ⟨oc, od, kV, doc, pm, an, cdv, ct, osl, rfl, lk, hcd⟩ := F.ex
  constructor
  · exact len
  intro A outer s H ar us vs Q E p room hpin e0 bind rel hsp
  have kin : K.In s.heap := e0.mod.kin.keeps fun b o e => (e0.bs b o e).1
  have nol : s.heap.NoLimit := e0.mod.nolimit.keeps fun b o e => (e0.bs b o e).1
  have kinds : ∀ y ∈ ps.zip us, (defScope st).names.lookup y.1 = some .local ∨ ((defScope st).names.lookup y.1 = some .cell ∧ ((cellsFrom (s.heap.objs.size + 1) (defScope st).names []).lookup y.1).isSome = true) := by
    rintro ⟨n, v⟩ hy
    have hn : n ∈ ps := (List.of_mem_zip hy).1
    exact (S.par n hn).imp id fun q => ⟨q, PySem.W.cellsFrom_some _ _ _ (.inl q)⟩
  refine codeAny_call_function room.depth (kin _ _ lk) rfl S.co S.gen rfl (PySem.W.codeRec_of kin hcd) (bind _ _ _ _ ?_)
  refine wpAny_newFunctionEnv_cells S.kind kinds fun env he s1 inC => ?_
  cases he
  refine ⟨nol.keeps inC.toInCall.keep, codeAny_func ?_⟩
  obtain ⟨t, derive, reads⟩ := hbody cdv A outer s H vs Q E p (room.deeper _) hsp
  have I := L2H.inv_startH (CX := L2.CX P w) (E := E) S hpin e0 (len _ _ _ _ _ hsp) rel inC
  refine wpAny_mono (derive.run [] s1 _ H _ I reads) (fun fl s' ends => ?_) fun _ _ z => z
  have close : ∀ (σ' : St) (H' : Hp) (v : V) (u : Value), Inv (L2H.cxH (L2.CX P w) P w K mg base N qual (defScope st) f cdv A outer s H E p) [] σ' H' s' → RelV v u → Q v H' → CE outer P w H s Q u s' :=
    fun _ H' v _ J rv q => ⟨v, H', J.os, J.bare, J.base, J.hok, rv, q⟩
  match fl, ends with
  | .ret u, ⟨v, σ', H', J, rv, q⟩ => exact close σ' H' v u J rv q
  | .next, ⟨σ', H', J, q⟩ => exact close σ' H' .non .none J rfl q
  | .brk, ⟨_, _, _, q⟩ => exact q.elim
  | .cont, ⟨_, _, _, q⟩ => exact q.elim
end
section
variable {X : Cx} {k : Nat} {f : Addr} {fd : FuncData} {ps : List Str} {spp : Addr × Obj → Sp} {x : Str} {p pos : Pos} {e : Expr} {es : List Expr} {t : TA}
/-- such a call; nothing is raised -/
theorem pe_callX {q : Addr × Obj} (hq : q ∈ X.pn) (F : FnX X.prog X.w X.K X.mg X.base k f fd ps spp) (hr : L2H.RoomH k X.A) (hg : Gl X x) (hm : X.mg x = some (.ref f)) (hk : PySem.W.keepIn X.K (.ref f) = true) (hb : Binds X.K fd ps [])
    (ha : PA X (e :: es) t) (hdb : (x == ("__debug__" : Str)) = false := by decide) (he : starEach (e :: es) X.env = (false, eval e X.env) :: starEach es X.env := by rfl) (hpl : (backTo pos (starEach es X.env)).any (·.1) = false := by rfl) :
    PE X (.Call (.Name x p) (e :: es) [] pos) (fun σ H Q => t σ H fun vs H1 => spp q vs H1 Q fun _ _ _ => False) := by
  constructor
  intro pins s σ H Q I h
  refine wpAny_Call_Name_kw (ld_glob I hg hm ?_ hdb)
  refine PySem.W.callWith_K (h₀ := X.base) I.ok.mod.kin hk ?_ he hpl
  refine thn (ha.run pos pins s σ H _ I h) ?_
  rintro us s1 ⟨vs, H1, I1, r, q1⟩
  refine ⟨I1.kIn, ?_⟩
  have P1 := I1.pin q (List.mem_append_left _ hq)
  have hpin : L2H.PinOk X.stack H1 s1 q := ⟨P1.1, P1.2.1, fun hm => (List.mem_cons.mp (I1.stkSub q.1 hm)).elim P1.2.2.1 P1.2.2.2.1, P1.2.2.2.2⟩
  have room := hb s1 us I1.kIn (by rw [List.append_nil, ← r.length]; exact F.len _ _ _ _ _ q1)
  rw [List.append_nil] at room
  refine wpAny_call (codeAny_mono (F.run X.A X.stack s1 H1 ⟨us, []⟩ _ _ Q _ q hr hpin I1.env0 room r q1) fun res s' got => ?_)
  match res, got with
  | .error er, ⟨_, _, _, _, _, _, _, _, _, _, _, _, z⟩ => exact z.elim
  | .ok (.ret u), got => exact I1.after got
  | .ok .next, got => exact got.elim
  | .ok .brk, got => exact got.elim
  | .ok .cont, got => exact got.elim
/-- isinstance(e, c), e an exception that the context bears -/
theorem call_isX {a D : Addr} {oe : Obj} (hp : (a, oe) ∈ X.pn) (C : ExcC X.K D) (hz : Zc (.ref D) none oe) (hf : ∃ vs, oe.data = .fields vs) : CallR X (.builtin "isinstance") (rIsE X.K D a) := by
  intro pins s σ H xs us Q I r h
  obtain ⟨c, cv, b, rfl, hcv, e, q⟩ := h
  obtain ⟨u, w, rfl, ru, rw'⟩ := Vals.two r
  cases ru
  cases hcv _ rw'
  obtain ⟨hget, _⟩ := I.pin (a, oe) (List.mem_append_left _ hp)
  obtain ⟨vs, hv⟩ := hf
  have J : PySem.W.InstAt s.heap a oe D none := by
    obtain ⟨oc, od, oda, osl⟩ := oe
    obtain ⟨h1, h2⟩ := hz
    simp only at h1 h2 hv
    subst h1; subst h2; subst hv
    exact ⟨hget, rfl, rfl, trivial⟩
  exact PySem.W.kia_one (PySem.W.handS_kitx_exc C.hg C.hk C.hs C.hd C.ha C.hn C.ht C.hm) I.kIn J e (by intro z; cases z) fun tk => ⟨.bl b, H, I.kept fun _ _ z => z, rfl, q⟩
end
/-- isinstance of the exception at a, in slot i -/
def eIsx (a : Addr) (b : Bool) (i : Nat) : EF := fun ρ st => match ρ[i]? with
  | some (some (.ptr c)) => if c = a then .ok (.bl b) st else .no
  | _ => .no
theorem ex_isx {X : Cx} {W : WX} {a D C : Addr} {oe : Obj} {b : Bool} {i : Nat} {x cls : Str} {p1 p2 p3 pos : Pos} (hp : (a, oe) ∈ X.pn) (hC : ExcC X.K D) (hz : Zc (.ref D) none oe) (hf : ∃ vs, oe.data = .fields vs) (hk : PySem.W.kitOne X.K (.ref D) (.ref C) = some b)
    (hc : X.mg cls = some (.ref C)) (hm : X.mg "isinstance" = none) (hN : X.N[i]? = some x) (hv : Vis X.env.scope x) (hg : Gl X "isinstance" := by rfl) (hgc : Gl X cls := by rfl)
    (hd : (x == ("__debug__" : Str)) = false := by decide) (hcd : (x == ("__classdict__" : Str)) = false := by decide) (hd2 : (cls == ("__debug__" : Str)) = false := by decide)
    (h1 : starEach [.Name x p2, .Name cls p3] X.env = (false, eval (.Name x p2) X.env) :: starEach [.Name cls p3] X.env := by rfl) (h2 : starEach [.Name cls p3] X.env = (false, eval (.Name cls p3) X.env) :: starEach [] X.env := by rfl)
    (hpl : (backTo pos (starEach [.Name cls p3] X.env)).any (·.1) = false := by rfl) :
    EX X W (.Call (.Name "isinstance" p1) [.Name x p2, .Name cls p3] [] pos) (eIsx a b i) := by
  have ha : PA X [.Name x p2, .Name cls p3] (tCons (tVar i) (tCons (tC (.ref C)) tNil)) := pa_cons (pe_var hN hv hd hcd) (pa_cons (pe_glob hgc hc rfl hd2) pa_nil h2) h1
  refine (pe_callB (call_isX hp hC hz hf) hg hm (by decide +kernel) ha (by decide) (by decide) h1 hpl).imp fun σ H Q ⟨μ, ρ, st, r, q⟩ => ?_
  unfold eIsx at q
  split at q
  · next c h =>
    split at q
    · next hca =>
      subst hca
      obtain ⟨v, e1, e2⟩ := r.env.at_ _ _ h
      have e2 : v = .ref c := by simpa only [RA, RD] using e2
      subst e2
      exact ⟨_, e1, V.ref C, .ref C, b, rfl, fun u hu => hu, hk, q (.bl b) H μ (.refl r.sto) (.of (.bl b))⟩
    · exact q.elim
  · exact q.elim
/-- a def that looks at an exception: den tells its worth by the exception's place and its class's name -/
structure KindOk (P : Program) (w : World) (K : PySem.W.Frag) (mg : MG) (base : Heap) (x : Str) (k : Nat) (good : Str → Bool) (den : Addr → Str → Den) : Prop where
  ex : ∃ (f : Addr) (fd : FuncData) (ps : List Str), mg x = some (.ref f) ∧ PySem.W.keepIn K (.ref f) = true ∧ Binds K fd ps [] ∧
    FnX P w K mg base k f fd ps (fun p vs H Q E => ∃ cls C, good cls = true ∧ mg cls = some (.ref C) ∧ Zc (.ref C) none p.2 ∧ (∃ vs, p.2.data = .fields vs) ∧ spF K mg 1 (den p.1 cls) vs H Q E)
theorem kind_of {P : Program} {w : World} {K : PySem.W.Frag} {mg : MG} {base : Heap} {x qual : Str} {st : Stmt} {f : Addr} {fd : FuncData} {N : List Str} {y : Str} {k : Nat} {good : Str → Bool} {body : Addr → Str → SF} (F : Fun K x qual st f fd) (S : FnScope N [y] (defScope st)) (hm : mg x = some (.ref f)) (hb : Binds K fd [y] [])
    (hbody : ∀ (cls : Str) (C : Addr) (cdv : Value) (A : Around) (outer : List Env) (s : Shared) (H : Hp) (E : XK) (p : Addr × Obj), good cls = true → mg cls = some (.ref C) → Zc (.ref C) none p.2 → (∃ vs, p.2.data = .fields vs) →
      L2H.RoomH k (A.deeper (envOfC qual (defScope st) s.heap.objs.size f cdv)) →
      SXs (L2H.cxH (L2.CX P w) P w K mg base N qual (defScope st) f cdv A outer s H E p) (fun _ _ _ _ => False) (defBody st) (body p.1 cls)) :
    KindOk P w K mg base x (k + 1) good (fun a cls => denOf N.length false fun ρ s => match body a cls ρ s with
      | .er _ _ _ => .no
      | o => o) := by
  refine ⟨f, fd, [y], hm, F.kp, hb, fnX_of F S (fun p vs H Q E h => ?_) fun cdv A outer s H vs Q E p hr h => ?_⟩
  · obtain ⟨cls, C, _, _, _, _, μ, st0, ds, h1, h2, h3, h4⟩ := h
    rw [← h2.length, h3]; rfl
  · obtain ⟨cls, C, g1, g2, g3, g4, μ, st0, ds, h1, h2, h3, h4⟩ := h
    refine ⟨_, hbody cls C cdv A outer s H E p g1 g2 g3 g4 hr, ?_⟩
    refine ⟨μ, _, st0, ⟨RE.start (N := N) h2, h1⟩, ?_⟩
    unfold denOf at h4
    cases q : body p.1 cls (ds.map some ++ List.replicate (N.length - ds.length) none) st0 with
    | nx ρ' s' => simp only [q] at h4; exact fun σ' H' μ' a re => exit_ok h1.len a (d := .non) (.of (by simp only [RD])) h4
    | rt d s' => simp only [q] at h4; exact fun v H' μ' a rd => exit_ok h1.len a rd h4
    | er e ρ' s' => simp only [q] at h4; exact h4.elim
    | bk ρ' s' => simp only [q] at h4; exact h4.elim
    | ct ρ' s' => simp only [q] at h4; exact h4.elim
    | no => simp only [q] at h4; exact h4.elim
/-- f(n), n the exception of the suite, in slot i -/
theorem ex_kind {X : Cx} {k i : Nat} {x y cls : Str} {good : Str → Bool} {C a : Addr} {oe : Obj} {p p2 pos : Pos} {den : Addr → Str → Den} (hp : (a, oe) ∈ X.pn) (D : KindOk X.prog X.w X.K X.mg X.base x k good den) (hg : good cls = true) (hc : X.mg cls = some (.ref C)) (hz : Zc (.ref C) none oe) (hf : ∃ vs, oe.data = .fields vs)
    (hr : L2H.RoomH k X.A) (hN : X.N[i]? = some y) (hv : Vis X.env.scope y) (hgl : Gl X x := by rfl) (hdb : (x == ("__debug__" : Str)) = false := by decide)
    (hd : (y == ("__debug__" : Str)) = false := by decide) (hcd : (y == ("__classdict__" : Str)) = false := by decide)
    (h1 : starEach [.Name y p2] X.env = (false, eval (.Name y p2) X.env) :: starEach [] X.env := by rfl) (hpl : (backTo pos (starEach [] X.env)).any (·.1) = false := by rfl) :
    PE X (.Call (.Name x p) [.Name y p2] [] pos) (fun σ H Q => σ[i]? = some (some (.ref a)) ∧ ∃ μ st, RSt X.K X.mg μ H st ∧ PostE X.K X.mg (RA X.K X.mg) (fun _ _ _ _ => False) μ H [] Q (den a cls [.ptr a] st)) := by
  obtain ⟨f, fd, ps, hm, hk, hb, F⟩ := D.ex
  refine (pe_callX hp F hr hgl hm hk hb (pa_cons (pe_var hN hv hd hcd) pa_nil h1) hdb h1 hpl).imp fun σ H Q ⟨e, μ, st, rs, q⟩ => ?_
  exact ⟨_, e, cls, C, hg, hc, hz, hf, μ, st, [.ptr a], rs, .cons (by simp only [RA, RD]) .nil, rfl, q⟩
/-! ### try: .. except S as n: return f(n) -/
def sTryKind (i : Nat) (sub : Str → Option Bool) (kd : Str → Option D) (body : SF) : SF := fun ρ st => match body ρ st with
  | .er x ρ' st' => match sub x.cls with
    | some true => if i < ρ'.length then match x.arg, kd x.cls with
      | none, some d => .rt d st'
      | _, _ => .no else .no
    | some false => .er x ρ' st'
    | none => .no
  | o => o
section
variable {X : Cx} {W : WX} {k i : Nat} {n y xs : Str} {good : Str → Bool} {den : Addr → Str → Den} {kd : Str → Option D} {sub : Str → Option Bool} {CS : Addr} {body : List Stmt} {fb : SF} {np p p2 pos pos' pos2 pos3 : Pos}
theorem sx_tryKind (hN : X.N.Nodup) (hi : X.N[i]? = some n) (hln : X.env.kindOf n = some .local) (hc : Names X xs (.ref CS)) (tk : Takes X W) (hr : Room k X.A)
    (D : KindOk X.prog X.w X.K X.mg X.base y k good den) (hkd : ∀ a cls d st, kd cls = some d → good cls = true ∧ den a cls [.ptr a] st = .ok d st)
    (hsub : ∀ cls C b, sub cls = some b → X.mg cls = some (.ref C) → PySem.W.exmOne X.K (.ref C) (.ref CS) = some b)
    (hb : ∀ (W' : WX) (pn : List (Addr × Obj)) (xe : Value → Shared → Prop), Takes (X.tr pn xe) W' → PassesOwn (model X.prog X.w) X.A X.env xe → SXs (X.tr pn xe) W' body fb)
    (hs : X.stack = X.env :: X.outer := by rfl) (hf : X.env.frame = some X.env.locals := by rfl) (hv : Vis X.env.scope n := by first | exact Or.inl rfl | exact Or.inr (Or.inl rfl) | exact Or.inr (Or.inr rfl)) (hgl : Gl X y := by rfl) (hdb : (y == ("__debug__" : Str)) = false := by decide)
    (hd : (n == ("__debug__" : Str)) = false := by decide) (hcd : (n == ("__classdict__" : Str)) = false := by decide)
    (h1 : starEach [.Name n p2] X.env = (false, eval (.Name n p2) X.env) :: starEach [] X.env := by rfl) (hpl : (backTo pos3 (starEach [] X.env)).any (·.1) = false := by rfl) :
    SX X W (.Try body [.ExceptHandler (some (.Name xs np)) (some n) [.Return (some (.Call (.Name y p) [.Name n p2] [] pos3)) pos2] pos'] [] [] pos) (sTryKind i sub kd fb) := by
  let ts : Addr → Value → Option Addr → TS := fun a cls d E σ H => ∃ x C, good x = true ∧ X.mg x = some (.ref C) ∧ cls = .ref C ∧ d = none ∧ σ[i]? = some (some (.ref a)) ∧ ∃ μ st, RSt X.K X.mg μ H st ∧
    PostE X.K X.mg (RA X.K X.mg) (fun _ _ _ _ => False) μ H [] E.rt (den a x [.ptr a] st)
  have hsu : ∀ (a : Addr) (oe : Obj) (cls : Value) (d : Option Addr) (pn : List (Addr × Obj)), Zc cls d oe → (∃ vs, oe.data = .fields vs) → PSs (X.suite a ((a, oe) :: pn)) [.Return (some (.Call (.Name y p) [.Name n p2] [] pos3)) pos2] (ts a cls d) := by
    intro a oe cls d pn hz hfs
    constructor
    rintro pins s σ H E I ⟨x, C, g1, g2, rfl, rfl, g5, μ, st, g6, g7⟩
    exact (pss_one (ps_ret (ex_kind (X := X.suite a ((a, oe) :: pn)) (cls := x) (den := den) List.mem_cons_self D g1 g2 hz hfs ⟨hr.dp, hr.un⟩ hi hv hgl hdb hd hcd h1 hpl))).run pins s σ H E I ⟨g5, μ, st, g6, g7⟩
  refine (ps_try_as (tb := fun W' => tSOf X.K X.mg W' fb) (ts := ts) (Wout := W) hs hf hN hi hln hc tk hb hsu).imp fun E σ H ⟨μ, ρ, st, r, q⟩ => ⟨μ, ρ, st, r, ?_⟩
  unfold sTryKind at q
  cases e : fb ρ st with
  | nx ρ' s' => simp only [e] at q; exact q
  | rt d s' => simp only [e] at q; exact q
  | bk ρ' s' => simp only [e] at q; exact q
  | ct ρ' s' => simp only [e] at q; exact q
  | no => simp only [e] at q; exact q
  | er x ρ' s' =>
    simp only [e] at q
    intro cls dd σ' H' μ' a re xr
    obtain ⟨⟨C, hC, rfl⟩, hdd, hfd⟩ := xr
    cases hs2 : sub x.cls with
    | none => rw [hs2] at q; exact q.elim
    | some b =>
      rw [hs2] at q
      refine ⟨b, hsub _ _ _ hs2 hC, fun hb2 c hcn => ?_, fun hb2 => ?_⟩
      · subst hb2
        simp only at q
        split at q
        case isFalse => exact q.elim
        next hi' =>
        split at q
        · next d h3 h4 =>
          obtain ⟨g1, g2⟩ := hkd c _ d s' h4
          refine ⟨x.cls, C, g1, hC, rfl, hdd h3, ?_, μ', s', a.sto, ?_⟩
          · have hlen : i < σ'.length := by
              rw [← re.len]; exact hi'
            rw [List.getElem?_set_self hlen]
          · rw [g2]
            exact fun v H2 μ2 a2 rv => q v H2 μ2 (a.trans a2) rv
        · exact q.elim
      · subst hb2
        exact q _ _ _ _ _ a re ⟨⟨C, hC, rfl⟩, hdd, hfd⟩
end
end Fn

set_option Elab.async false
set_option linter.all false
set_option autoImplicit false
set_option maxRecDepth 100000
set_option maxHeartbeats 4000000
/-! Layer Fn: short words for the generator. -/
namespace Fn
open PySem PySem.Spec PyProof.Rows L2
section
variable {X : Cx} {W : WX} {a b c e : Expr} {fa fb fc f : EF} {pos p : Pos} {k : Nat} {x : Str}
theorem x_gi {i : Int} (h : ∃ t, X.mg x = some (.int i t)) (hg : Gl X x := by rfl) (hd : (x == ("__debug__" : Str)) = false := by decide) : EX X W (.Name x pos) (eC (.int i)) := by
  obtain ⟨t, h⟩ := h
  exact ex_glob (v := .int i) h ⟨t, rfl⟩ (fun _ _ => .int i) hg hd
theorem x_gs {i : Str} (h : ∃ t, X.mg x = some (.str i t)) (hl : i.length ≤ sizeLine := by decide) (hg : Gl X x := by rfl) (hd : (x == ("__debug__" : Str)) = false := by decide) : EX X W (.Name x pos) (eC (.str i)) := by
  obtain ⟨t, h⟩ := h
  exact ex_glob (v := .str i) h ⟨t, rfl⟩ (fun _ _ => .str hl) hg hd
theorem x_gr (h : ∃ a, X.mg x = some (.ref a)) (hg : Gl X x := by rfl) (hd : (x == ("__debug__" : Str)) = false := by decide) : EX X W (.Name x pos) (eC (.gl x)) := by
  obtain ⟨t, h⟩ := h
  exact ex_glob (v := .ref t) h rfl (fun _ _ => by simp only [RD]; exact ⟨t, rfl, h⟩) hg hd
theorem xv (i : Nat) {x : Str} (hv : Vis X.env.scope x) (hN : X.N[i]? = some x := by rfl) (hd : (x == ("__debug__" : Str)) = false := by decide) (hcd : (x == ("__classdict__" : Str)) = false := by decide) :
    EX X W (.Name x pos) (eVar i) := ex_var hN hv hd hcd
/-! operators -/
theorem x_add (ha : EX X W a fa) (hb : EX X W b fb) : EX X W (.BinOp a .Add b pos) (eOp2 gAdd fa fb) := ex_op opR_add op2_add ha hb
theorem x_sub (ha : EX X W a fa) (hb : EX X W b fb) : EX X W (.BinOp a .Sub b pos) (eOp2 gSub fa fb) := ex_op op_sub op2_sub ha hb
theorem x_mul (ha : EX X W a fa) (hb : EX X W b fb) : EX X W (.BinOp a .Mult b pos) (eOp2 gMul fa fb) := ex_op opR_mul op2_mul ha hb
theorem x_div (ha : EX X W a fa) (hb : EX X W b fb) : EX X W (.BinOp a .FloorDiv b pos) (eOp2 gDiv fa fb) := ex_op op_fdivW op2_div ha hb
theorem x_mod (ha : EX X W a fa) (hb : EX X W b fb) : EX X W (.BinOp a .Mod b pos) (eOp2 gMod fa fb) := ex_op op_mod op2_mod ha hb
theorem x_pow (ha : EX X W a fa) (hb : EX X W b fb) : EX X W (.BinOp a .Pow b pos) (eOp2 gPow fa fb) := ex_op op_pow op2_pow ha hb
/-- -a -/
def eNeg (fa : EF) : EF := fun ρ st => (fa ρ st).bind fun d s1 => match d with
  | .int i => .ok (.int (-i)) s1
  | _ => .no
theorem x_neg (ha : EX X W a fa) : EX X W (.UnaryOp .USub a pos) (eNeg fa) :=
  (pe_un un_neg ha).imp fun σ H Q ⟨μ, ρ, st, r, p⟩ => ⟨μ, ρ, st, r, p.bind fun d s1 v H1 μ1 _ a1 rx p1 => by
    cases d with
    | int i => exact ⟨i, rx.int, p1 _ H1 μ1 (.refl a1.sto) (.of (.int _))⟩
    | _ => exact p1.elim⟩
/-- a + b, a list that is to change -/
def eCatM (fa fb : EF) : EF := fun ρ st => (fa ρ st).bind fun x s1 => (fb ρ s1).bind fun y s2 => match lstD s2 x, lstD s2 y with
  | some ds, some es => if ds.length + es.length ≤ sizeLine then .ok (.mu s2.length) (s2 ++ [.ml (ds ++ es)]) else .no
  | _, _ => .no
theorem x_catM (ha : EX X W a fa) (hb : EX X W b fb) : EX X W (.BinOp a .Add b pos) (eCatM fa fb) :=
  (pe_op op_cat ha hb).imp fun σ H Q ⟨μ, ρ, st, r, p⟩ => ⟨μ, ρ, st, r, p.bind fun x s1 v H1 μ1 _ a1 rx p1 => ⟨μ1, ρ, s1, r.aft a1, p1.bind fun y s2 u H2 μ2 _ a2 ry p2 => by
    split at p2
    · next ds es h1 h2 =>
      split at p2
      · next hl =>
        obtain ⟨q1, vs, rfl, e1, l1, r1⟩ := lst_of a2.sto (rx.aft a2) h1
        obtain ⟨q2, ws, rfl, e2, l2, r2⟩ := lst_of a2.sto ry h2
        refine ⟨q1, q2, vs, ws, rfl, rfl, e1, e2, by rw [← r1.length, ← r2.length]; exact hl, fun q hq => ?_⟩
        obtain ⟨a3, r3⟩ := Aft.lstM a2.sto hq (by simpa using hl) (r1.app r2)
        exact p2 _ _ _ a3 r3
      · exact p2.elim
    · exact p2.elim⟩⟩
/-! comparisons, as values and as tests -/
theorem x_lt (hr : Room k X.A) (ha : EX X W a fa) (hb : EX X W b fb) : EX X W (.Compare a [.Lt] [b] pos) (eCmp gLt fa fb) := ex_cmp (opR_lt hr.units0) cm_lt ha hb (nomark _)
theorem x_le (ha : EX X W a fa) (hb : EX X W b fb) : EX X W (.Compare a [.LtE] [b] pos) (eCmp gLe fa fb) := ex_cmp op_le cm_ci ha hb (nomark _)
theorem x_gt (ha : EX X W a fa) (hb : EX X W b fb) : EX X W (.Compare a [.Gt] [b] pos) (eCmp gGt fa fb) := ex_cmp op_gt cm_ci ha hb (nomark _)
theorem x_ge (ha : EX X W a fa) (hb : EX X W b fb) : EX X W (.Compare a [.GtE] [b] pos) (eCmp gGe fa fb) := ex_cmp op_ge cm_ci ha hb (nomark _)
theorem x_eq (hr : Room k X.A) (ha : EX X W a fa) (hb : EX X W b fb) : EX X W (.Compare a [.Eq] [b] pos) (eCmp gEq fa fb) := ex_cmp (opR_eq hr.units) cm_eq ha hb (nomark _)
theorem x_ne (hr : Room k X.A) (ha : EX X W a fa) (hb : EX X W b fb) : EX X W (.Compare a [.NotEq] [b] pos) (eCmp gNe fa fb) := ex_cmp (opR_ne hr.units) cm_ne ha hb (nomark _)
theorem x_is (ha : EX X W a fa) (hb : EX X W b fb) : EX X W (.Compare a [.Is] [b] pos) (eCmp gIs fa fb) := ex_cmp opR_is cm_is ha hb (nomark _)
theorem x_isnot (ha : EX X W a fa) (hb : EX X W b fb) : EX X W (.Compare a [.IsNot] [b] pos) (eCmp gIsNot fa fb) := ex_cmp opR_isnot cm_isnot ha hb (nomark _)
theorem x_in (ha : EX X W a fa) (hb : EX X W b fb) (hm : behindInMarks .In b = false := by rfl) : EX X W (.Compare a [.In] [b] pos) (eCmp gIn fa fb) := ex_cmp opR_in cm_in ha hb hm
theorem x_notin (ha : EX X W a fa) (hb : EX X W b fb) (hm : behindInMarks .NotIn b = false := by rfl) : EX X W (.Compare a [.NotIn] [b] pos) (eCmp gNotIn fa fb) := ex_cmp opR_notIn cm_notIn ha hb hm
theorem t_lt (hr : Room k X.A) (ha : EX X W a fa) (hb : EX X W b fb) : TX X W (.Compare a [.Lt] [b] pos) (tCm gLt fa fb) := tx_cmp (opR_lt hr.units0) cm_lt ha hb (nomark _)
theorem t_le (ha : EX X W a fa) (hb : EX X W b fb) : TX X W (.Compare a [.LtE] [b] pos) (tCm gLe fa fb) := tx_cmp op_le cm_ci ha hb (nomark _)
theorem t_gt (ha : EX X W a fa) (hb : EX X W b fb) : TX X W (.Compare a [.Gt] [b] pos) (tCm gGt fa fb) := tx_cmp op_gt cm_ci ha hb (nomark _)
theorem t_ge (ha : EX X W a fa) (hb : EX X W b fb) : TX X W (.Compare a [.GtE] [b] pos) (tCm gGe fa fb) := tx_cmp op_ge cm_ci ha hb (nomark _)
theorem t_eq (hr : Room k X.A) (ha : EX X W a fa) (hb : EX X W b fb) : TX X W (.Compare a [.Eq] [b] pos) (tCm gEq fa fb) := tx_cmp (opR_eq hr.units) cm_eq ha hb (nomark _)
theorem t_ne (hr : Room k X.A) (ha : EX X W a fa) (hb : EX X W b fb) : TX X W (.Compare a [.NotEq] [b] pos) (tCm gNe fa fb) := tx_cmp (opR_ne hr.units) cm_ne ha hb (nomark _)
theorem t_is (ha : EX X W a fa) (hb : EX X W b fb) : TX X W (.Compare a [.Is] [b] pos) (tCm gIs fa fb) := tx_cmp opR_is cm_is ha hb (nomark _)
theorem t_isnot (ha : EX X W a fa) (hb : EX X W b fb) : TX X W (.Compare a [.IsNot] [b] pos) (tCm gIsNot fa fb) := tx_cmp opR_isnot cm_isnot ha hb (nomark _)
theorem t_in (ha : EX X W a fa) (hb : EX X W b fb) (hm : behindInMarks .In b = false := by rfl) : TX X W (.Compare a [.In] [b] pos) (tCm gIn fa fb) := tx_cmp opR_in cm_in ha hb hm
theorem t_notin (ha : EX X W a fa) (hb : EX X W b fb) (hm : behindInMarks .NotIn b = false := by rfl) : TX X W (.Compare a [.NotIn] [b] pos) (tCm gNotIn fa fb) := tx_cmp opR_notIn cm_notIn ha hb hm
/-! chains of two comparisons of ints -/
theorem x_lele (ha : EX X W a fa) (hb : EX X W b fb) (hc : EX X W c fc) (hm : lastMarks [.LtE, .LtE] [b, c] = false := by with_unfolding_all rfl) : EX X W (.Compare a [.LtE, .LtE] [b, c] pos) (eChain gLe gLe fa fb fc) := ex_chain op_le op_le cm_ci cm_ci ha hb hc hm
theorem x_lelt (hr : Room k X.A) (ha : EX X W a fa) (hb : EX X W b fb) (hc : EX X W c fc) (hm : lastMarks [.LtE, .Lt] [b, c] = false := by with_unfolding_all rfl) : EX X W (.Compare a [.LtE, .Lt] [b, c] pos) (eChain gLe gLt fa fb fc) := ex_chain op_le (opR_lt hr.units0) cm_ci cm_lt ha hb hc hm
theorem t_lele (ha : EX X W a fa) (hb : EX X W b fb) (hc : EX X W c fc) (hm : lastMarks [.LtE, .LtE] [b, c] = false := by with_unfolding_all rfl) : TX X W (.Compare a [.LtE, .LtE] [b, c] pos) (tChn gLe gLe fa fb fc) := tx_chain op_le op_le cm_ci cm_ci ha hb hc hm
theorem t_lelt (hr : Room k X.A) (ha : EX X W a fa) (hb : EX X W b fb) (hc : EX X W c fc) (hm : lastMarks [.LtE, .Lt] [b, c] = false := by with_unfolding_all rfl) : TX X W (.Compare a [.LtE, .Lt] [b, c] pos) (tChn gLe gLt fa fb fc) := tx_chain op_le (opR_lt hr.units0) cm_ci cm_lt ha hb hc hm
/-! built-ins -/
variable {es : List Expr} {fr : AF}
section
variable (hm : X.mg x = none)
end
theorem x_len (hm : X.mg "len" = none) (ha : AX X W [e] fr) (hgl : Gl X "len" := by rfl) (he : starEach [e] X.env = (false, eval e X.env) :: starEach [] X.env := by rfl) : EX X W (.Call (.Name "len" p) [e] [] pos) (eCB gLen fr) := ex_callB call_len cb_len hm (by decide +kernel) ha hgl (by decide) (by decide) he rfl
theorem x_all (hc : X.calm = true) (hm : X.mg "all" = none) (ha : AX X W [e] fr) (hgl : Gl X "all" := by rfl) (he : starEach [e] X.env = (false, eval e X.env) :: starEach [] X.env := by rfl) : EX X W (.Call (.Name "all" p) [e] [] pos) (eCB gAll fr) := ex_callB (cr_all hc) cb_all hm (by decide +kernel) ha hgl (by decide) (by decide) he rfl
theorem x_any (hc : X.calm = true) (hm : X.mg "any" = none) (ha : AX X W [e] fr) (hgl : Gl X "any" := by rfl) (he : starEach [e] X.env = (false, eval e X.env) :: starEach [] X.env := by rfl) : EX X W (.Call (.Name "any" p) [e] [] pos) (eCB gAny fr) := ex_callB (cr_any hc) cb_any hm (by decide +kernel) ha hgl (by decide) (by decide) he rfl
theorem x_sum (hc : X.calm = true) (hm : X.mg "sum" = none) (ha : AX X W [e] fr) (hgl : Gl X "sum" := by rfl) (he : starEach [e] X.env = (false, eval e X.env) :: starEach [] X.env := by rfl) : EX X W (.Call (.Name "sum" p) [e] [] pos) (eCB gSum fr) := ex_callB (cr_sum hc) cb_sum hm (by decide +kernel) ha hgl (by decide) (by decide) he rfl
theorem x_int (hm : X.mg "int" = none) (ha : AX X W [e] fr) (hgl : Gl X "int" := by rfl) (he : starEach [e] X.env = (false, eval e X.env) :: starEach [] X.env := by rfl) : EX X W (.Call (.Name "int" p) [e] [] pos) (eCB gInt fr) := ex_callTy call_int1 cb_int hm (by decide +kernel) ha hgl (by decide) (by decide) he rfl
theorem x_tuple (hm : X.mg "tuple" = none) (ha : AX X W [e] fr) (hgl : Gl X "tuple" := by rfl) (he : starEach [e] X.env = (false, eval e X.env) :: starEach [] X.env := by rfl) : EX X W (.Call (.Name "tuple" p) [e] [] pos) (eCB gTuple fr) := ex_callTy call_tuple_of cb_tuple hm (by decide +kernel) ha hgl (by decide) (by decide) he rfl
theorem x_list (hm : X.mg "list" = none) (ha : AX X W [e] fr) (hgl : Gl X "list" := by rfl) (he : starEach [e] X.env = (false, eval e X.env) :: starEach [] X.env := by rfl) : EX X W (.Call (.Name "list" p) [e] [] pos) (eCB gList fr) := ex_callTy call_list_of cb_list hm (by decide +kernel) ha hgl (by decide) (by decide) he rfl
theorem x_abs (hm : X.mg "abs" = none) (ha : AX X W [e] fr) (hgl : Gl X "abs" := by rfl) (he : starEach [e] X.env = (false, eval e X.env) :: starEach [] X.env := by rfl) : EX X W (.Call (.Name "abs" p) [e] [] pos) (eCB gAbs fr) := ex_callB call_abs cb_abs hm (by decide +kernel) ha hgl (by decide) (by decide) he rfl
theorem x_repr (hr : Room k X.A) (gd : X.A.guards = some []) (hm : X.mg "repr" = none) (ha : AX X W [e] fr) (hgl : Gl X "repr" := by rfl) (he : starEach [e] X.env = (false, eval e X.env) :: starEach [] X.env := by rfl) : EX X W (.Call (.Name "repr" p) [e] [] pos) (eCB gRepr fr) :=
  ex_callB (call_reprD hr gd) cb_repr hm (by decide +kernel) ha hgl (by decide) (by decide) he rfl
theorem x_min2 (hc : X.calm = true) (hm : X.mg "min" = none) (ha : AX X W [a, b] fr) (hgl : Gl X "min" := by rfl) (he : starEach [a, b] X.env = (false, eval a X.env) :: starEach [b] X.env := by rfl) (hpl : (backTo pos (starEach [b] X.env)).any (·.1) = false := by rfl) :
    EX X W (.Call (.Name "min" p) [a, b] [] pos) (eCB gMin2 fr) := ex_callB (call_min2 hc) cb_min2 hm (by decide +kernel) ha hgl (by decide) (by decide) he hpl
theorem x_max2 (hc : X.calm = true) (hm : X.mg "max" = none) (ha : AX X W [a, b] fr) (hgl : Gl X "max" := by rfl) (he : starEach [a, b] X.env = (false, eval a X.env) :: starEach [b] X.env := by rfl) (hpl : (backTo pos (starEach [b] X.env)).any (·.1) = false := by rfl) :
    EX X W (.Call (.Name "max" p) [a, b] [] pos) (eCB gMax2 fr) := ex_callB (call_max2 hc) cb_max2 hm (by decide +kernel) ha hgl (by decide) (by decide) he hpl
/-! methods -/
variable {o : Expr} {fo : EF}
theorem x_append (ho : EX X W o fo) (ha : AX X W [e] fr) (hbase : attributeBase o "append" X.env (eval o X.env) = eval o X.env := by rfl)
    (hfew : ((backTo pos (starEach [e] X.env)).all (fun x => !x.1) && (backToKw pos (keywordEach [] X.env)).all (fun x => x.1.isSome)
      && decide ([e].length + ([] : List Keyword).length + (if ([] : List Keyword).isEmpty then 0 else 1) < 30)) = true := by rfl)
    (hline : (p.endLine == pos.line) = true := by rfl) (hs : starEach [e] X.env = (false, eval e X.env) :: starEach [] X.env := by rfl) : EX X W (.Call (.Attribute o "append" p) [e] [] pos) (eMt gAppend fo fr) :=
  ex_mt PySem.F.slot_list_append PySem.F.type_list_append mt_append mt_app ho ha hbase hfew hline hs rfl
theorem x_extend (ho : EX X W o fo) (ha : AX X W [e] fr) (hbase : attributeBase o "extend" X.env (eval o X.env) = eval o X.env := by rfl)
    (hfew : ((backTo pos (starEach [e] X.env)).all (fun x => !x.1) && (backToKw pos (keywordEach [] X.env)).all (fun x => x.1.isSome)
      && decide ([e].length + ([] : List Keyword).length + (if ([] : List Keyword).isEmpty then 0 else 1) < 30)) = true := by rfl)
    (hline : (p.endLine == pos.line) = true := by rfl) (hs : starEach [e] X.env = (false, eval e X.env) :: starEach [] X.env := by rfl) : EX X W (.Call (.Attribute o "extend" p) [e] [] pos) (eMt gExtend fo fr) :=
  ex_mt PySem.F.slot_list_extend PySem.F.type_list_extend mt_extend mt_ext ho ha hbase hfew hline hs rfl
theorem x_index (ho : EX X W o fo) (ha : AX X W [e] fr) (hbase : attributeBase o "index" X.env (eval o X.env) = eval o X.env := by rfl)
    (hfew : ((backTo pos (starEach [e] X.env)).all (fun x => !x.1) && (backToKw pos (keywordEach [] X.env)).all (fun x => x.1.isSome)
      && decide ([e].length + ([] : List Keyword).length + (if ([] : List Keyword).isEmpty then 0 else 1) < 30)) = true := by rfl)
    (hline : (p.endLine == pos.line) = true := by rfl) (hs : starEach [e] X.env = (false, eval e X.env) :: starEach [] X.env := by rfl) : EX X W (.Call (.Attribute o "index" p) [e] [] pos) (eMt gIndex fo fr) :=
  ex_mt PySem.F.slot_list_index PySem.F.type_list_index mt_index mt_idx ho ha hbase hfew hline hs rfl
theorem x_count (ho : EX X W o fo) (ha : AX X W [e] fr) (hbase : attributeBase o "count" X.env (eval o X.env) = eval o X.env := by rfl)
    (hfew : ((backTo pos (starEach [e] X.env)).all (fun x => !x.1) && (backToKw pos (keywordEach [] X.env)).all (fun x => x.1.isSome)
      && decide ([e].length + ([] : List Keyword).length + (if ([] : List Keyword).isEmpty then 0 else 1) < 30)) = true := by rfl)
    (hline : (p.endLine == pos.line) = true := by rfl) (hs : starEach [e] X.env = (false, eval e X.env) :: starEach [] X.env := by rfl) : EX X W (.Call (.Attribute o "count" p) [e] [] pos) (eMt gCount fo fr) :=
  ex_mt PySem.F.slot_list_count PySem.F.type_list_count mt_countF mt_cnt ho ha hbase hfew hline hs rfl
theorem x_pop (ho : EX X W o fo) (hbase : attributeBase o "pop" X.env (eval o X.env) = eval o X.env := by rfl) (hline : (p.endLine == pos.line) = true := by rfl) : EX X W (.Call (.Attribute o "pop" p) [] [] pos) (eMt gPop fo aNil) :=
  ex_mt0 PySem.F.slot_list_pop PySem.F.type_list_pop mt_pop mt_popL ho hbase hline
theorem x_reverse (ho : EX X W o fo) (hbase : attributeBase o "reverse" X.env (eval o X.env) = eval o X.env := by rfl) (hline : (p.endLine == pos.line) = true := by rfl) : EX X W (.Call (.Attribute o "reverse" p) [] [] pos) (eMt gReverse fo aNil) :=
  ex_mt0 PySem.F.slot_list_reverse PySem.F.type_list_reverse mt_reverse mt_rev ho hbase hline
theorem gxs_cons {tgs : List Expr} {t : Tg} {l : List Tg} (h1 : PG X e (rT X.K t)) (h2 : PGs X tgs (rTs X.K l)) (hs : (assignEach (e :: tgs) X.env).map (·.2) = assign e X.env :: (assignEach tgs X.env).map (·.2) := by rfl) : PGs X (e :: tgs) (rTs X.K (t :: l)) := by
  have := pgs_cons h1 h2 hs
  unfold rTs; exact this
/-! a, b = x, y -/
def sPar (i j : Nat) (fr : AF) : SF := fun ρ st => (fr ρ st).bindS ρ fun xs s1 => match xs with
  | [d, e] => .nx ((ρ.set i (some d)).set j (some e)) s1
  | _ => .no
theorem sx_par {i j : Nat} {x y : Str} {px py pt : Pos} {kt k2 pt2} (hc : X.calm = true) (hN : X.N.Nodup) (hi : X.N[i]? = some x) (hj : X.N[j]? = some y) (hij : i ≠ j) (h : PS X (.Assign [.Tuple [.Name x px, .Name y py] kt pt] (.Tuple [a, b] k2 pt2) pos) (tPar i j (tAOf X.K X.mg W fr))) :
    SX X W (.Assign [.Tuple [.Name x px, .Name y py] kt pt] (.Tuple [a, b] k2 pt2) pos) (sPar i j fr) :=
  h.imp fun E σ H ⟨μ, ρ, st, r, p⟩ => ⟨μ, ρ, st, r, PostS.bind r.env p fun xs s1 vs H1 μ1 _ a1 rx p1 => by
    split at p1
    · next d e' _ =>
      obtain ⟨v, u, rfl, rv, ru⟩ := RAs.two rx
      exact ⟨v, u, rfl, p1 _ H1 μ1 (.refl a1.sto) (((r.aft a1).env.set rv).set ru)⟩
    · exact p1.elim⟩
end
/-! calls of a def that a value tells -/
section
variable {X : Cx} {W : WX} {fe e : Expr} {es : List Expr} {ff : EF} {fr : AF} {pos : Pos} {k : Nat}
def eCallV (tb : List (Str × Nat × Den)) (ff : EF) (fr : AF) : EF := fun ρ st => (ff ρ st).bind fun g s1 => match g with
  | .gl x => match tb.lookup x with
    | some nd => (fr ρ s1).bind fun xs s2 => lenOk nd.1 nd.2 xs s2
    | none => .no
  | _ => .no
theorem ex_callV {tb : List (Str × Nat × Den)} (D : ∀ x n den, tb.lookup x = some (n, den) → DefOk X.prog X.w X.K X.mg X.base x k n den) (hr : Room k X.A) (gd : X.A.guards = some []) (tk : Takes X W) (hf : EX X W fe ff) (ha : AX X W (e :: es) fr)
    (hcall : eval (.Call fe (e :: es) [] pos) X.env = (do callWith pos (← eval fe X.env) [] (backTo pos (starEach (e :: es) X.env)) (backToKw pos (keywordEach [] X.env))) := by rfl)
    (he : starEach (e :: es) X.env = (false, eval e X.env) :: starEach es X.env := by rfl) (hpl : (backTo pos (starEach es X.env)).any (·.1) = false := by rfl) :
    EX X W (.Call fe (e :: es) [] pos) (eCallV tb ff fr) := by
  constructor
  intro pins s σ H Q I h
  obtain ⟨μ, ρ, st, r, p⟩ := h
  unfold eCallV at p
  refine Call_ ?_ hcall
  cases q : ff ρ st with
  | no => rw [q] at p; exact p.elim
  | er y s1 =>
    rw [q] at p
    refine thn (hf.run pins s σ H (fun _ _ => False) I ⟨μ, ρ, st, r, by rw [q]; exact p⟩) ?_
    rintro _ _ ⟨_, _, _, _, z⟩
    exact z.elim
  | ok g s1 =>
    rw [q] at p
    simp only [R.bind] at p
    cases g with
    | gl x =>
      simp only at p
      cases hx : tb.lookup x with
      | none => rw [hx] at p; exact p.elim
      | some nd =>
        obtain ⟨n, den⟩ := nd
        rw [hx] at p
        obtain ⟨f, fd, ps, hm, hk, hb, F⟩ := (D x n den hx).ex
        refine thn (hf.run pins s σ H (fun v H1 => v = .ref f ∧ ∃ μ1, Aft X.K X.mg μ H μ1 H1 s1) I ⟨μ, ρ, st, r, ?_⟩) ?_
        · rw [q]
          intro v H1 μ1 a1 rv
          have rv : ∃ a, v = .ref a ∧ X.mg x = some (.ref a) := by simpa only [RA, RD] using rv
          obtain ⟨a, rfl, ha'⟩ := rv
          rw [hm] at ha'; cases ha'
          exact ⟨rfl, μ1, a1⟩
        · rintro u s2 ⟨v, H1, I1, ru, rfl, μ1, a1⟩
          cases ru
          refine PySem.W.callWith_K (h₀ := X.base) I1.ok.mod.kin hk ?_ he hpl
          refine thn (ha.run pos pins s2 σ H1 (fun vs H2 => spF X.K X.mg n den vs H2 Q fun cls dd H' => W cls dd σ H') I1 ⟨μ1, ρ, s1, r.aft a1, PostE.bind (PostE.aft p a1) fun xs s3 vs H2 μ2 _ a2 rx p2 => ?_⟩) ?_
          · unfold lenOk at p2
            simp only at p2
            split at p2
            · next hl =>
              refine ⟨μ2, s3, xs, a2.sto, rx, hl, ?_⟩
              cases z : den xs s3 with
              | ok d s4 => rw [z] at p2; exact p2
              | er y s4 => rw [z] at p2; exact p2
              | no => rw [z] at p2; exact p2
            · exact p2.elim
          · rintro us s3 ⟨vs, H2, I2, rv, q2⟩
            exact ⟨I2.kIn, runG (dvs := []) (ds := []) (E := WE W) F hr gd hb .nil (passAt tk σ) I2 rv (by rw [List.append_nil]; exact q2)⟩
    | _ => exact p.elim
end
/-! the head's facts -/
section
variable {K : PySem.W.Frag} {mg : MG}
theorem fun_ofD {x qual : Str} {st : Stmt} {kws : List (Str × V)} {f : Addr} {fd : FuncData} (F : FunD K x qual (defArgs st) (defBody st) (defScope st) [] kws f fd) : Fun K x qual st f fd := by
  obtain ⟨oc, od, dV, kV, doc, pm, an, cdv, ct, osl, rfl, lk, hcd, hD, hK⟩ := F.ex
  rcases hD with ⟨_, rfl⟩ | ⟨e, _⟩
  · exact ⟨⟨oc, od, kV, doc, pm, an, cdv, ct, osl, rfl, lk, hcd⟩, F.kp⟩
  · exact absurd rfl e
end
end Fn
namespace Fn
open PySem PySem.Spec PyProof.Rows L2
section
variable {X : Cx} {W : WX} {a b e : Expr} {fa fb f : EF} {pos p pos' : Pos} {x : Str} {i : Nat}
theorem x_eqU (hu : X.A.units + 64 < cLine) (ha : EX X W a fa) (hb : EX X W b fb) : EX X W (.Compare a [.Eq] [b] pos) (eCmp gEq fa fb) := ex_cmp (opR_eq hu) cm_eq ha hb (nomark _)
theorem t_eqU (hu : X.A.units + 64 < cLine) (ha : EX X W a fa) (hb : EX X W b fb) : TX X W (.Compare a [.Eq] [b] pos) (tCm gEq fa fb) := tx_cmp (opR_eq hu) cm_eq ha hb (nomark _)
theorem roomH_u {k : Nat} {A : Around} (r : L2H.RoomH k A) : A.units + 64 < cLine := by have := r.un; omega
theorem sx_aug_add (hN : X.N.Nodup) (hi : X.N[i]? = some x) (hx : Loc X.env.scope x) (h : EX X W e f) (hf : X.fn x = true ∨ X.env.scope.names.lookup x = some .local := by first | exact .inl rfl | exact .inr rfl | assumption) : SX X W (.AugAssign (.Name x pos') .Add e pos) (sAug i gAddI f) :=
  sx_aug hN hi hx h ip_add (fun μ H st x y v u z Q s rx ry e q => by
    unfold gAddI gII at e
    split at e
    · cases e; exact ⟨_, _, rx.int, ry.int, q _ H μ (.refl s) (.int _)⟩
    · cases e) hf
theorem sx_aug_sub (hN : X.N.Nodup) (hi : X.N[i]? = some x) (hx : Loc X.env.scope x) (h : EX X W e f) (hf : X.fn x = true ∨ X.env.scope.names.lookup x = some .local := by first | exact .inl rfl | exact .inr rfl | assumption) : SX X W (.AugAssign (.Name x pos') .Sub e pos) (sAug i gSub f) :=
  sx_aug hN hi hx h ip_sub (fun μ H st x y v u z Q s rx ry e q => by
    unfold gSub gII at e
    split at e
    · cases e; exact ⟨_, _, rx.int, ry.int, q _ H μ (.refl s) (.int _)⟩
    · cases e) hf
end
theorem lookup_mem' {β : Type} {x : Str} {y : β} : ∀ {l : List (Str × β)}, l.lookup x = some y → (x, y) ∈ l
  | (k, v) :: r, h => by
    rw [List.lookup_cons] at h
    cases hb : x == k with
    | true => rw [hb] at h; cases h; rw [eq_of_beq hb]; exact List.mem_cons_self
    | false => rw [hb] at h; exact List.mem_cons_of_mem _ (lookup_mem' h)
theorem DefOk.mono {P : Program} {w : World} {K : PySem.W.Frag} {mg : MG} {base : Heap} {x : Str} {j k n : Nat} {den : Den} (D : DefOk P w K mg base x j n den) (h : j ≤ k) : DefOk P w K mg base x k n den :=
  let ⟨f, fd, ps, a, b, c, F⟩ := D.ex
  ⟨f, fd, ps, a, b, c, F.mono h⟩
/-! the errors of the program, as the laws name them -/
def kindNames : List (Str × Str) := [("NotCalendar", "calendar"), ("NotDuties", "duties"), ("NotRule", "rule"), ("NotRoster", "roster"), ("NotDemand", "demand"), ("NotProgram", "program"), ("NotPaper", "paper"), ("BadNumber", "number"), ("NoAnswer", "none"), ("TooLarge", "large")]
def kindGood (x : Str) : Bool := kindNames.any fun q => q.1 == x
def kindSub (x : Str) : Option Bool := if kindGood x = true then some true else none
def kindD (x : Str) : Option D := (kindNames.lookup x).map fun w => .str ("!" ++ w)
end Fn

set_option Elab.async false
set_option linter.all false
set_option autoImplicit false
set_option maxRecDepth 100000
set_option maxHeartbeats 4000000
/-! Layer Fn: stars, longer chains, tables and tuples of the module, tuple(range(..)). -/
namespace Fn
open PySem PySem.Spec PyProof.Rows L2
section
variable {X : Cx} {W : WX} {a b c d e e1 e2 : Expr} {es : List Expr} {fa fb fc fd fe f f1 f2 : EF} {fr : AF} {pos p p2 : Pos} {x : Str}
/-! ### *e in a display -/
def aStar (fa : EF) (fr : AF) : AF := fun ρ st => (fa ρ st).bind fun x s1 => match seqD s1 x with
  | some ds => (fr ρ s1).bind fun xs s2 => .ok (ds ++ xs) s2
  | none => .no
theorem RAs.of_rds {K : PySem.W.Frag} {mg : MG} {μ : Wd} {H : Hp} : ∀ {ds : List D} {vs : List V}, RDs K mg μ H ds vs → RAs K mg μ H ds vs
  | [], vs, h => by simpa only [RDs, RAs] using h
  | d :: ds, vs, h => by
    simp only [RDs] at h
    obtain ⟨v, r, rfl, h2, h3⟩ := h
    exact .cons (.of h2) (RAs.of_rds h3)
theorem RAs.app {K : PySem.W.Frag} {mg : MG} {μ : Wd} {H : Hp} : ∀ {ds es : List D} {vs ws : List V}, RAs K mg μ H ds vs → RAs K mg μ H es ws → RAs K mg μ H (ds ++ es) (vs ++ ws)
  | [], es, vs, ws, h, h' => by simp only [RAs] at h; subst h; simpa using h'
  | d :: ds, es, vs, ws, h, h' => by
    simp only [RAs] at h
    obtain ⟨v, r, rfl, h2, h3⟩ := h
    exact .cons h2 (RAs.app h3 h')
theorem ax_star (ha : EX X W e fa) (hr : AX X W es fr) (hs : starEach (.Starred e p :: es) X.env = (true, eval e X.env) :: starEach es X.env := by rfl) : AX X W (.Starred e p :: es) (aStar fa fr) :=
  (StX.pa_star ha hr hs).imp fun σ H Q ⟨μ, ρ, st, r, q⟩ => ⟨μ, ρ, st, r, q.bind fun x s1 v H1 μ1 _ a1 rx p1 => by
    split at p1
    · next ds hd =>
      obtain ⟨q, vs, rfl, h2, h3, h4⟩ := seq_of a1.sto rx hd
      exact ⟨q, vs, rfl, h2.symm, μ1, ρ, s1, r.aft a1, p1.bind fun xs s2 ws H2 μ2 _ a2 rxs p2 => p2 (vs ++ ws) H2 μ2 (.refl a2.sto) (RAs.app (RAs.of_rds (h4.aft a2)) rxs)⟩
    · exact p1.elim⟩
end

/-! ### a table of the module: text keys, whole numbers -/
def kvOf (e : DictEntry) : Option (Str × Int) := match e.key, e.val with
  | .str x _, .int v _ => some (x, v)
  | _, _ => none
structure DTab (K : PySem.W.Frag) (mg : MG) (w : World) (x : Str) (tbl : List (Str × Int)) : Prop where
  ex : ∃ d es n, mg x = some (.ref d) ∧ KDict K w d es n ∧ es.toList.map kvOf = tbl.map some
theorem kv_ref {e : DictEntry} {q : Str × Int} (h : kvOf e = some q) : ∃ t u, e.key = .str q.1 t ∧ e.val = .int q.2 u := by
  unfold kvOf at h
  split at h
  · next x t v u h1 h2 => cases h; exact ⟨t, u, h1, h2⟩
  · cases h
theorem kv_find : ∀ {es : List DictEntry} {tbl : List (Str × Int)} (z : Str), es.map kvOf = tbl.map some →
    (match tbl.lookup z with
      | some v => ∃ e t, es.find? (·.key.isStr z) = some e ∧ e.val = .int v t
      | none => es.find? (·.key.isStr z) = none) ∧ es.any (·.refKey) = false
  | [], [], z, _ => ⟨rfl, rfl⟩
  | [], _ :: _, z, h => by cases h
  | _ :: _, [], z, h => by cases h
  | e :: es, q :: tbl, z, h => by
    simp only [List.map_cons, List.cons.injEq] at h
    obtain ⟨t, u, h1, h2⟩ := kv_ref h.1
    obtain ⟨r1, r2⟩ := kv_find z h.2
    have hk : e.key.isStr z = (z == q.1) := by
      rw [h1]
      show (q.1 == z) = (z == q.1)
      by_cases hz : q.1 = z
      · subst hz; simp
      · rw [beq_eq_false_iff_ne.mpr hz, beq_eq_false_iff_ne.mpr (Ne.symm hz)]
    have hr : e.refKey = false := by
      unfold DictEntry.refKey
      rw [h1]
    refine ⟨?_, by rw [List.any_cons, hr, r2]; rfl⟩
    obtain ⟨qk, qv⟩ := q
    rw [List.lookup_cons]
    simp only at hk h2
    cases hz : z == qk with
    | true => exact ⟨e, u, by rw [List.find?_cons, hk, hz], h2⟩
    | false =>
      have : (e :: es).find? (·.key.isStr z) = es.find? (·.key.isStr z) := by rw [List.find?_cons, hk, hz]
      rw [this]; exact r1
theorem DTab.at_ {K : PySem.W.Frag} {mg : MG} {w : World} {x : Str} {tbl : List (Str × Int)} (T : DTab K mg w x tbl) : ∃ d es n, mg x = some (.ref d) ∧ KDict K w d es n ∧ ∀ z, match tbl.lookup z with
    | some v => ∃ t, PySem.W.nsIn K d z = some (some (.int v t))
    | none => PySem.W.nsIn K d z = some none := by
  obtain ⟨d, es, n, h1, h2, h3⟩ := T.ex
  refine ⟨d, es, n, h1, h2, fun z => ?_⟩
  obtain ⟨r1, r2⟩ := kv_find z h3
  unfold PySem.W.nsIn
  rw [h2.at_]
  simp only
  cases q : tbl.lookup z with
  | some v =>
    rw [q] at r1
    obtain ⟨e, t, h4, h5⟩ := r1
    exact ⟨t, by rw [h4]; show some (some e.val) = _; rw [h5]⟩
  | none =>
    rw [q] at r1
    simp only [r1, r2]
    rfl
def gKdIn (neg : Bool) (nm : Str) (tbl : List (Str × Int)) : G2b := fun _ x y => match x, y with
  | .str z, .gl m => if m = nm then some (if neg then !(tbl.lookup z).isSome else (tbl.lookup z).isSome) else none
  | _, _ => none
def gKdIx (nm : Str) (tbl : List (Str × Int)) : G2 := fun _ x y => match x, y with
  | .gl m, .str z => if m = nm then (tbl.lookup z).map .int else none
  | _, _ => none
section
variable {X : Cx} {W : WX} {a b e : Expr} {fa fb : EF} {pos p p2 p3 : Pos} {x : Str} {tbl : List (Str × Int)}
theorem cm_kdN {K : PySem.W.Frag} {mg : MG} {d : Addr} (hm : mg x = some (.ref d)) (hn : ∀ z, match tbl.lookup z with
    | some v => ∃ t, PySem.W.nsIn K d z = some (some (.int v t))
    | none => PySem.W.nsIn K d z = some none) : Cm2 K mg (fun x y H Q => ∃ (z : Str) (r : Option Value), x = .str z ∧ y = .ref d ∧ PySem.W.nsIn K d z = some r ∧ Q (.bl (!r.isSome)) H) (gKdIn true x tbl) := fun μ H st x' y v u z Q s rx ry e q => by
  unfold gKdIn at e
  split at e
  · next k m =>
    split at e
    · next hmm =>
      subst hmm
      cases e
      have ry : RD K mg μ H (.gl m) u := ry
      simp only [RD] at ry
      obtain ⟨a, rfl, h1⟩ := ry
      rw [hm] at h1; cases h1
      have hk := hn k
      refine ⟨k, (tbl.lookup k).elim none (fun i => (PySem.W.nsIn K d k).getD none), rx.str.1, rfl, ?_, ?_⟩
      · cases ql : tbl.lookup k with
        | none => rw [ql] at hk; simpa using hk
        | some v => rw [ql] at hk; obtain ⟨t, h⟩ := hk; simp [h]
      · cases ql : tbl.lookup k with
        | none => rw [ql] at q; simpa using q
        | some v => rw [ql] at hk q; obtain ⟨t, h⟩ := hk; simpa [h] using q
    · cases e
  · cases e
theorem cm_kd {K : PySem.W.Frag} {mg : MG} {d : Addr} (hm : mg x = some (.ref d)) (hn : ∀ z, match tbl.lookup z with
    | some v => ∃ t, PySem.W.nsIn K d z = some (some (.int v t))
    | none => PySem.W.nsIn K d z = some none) : Cm2 K mg (fun x y H Q => ∃ (z : Str) (r : Option Value), x = .str z ∧ y = .ref d ∧ PySem.W.nsIn K d z = some r ∧ Q (.bl r.isSome) H) (gKdIn false x tbl) := fun μ H st x' y v u z Q s rx ry e q => by
  unfold gKdIn at e
  split at e
  · next k m =>
    split at e
    · next hmm =>
      subst hmm
      cases e
      have ry : RD K mg μ H (.gl m) u := ry
      simp only [RD] at ry
      obtain ⟨a, rfl, h1⟩ := ry
      rw [hm] at h1; cases h1
      have hk := hn k
      refine ⟨k, (tbl.lookup k).elim none (fun i => (PySem.W.nsIn K d k).getD none), rx.str.1, rfl, ?_, ?_⟩
      · cases ql : tbl.lookup k with
        | none => rw [ql] at hk; simpa using hk
        | some v => rw [ql] at hk; obtain ⟨t, h⟩ := hk; simp [h]
      · cases ql : tbl.lookup k with
        | none => rw [ql] at q; simpa using q
        | some v => rw [ql] at hk q; obtain ⟨t, h⟩ := hk; simpa [h] using q
    · cases e
  · cases e
theorem op2_kd {K : PySem.W.Frag} {mg : MG} {w : World} {d : Addr} {es : Array DictEntry} {n : Nat} (hm : mg x = some (.ref d)) (D : KDict K w d es n) (hn : ∀ z, match tbl.lookup z with
    | some v => ∃ t, PySem.W.nsIn K d z = some (some (.int v t))
    | none => PySem.W.nsIn K d z = some none) : Op2 K mg (rIxD K w) (gKdIx x tbl) := fun μ H st x' y v u z Q s rx ry e q => by
  unfold gKdIx at e
  split at e
  · next m k =>
    split at e
    · next hmm =>
      subst hmm
      obtain ⟨i, e1, rfl⟩ := Option.map_eq_some_iff.mp e
      have rx : RD K mg μ H (.gl m) v := rx
      simp only [RD] at rx
      obtain ⟨a, rfl, h1⟩ := rx
      rw [hm] at h1; cases h1
      have hk := hn k
      rw [e1] at hk
      obtain ⟨t, h⟩ := hk
      exact ⟨d, k, .int i, rfl, ry.str.1, ⟨es, n, .int i t, D.at_, D.lit, h, ⟨t, rfl⟩⟩, q _ H μ (.refl s) (by simp only [RD])⟩
    · cases e
  · cases e
theorem x_kdNotIn (T : DTab X.K X.mg X.w x tbl) (ha : EX X W a fa) (hg : Gl X x := by rfl) (hd : (x == ("__debug__" : Str)) = false := by decide) (hm : behindInMarks .NotIn (.Name x p) = false := by rfl) :
    EX X W (.Compare a [.NotIn] [.Name x p] pos) (eCmp (gKdIn true x tbl) fa (eC (.gl x))) := by
  obtain ⟨d, es, n, h1, h2, h3⟩ := T.at_
  exact ex_cmp (op_notIn_kd h2) (cm_kdN h1 h3) ha (x_gr ⟨d, h1⟩ hg hd) hm
theorem t_kdNotIn (T : DTab X.K X.mg X.w x tbl) (ha : EX X W a fa) (hg : Gl X x := by rfl) (hd : (x == ("__debug__" : Str)) = false := by decide) (hm : behindInMarks .NotIn (.Name x p) = false := by rfl) :
    TX X W (.Compare a [.NotIn] [.Name x p] pos) (tCm (gKdIn true x tbl) fa (eC (.gl x))) := by
  obtain ⟨d, es, n, h1, h2, h3⟩ := T.at_
  exact tx_cmp (op_notIn_kd h2) (cm_kdN h1 h3) ha (x_gr ⟨d, h1⟩ hg hd) hm
theorem x_kdIn (T : DTab X.K X.mg X.w x tbl) (ha : EX X W a fa) (hg : Gl X x := by rfl) (hd : (x == ("__debug__" : Str)) = false := by decide) (hm : behindInMarks .In (.Name x p) = false := by rfl) :
    EX X W (.Compare a [.In] [.Name x p] pos) (eCmp (gKdIn false x tbl) fa (eC (.gl x))) := by
  obtain ⟨d, es, n, h1, h2, h3⟩ := T.at_
  exact ex_cmp (op_in_kd h2) (cm_kd h1 h3) ha (x_gr ⟨d, h1⟩ hg hd) hm
theorem x_kdIx (T : DTab X.K X.mg X.w x tbl) (hb : EX X W b fb) (hg : Gl X x := by rfl) (hd : (x == ("__debug__" : Str)) = false := by decide) (hs : PlainIx b := by intro _ _; rfl) :
    EX X W (.Subscript (.Name x p) b pos) (eOp2 (gKdIx x tbl) (eC (.gl x)) fb) := by
  obtain ⟨d, es, n, h1, h2, h3⟩ := T.at_
  exact op2_of (ta := tOf X.K X.mg W (eC (.gl x))) (tb := tOf X.K X.mg W fb) (op2_kd h1 h2 h3) (x_gr (pos := p) ⟨d, h1⟩ hg hd) hb (pe_ix ix_kdict (x_gr (pos := p) ⟨d, h1⟩ hg hd) hb hs)
/-! ### a tuple of the module -/
structure GTup (K : PySem.W.Frag) (mg : MG) (x : Str) (d : D) : Prop where
  ex : ∃ a, mg x = some (.ref a) ∧ ∀ μ H, RD K mg μ H d (.ref a)
theorem x_gd {d : D} (T : GTup X.K X.mg x d) (hg : Gl X x := by rfl) (hd : (x == ("__debug__" : Str)) = false := by decide) : EX X W (.Name x pos) (eC d) := by
  obtain ⟨a, h1, h2⟩ := T.ex
  exact ex_glob (v := .ref a) h1 rfl h2 hg hd
/-! ### tuple(range(..)), list(range(..)) -/
def eTupRg1 (fa : EF) : EF := fun ρ st => (fa ρ st).bind fun x s1 => match x with
  | .int j => if 0 ≤ j ∧ j.toNat ≤ sizeLine then .ok (.tup (rngD 0 j.toNat)) s1 else .no
  | _ => .no
def eTupRg2 (fa fb : EF) : EF := fun ρ st => (fa ρ st).bind fun x s1 => (fb ρ s1).bind fun y s2 => match x, y with
  | .int i, .int j => if 0 ≤ i ∧ 0 ≤ j ∧ i.toNat ≤ sizeLine ∧ j.toNat ≤ sizeLine then .ok (.tup (rngD i (j - i).toNat)) s2 else .no
  | _, _ => .no
def eLstRg1 (fa : EF) : EF := fun ρ st => (fa ρ st).bind fun x s1 => match x with
  | .int j => if 0 ≤ j ∧ j.toNat ≤ sizeLine then .ok (.lst (rngD 0 j.toNat)) s1 else .no
  | _ => .no
def eLstRg2 (fa fb : EF) : EF := fun ρ st => (fa ρ st).bind fun x s1 => (fb ρ s1).bind fun y s2 => match x, y with
  | .int i, .int j => if 0 ≤ i ∧ 0 ≤ j ∧ i.toNat ≤ sizeLine ∧ j.toNat ≤ sizeLine then .ok (.lst (rngD i (j - i).toNat)) s2 else .no
  | _, _ => .no
theorem rds_rg {K : PySem.W.Frag} {mg : MG} {μ : Wd} {H : Hp} (i : Int) : ∀ l : List Nat, RDs K mg μ H (l.map fun n => D.int (i + (n : Nat))) (l.map fun n => V.int (i + (n : Nat)))
  | [] => RDs.nil
  | _ :: l => RDs.cons (by simp only [RD]) (rds_rg i l)
theorem rds_rgV {K : PySem.W.Frag} {mg : MG} {μ : Wd} {H : Hp} (i j : Int) : RDs K mg μ H (rngD i (j - i).toNat) (rgV i j) := rds_rg i _
theorem x_tupRg1 (hc : X.calm = true) (hmt : X.mg "tuple" = none) (hm : X.mg "range" = none) (ha : EX X W a fa) (hgt : Gl X "tuple" := by rfl) (hg : Gl X "range" := by rfl) (na : starEach [a] X.env = (false, eval a X.env) :: starEach [] X.env := by rfl)
    (nr : starEach [.Call (.Name "range" p2) [a] [] p] X.env = (false, eval (.Call (.Name "range" p2) [a] [] p) X.env) :: starEach [] X.env := by rfl) : EX X W (.Call (.Name "tuple" p3) [.Call (.Name "range" p2) [a] [] p] [] pos) (eTupRg1 fa) :=
  (pe_tupRg hc hgt hmt (prg_1 hg hm ha na) nr).imp fun σ H Q ⟨μ, ρ, st, r, q⟩ => ⟨μ, ρ, st, r, q.bind fun x s1 v H1 μ1 _ a1 rx q1 => by
    split at q1
    · next j eq =>
      split at q1
      · next h =>
        rw [sizeLine_eq] at h
        refine ⟨j, rx.int, ⟨by omega, by omega, by omega, by omega, by omega⟩, fun q hq => ?_⟩
        have := Aft.tup a1.sto hq (by simp only [rngD, List.length_map, List.length_range, sizeLine_eq]; omega) (rds_rgV (K := X.K) (mg := X.mg) (μ := μ1) (H := H1) 0 j)
        rw [show (j - 0) = j by omega] at this
        exact q1 _ _ _ this.1 (.of this.2)
      · exact q1.elim
    · exact q1.elim⟩
theorem x_tupRg2 (hc : X.calm = true) (hmt : X.mg "tuple" = none) (hm : X.mg "range" = none) (ha : EX X W a fa) (hb : EX X W b fb) (hgt : Gl X "tuple" := by rfl) (hg : Gl X "range" := by rfl) (na : starEach [a, b] X.env = (false, eval a X.env) :: starEach [b] X.env := by rfl)
    (nb : starEach [b] X.env = (false, eval b X.env) :: starEach [] X.env := by rfl) (hp : (backTo p (starEach [b] X.env)).any (·.1) = false := by rfl)
    (nr : starEach [.Call (.Name "range" p2) [a, b] [] p] X.env = (false, eval (.Call (.Name "range" p2) [a, b] [] p) X.env) :: starEach [] X.env := by rfl) : EX X W (.Call (.Name "tuple" p3) [.Call (.Name "range" p2) [a, b] [] p] [] pos) (eTupRg2 fa fb) :=
  (pe_tupRg hc hgt hmt (prg_2 hg hm ha hb na nb hp) nr).imp fun σ H Q ⟨μ, ρ, st, r, q⟩ => ⟨μ, ρ, st, r, q.bind fun x s1 v H1 μ1 _ a1 rx q1 => ⟨μ1, ρ, s1, r.aft a1, q1.bind fun y s2 u H2 μ2 _ a2 ry q2 => by
    split at q2
    · next i j eq1 eq2 =>
      split at q2
      · next h =>
        rw [sizeLine_eq] at h
        refine ⟨i, j, (rx.aft a2).int, ry.int, ⟨by omega, by omega, by omega, by omega, by omega⟩, fun q hq => ?_⟩
        have := Aft.tup a2.sto hq (by simp only [rngD, List.length_map, List.length_range, sizeLine_eq]; omega) (rds_rgV (K := X.K) (mg := X.mg) (μ := μ2) (H := H2) i j)
        exact q2 _ _ _ this.1 (.of this.2)
      · exact q2.elim
    · exact q2.elim⟩⟩
theorem x_lstRg1 (hc : X.calm = true) (hmt : X.mg "list" = none) (hm : X.mg "range" = none) (ha : EX X W a fa) (hgt : Gl X "list" := by rfl) (hg : Gl X "range" := by rfl) (na : starEach [a] X.env = (false, eval a X.env) :: starEach [] X.env := by rfl)
    (nr : starEach [.Call (.Name "range" p2) [a] [] p] X.env = (false, eval (.Call (.Name "range" p2) [a] [] p) X.env) :: starEach [] X.env := by rfl) : EX X W (.Call (.Name "list" p3) [.Call (.Name "range" p2) [a] [] p] [] pos) (eLstRg1 fa) :=
  (pe_listRg hc hgt hmt (prg_1 hg hm ha na) nr).imp fun σ H Q ⟨μ, ρ, st, r, q⟩ => ⟨μ, ρ, st, r, q.bind fun x s1 v H1 μ1 _ a1 rx q1 => by
    split at q1
    · next j eq =>
      split at q1
      · next h =>
        rw [sizeLine_eq] at h
        refine ⟨j, rx.int, ⟨by omega, by omega, by omega, by omega, by omega⟩, fun q hq => ?_⟩
        have := Aft.lst a1.sto hq (by simp only [rngD, List.length_map, List.length_range, sizeLine_eq]; omega) (rds_rgV (K := X.K) (mg := X.mg) (μ := μ1) (H := H1) 0 j)
        rw [show (j - 0) = j by omega] at this
        exact q1 _ _ _ this.1 (.of this.2)
      · exact q1.elim
    · exact q1.elim⟩
end

/-! ### longer chains: a op b op .. -/
/-- the rest of a chain behind the value y -/
def chnR : List (G2b × EF) → D → Rho → Sto → R Bool
  | [], _, _, st => .ok true st
  | (g, f) :: l, y, ρ, st => (f ρ st).bind fun z s1 => match g s1 y z with
    | some true => chnR l z ρ s1
    | some false => .ok false s1
    | none => .no
def tChnN (fa : EF) (l : List (G2b × EF)) : TF := fun ρ st => (fa ρ st).bind fun x s1 => chnR l x ρ s1
def eChnN (fa : EF) (l : List (G2b × EF)) : EF := fun ρ st => (fa ρ st).bind fun x s1 => (chnR l x ρ s1).bind fun b s2 => .ok (.bl b) s2
section
variable {X : Cx} {W : WX} {a : Expr} {fa : EF} {pos : Pos}
/-- one link: the operator, what serves it, the expression behind -/
structure Lk (X : Cx) (W : WX) (op : CmpOp) (e : Expr) (g : G2b) (f : EF) : Prop where
  ex : ∃ r : R2, OpR X (compareOp op) r ∧ Cm2 X.K X.mg r g
  he : EX X W e f
inductive Lks (X : Cx) (W : WX) : List CmpOp → List Expr → List (G2b × EF) → Prop
  | nil : Lks X W [] [] []
  | cons {op : CmpOp} {e : Expr} {g : G2b} {f : EF} {ops es l} (h : Lk X W op e g f) (t : Lks X W ops es l) : Lks X W (op :: ops) (e :: es) ((g, f) :: l)
theorem chain_run {pins : List (Addr × Obj)} {σ : L2.St} : ∀ {ops : List CmpOp} {es : List Expr} {l : List (G2b × EF)} {op : CmpOp} {e : Expr} {g : G2b} {f : EF}, Lk X W op e g f → Lks X W ops es l → ∀ {v : Value} {x : V} {d : D} {s : Shared} {H : Hp} {μ : Wd} {ρ : Rho} {st : Sto} {Q : Bool → Hp → Prop},
    Inv X pins σ H s → RelV x v → RA X.K X.mg μ H d x → Rel X.K X.mg μ H ρ σ st → PostE X.K X.mg (fun _ _ (b c : Bool) => b = c) W μ H σ Q (chnR ((g, f) :: l) d ρ st) →
    wpAny (model X.prog X.w) X.A (testChain pos v (op :: ops) (eval e X.env :: evalEach es X.env)) (fun b s' => ∃ H', Inv X pins σ H' s' ∧ Q b H') X.xe s
  | _, _, _, op, e, g, f, hk, .nil, v, x, d, s, H, μ, ρ, st, Q, I, rx, ra, rel, p => by
    obtain ⟨⟨r, ho, hg⟩, he⟩ := hk
    refine test_last (thn (he.run pins s σ H _ I ⟨μ, ρ, st, rel, p.bind fun z s1 u H1 μ1 _ a1 rz p1 => ?_⟩) fun w s1 ⟨y, H1, I1, ry, q1⟩ => thn (ho pins s1 σ H1 x y v w (fun c H2 => ∃ k, c = .bl k ∧ Q k H2) I1 rx ry q1) fun c s2 ⟨z2, H2, I2, r2, k, e2, q2⟩ => ?_)
    · split at p1
      · next hz => exact hg μ1 H1 s1 d z x u true _ a1.sto (ra.aft a1) rz hz ⟨true, rfl, p1 true H1 μ1 (.refl a1.sto) rfl⟩
      · next hz => exact hg μ1 H1 s1 d z x u false _ a1.sto (ra.aft a1) rz hz ⟨false, rfl, p1 false H1 μ1 (.refl a1.sto) rfl⟩
      · exact p1.elim
    · subst e2
      cases r2
      exact wpAny_truthy_bool ⟨H2, I2, q2⟩
  | _, _, _, op, e, g, f, hk, .cons (op := op') (e := e') (g := g') (f := f') (ops := ops') (es := es') (l := l') hk' t, v, x, d, s, H, μ, ρ, st, Q, I, rx, ra, rel, p => by
    obtain ⟨⟨r, ho, hg⟩, he⟩ := hk
    refine test_link (thn (he.run pins s σ H _ I ⟨μ, ρ, st, rel, p.bind fun z s1 u H1 μ1 _ a1 rz p1 => ?_⟩) fun w s1 ⟨y, H1, I1, ry, q1⟩ => thn (ho pins s1 σ H1 x y v w (fun c H2 => ∃ k, c = .bl k ∧ (if k = true then ∃ (z : D) (μ2 : Wd) (st2 : Sto), RA X.K X.mg μ2 H2 z y ∧ Rel X.K X.mg μ2 H2 ρ σ st2 ∧ PostE X.K X.mg (fun _ _ (b c : Bool) => b = c) W μ2 H2 σ Q (chnR ((g', f') :: l') z ρ st2) else Q false H2)) I1 rx ry q1) fun c s2 ⟨z2, H2, I2, r2, k, e2, q2⟩ => ?_)
    · split at p1
      · next hz => exact hg μ1 H1 s1 d z x u true _ a1.sto (ra.aft a1) rz hz ⟨true, rfl, by rw [if_pos rfl]; exact ⟨z, μ1, s1, rz, rel.aft a1, p1⟩⟩
      · next hz => exact hg μ1 H1 s1 d z x u false _ a1.sto (ra.aft a1) rz hz ⟨false, rfl, by rw [if_neg Bool.false_ne_true]; exact p1 false H1 μ1 (.refl a1.sto) rfl⟩
      · exact p1.elim
    · subst e2
      cases r2
      refine wpAny_truthy_bool ?_
      cases k with
      | false =>
        rw [if_neg Bool.false_ne_true] at q2
        exact ite_ff ⟨H2, I2, q2⟩
      | true =>
        rw [if_pos rfl] at q2
        obtain ⟨z, μ2, st2, h1, h2, h3⟩ := q2
        exact ite_tt (chain_run hk' t I2 ry h1 h2 h3)
theorem chain_runE {pins : List (Addr × Obj)} {σ : L2.St} : ∀ {ops : List CmpOp} {es : List Expr} {l : List (G2b × EF)} {op : CmpOp} {e : Expr} {g : G2b} {f : EF}, Lk X W op e g f → Lks X W ops es l → ∀ {v : Value} {x : V} {d : D} {s : Shared} {H : Hp} {μ : Wd} {ρ : Rho} {st : Sto} {Q : VK},
    Inv X pins σ H s → RelV x v → RA X.K X.mg μ H d x → Rel X.K X.mg μ H ρ σ st → PostE X.K X.mg (fun _ _ (b : Bool) (c : V) => c = .bl b) W μ H σ Q (chnR ((g, f) :: l) d ρ st) →
    wpAny (model X.prog X.w) X.A (compareChain pos v (op :: ops) (eval e X.env :: evalEach es X.env)) (EP X pins σ Q) X.xe s
  | _, _, _, op, e, g, f, hk, .nil, v, x, d, s, H, μ, ρ, st, Q, I, rx, ra, rel, p => by
    obtain ⟨⟨r, ho, hg⟩, he⟩ := hk
    refine chain_last (thn (he.run pins s σ H _ I ⟨μ, ρ, st, rel, p.bind fun z s1 u H1 μ1 _ a1 rz p1 => ?_⟩) fun w s1 ⟨y, H1, I1, ry, q1⟩ => ho pins s1 σ H1 x y v w Q I1 rx ry q1)
    split at p1
    · next hz => exact hg μ1 H1 s1 d z x u true _ a1.sto (ra.aft a1) rz hz (p1 (.bl true) H1 μ1 (.refl a1.sto) rfl)
    · next hz => exact hg μ1 H1 s1 d z x u false _ a1.sto (ra.aft a1) rz hz (p1 (.bl false) H1 μ1 (.refl a1.sto) rfl)
    · exact p1.elim
  | _, _, _, op, e, g, f, hk, .cons (op := op') (e := e') (g := g') (f := f') (ops := ops') (es := es') (l := l') hk' t, v, x, d, s, H, μ, ρ, st, Q, I, rx, ra, rel, p => by
    obtain ⟨⟨r, ho, hg⟩, he⟩ := hk
    refine chain_link (thn (he.run pins s σ H _ I ⟨μ, ρ, st, rel, p.bind fun z s1 u H1 μ1 _ a1 rz p1 => ?_⟩) fun w s1 ⟨y, H1, I1, ry, q1⟩ => thn (ho pins s1 σ H1 x y v w (fun c H2 => ∃ k, c = .bl k ∧ (if k = true then ∃ (z : D) (μ2 : Wd) (st2 : Sto), RA X.K X.mg μ2 H2 z y ∧ Rel X.K X.mg μ2 H2 ρ σ st2 ∧ PostE X.K X.mg (fun _ _ (b : Bool) (c : V) => c = .bl b) W μ2 H2 σ Q (chnR ((g', f') :: l') z ρ st2) else Q (.bl false) H2)) I1 rx ry q1) fun c s2 ⟨z2, H2, I2, r2, k, e2, q2⟩ => ?_)
    · split at p1
      · next hz => exact hg μ1 H1 s1 d z x u true _ a1.sto (ra.aft a1) rz hz ⟨true, rfl, by rw [if_pos rfl]; exact ⟨z, μ1, s1, rz, rel.aft a1, p1⟩⟩
      · next hz => exact hg μ1 H1 s1 d z x u false _ a1.sto (ra.aft a1) rz hz ⟨false, rfl, by rw [if_neg Bool.false_ne_true]; exact p1 (.bl false) H1 μ1 (.refl a1.sto) rfl⟩
      · exact p1.elim
    · subst e2
      cases r2
      refine wpAny_truthy_bool ?_
      cases k with
      | false =>
        rw [if_neg Bool.false_ne_true] at q2
        exact ite_ff ⟨.bl false, H2, I2, rfl, q2⟩
      | true =>
        rw [if_pos rfl] at q2
        obtain ⟨z, μ2, st2, h1, h2, h3⟩ := q2
        exact ite_tt (chain_runE hk' t I2 ry h1 h2 h3)
theorem tx_chainN {op op' : CmpOp} {b b' : Expr} {g g' : G2b} {f f' : EF} {ops : List CmpOp} {es : List Expr} {l : List (G2b × EF)} (ha : EX X W a fa) (h1 : Lk X W op b g f) (h2 : Lk X W op' b' g' f') (t : Lks X W ops es l)
    (hm : lastMarks (op :: op' :: ops) (b :: b' :: es) = false := by with_unfolding_all rfl) : TX X W (.Compare a (op :: op' :: ops) (b :: b' :: es) pos) (tChnN fa ((g, f) :: (g', f') :: l)) :=
  ⟨fun pins s σ H Q I ⟨μ, ρ, st, rel, p⟩ => isTrue_chain (thn (ha.run pins s σ H _ I ⟨μ, ρ, st, rel, p.bind fun d s1 x H1 μ1 _ a1 rx p1 => (⟨d, μ1, s1, rx, rel.aft a1, p1⟩ : ∃ (d : D) (μ1 : Wd) (s1 : Sto), RA X.K X.mg μ1 H1 d x ∧ Rel X.K X.mg μ1 H1 ρ σ s1 ∧ PostE X.K X.mg (fun _ _ (b c : Bool) => b = c) W μ1 H1 σ Q (chnR ((g, f) :: (g', f') :: l) d ρ s1))⟩)
    fun v s1 ⟨x, H1, I1, rx, d, μ1, st1, h3, h4, h5⟩ => chain_run h1 (.cons h2 t) I1 rx h3 h4 h5) hm⟩
theorem ex_chainN {op op' : CmpOp} {b b' : Expr} {g g' : G2b} {f f' : EF} {ops : List CmpOp} {es : List Expr} {l : List (G2b × EF)} (ha : EX X W a fa) (h1 : Lk X W op b g f) (h2 : Lk X W op' b' g' f') (t : Lks X W ops es l)
    (hm : lastMarks (op :: op' :: ops) (b :: b' :: es) = false := by with_unfolding_all rfl) : EX X W (.Compare a (op :: op' :: ops) (b :: b' :: es) pos) (eChnN fa ((g, f) :: (g', f') :: l)) :=
  ⟨fun pins s σ H Q I ⟨μ, ρ, st, rel, p⟩ => Compare_chain (thn (ha.run pins s σ H _ I ⟨μ, ρ, st, rel, p.bind fun d s1 x H1 μ1 _ a1 rx p1 =>
      (⟨d, μ1, s1, rx, rel.aft a1, p1.bind fun b s2 c H2 μ2 _ a2 (rc : c = V.bl b) p2 => by subst rc; exact p2 _ H2 μ2 (.refl a2.sto) (by simp only [RA, RD])⟩ : ∃ (d : D) (μ1 : Wd) (s1 : Sto), RA X.K X.mg μ1 H1 d x ∧ Rel X.K X.mg μ1 H1 ρ σ s1 ∧ PostE X.K X.mg (fun _ _ (b : Bool) (c : V) => c = .bl b) W μ1 H1 σ Q (chnR ((g, f) :: (g', f') :: l) d ρ s1))⟩)
    fun v s1 ⟨x, H1, I1, rx, d, μ1, st1, h3, h4, h5⟩ => chain_runE h1 (.cons h2 t) I1 rx h3 h4 h5) hm⟩
end
/-! links by operator -/
section
variable {X : Cx} {W : WX} {e : Expr} {f : EF}
theorem lk_le (h : EX X W e f) : Lk X W .LtE e gLe f := ⟨⟨_, op_le, cm_ci⟩, h⟩
theorem lk_ge (h : EX X W e f) : Lk X W .GtE e gGe f := ⟨⟨_, op_ge, cm_ci⟩, h⟩
theorem lk_lt {k : Nat} (hr : Room k X.A) (h : EX X W e f) : Lk X W .Lt e gLt f := ⟨⟨_, opR_lt hr.units0, cm_lt⟩, h⟩
theorem lk_gt (h : EX X W e f) : Lk X W .Gt e gGt f := ⟨⟨_, op_gt, cm_ci⟩, h⟩
end

/-! ### data that stands in the module -/
mutual
def dB (K : PySem.W.Frag) : D → Value → Bool
  | .non, v => decide (v = .none)
  | .bl b, v => decide (v = .bool b)
  | .int i, v => match v with
    | .int j _ => decide (j = i)
    | _ => false
  | .str x, v => match v with
    | .str y _ => decide (y = x) && decide (x.length ≤ sizeLine)
    | _ => false
  | .tup ds, v => match v with
    | .ref a => match K.lookup a with
      | some o => decide (o.cls = .type "tuple") && (decide (ds.length ≤ sizeLine) && match o.data with
        | .seq its _ => dBs K ds its.toList
        | _ => false)
      | none => false
    | _ => false
  | _, _ => false
def dBs (K : PySem.W.Frag) : List D → List Value → Bool
  | [], vs => vs.isEmpty
  | d :: ds, vs => match vs with
    | v :: r => dB K d v && dBs K ds r
    | [] => false
end
mutual
theorem dB_ok {K : PySem.W.Frag} {mg : MG} : ∀ {d : D} {v : Value}, dB K d v = true → ∃ x, RelV x v ∧ ∀ μ H, RD K mg μ H d x
  | .non, v, h => by
    simp only [dB, decide_eq_true_eq] at h
    subst h
    exact ⟨.non, rfl, fun _ _ => by simp only [RD]⟩
  | .bl b, v, h => by
    simp only [dB, decide_eq_true_eq] at h
    subst h
    exact ⟨.bl b, rfl, fun _ _ => by simp only [RD]⟩
  | .int i, v, h => by
    unfold dB at h
    split at h
    · next j t =>
      simp only [decide_eq_true_eq] at h
      subst h
      exact ⟨.int j, ⟨t, rfl⟩, fun _ _ => by simp only [RD]⟩
    · cases h
  | .str x, v, h => by
    unfold dB at h
    split at h
    · next y t =>
      simp only [Bool.and_eq_true, decide_eq_true_eq] at h
      obtain ⟨rfl, hl⟩ := h
      exact ⟨.str y, ⟨t, rfl⟩, fun _ _ => by simp only [RD]; exact ⟨trivial, hl⟩⟩
    · cases h
  | .tup ds, v, h => by
    unfold dB at h
    split at h
    · next a =>
      split at h
      · next o ho =>
        simp only [Bool.and_eq_true, decide_eq_true_eq] at h
        obtain ⟨h1, h2, h3⟩ := h
        split at h3
        · next its n hd =>
          obtain ⟨vs, r, q⟩ := dBs_ok (mg := mg) h3
          refine ⟨.ref a, rfl, fun μ H => ?_⟩
          simp only [RD]
          refine ⟨a, vs, rfl, .inr ⟨o, its, n, ho, h1, hd, ?_, r⟩, h2, q μ H⟩
          have e1 := (q μ H).length
          have e2 := r.length
          have e3 : its.toList.length = its.size := Array.length_toList
          omega
        · cases h3
      · cases h
    · cases h
  | .lst _, v, h => by simp only [dB] at h; cases h
  | .mu _, v, h => by simp only [dB] at h; cases h
  | .gl _, v, h => by simp only [dB] at h; cases h
  | .ty _, v, h => by simp only [dB] at h; cases h
  | .ptr _, v, h => by simp only [dB] at h; cases h
  | .scr _, v, h => by simp only [dB] at h; cases h
theorem dBs_ok {K : PySem.W.Frag} {mg : MG} : ∀ {ds : List D} {vs : List Value}, dBs K ds vs = true → ∃ xs, Vals xs vs ∧ ∀ μ H, RDs K mg μ H ds xs
  | [], vs, h => by
    simp only [dBs, List.isEmpty_iff] at h
    subst h
    exact ⟨[], .nil, fun _ _ => RDs.nil⟩
  | d :: ds, vs, h => by
    unfold dBs at h
    split at h
    · next v r =>
      simp only [Bool.and_eq_true] at h
      obtain ⟨x, h1, h2⟩ := dB_ok (mg := mg) h.1
      obtain ⟨xs, h3, h4⟩ := dBs_ok (mg := mg) h.2
      exact ⟨x :: xs, .cons h1 h3, fun μ H => RDs.cons (h2 μ H) (h4 μ H)⟩
    · cases h
end
theorem gtup_of {K : PySem.W.Frag} {mg : MG} {x : Str} {a : Addr} {d : D} (h1 : mg x = some (.ref a)) (h2 : dB K d (.ref a) = true) : GTup K mg x d := by
  obtain ⟨v, r, q⟩ := dB_ok (mg := mg) h2
  cases v with
  | ref b => cases r; exact ⟨_, h1, q⟩
  | _ => first | (cases r; done) | (obtain ⟨_, r⟩ := r; cases r)
/-- the table at a has these keys and numbers -/
def kvB (K : PySem.W.Frag) (a : Addr) (tbl : List (Str × Int)) : Bool := match K.lookup a with
  | some o => match o.data with
    | .dict es _ => decide (es.toList.map kvOf = tbl.map some)
    | _ => false
  | none => false
theorem dtab_of {K : PySem.W.Frag} {mg : MG} {w : World} {x : Str} {a : Addr} {tbl : List (Str × Int)} (h1 : mg x = some (.ref a)) (D : ∃ es n, KDict K w a es n) (h2 : kvB K a tbl = true) : DTab K mg w x tbl := by
  obtain ⟨es, n, D⟩ := D
  refine ⟨a, es, n, h1, D, ?_⟩
  unfold kvB at h2
  rw [D.at_] at h2
  simpa using h2
end Fn

set_option Elab.async false
set_option linter.all false
set_option autoImplicit false
set_option maxRecDepth 100000
set_option maxHeartbeats 4000000
/-! Layer Fn: sum of a list or a tuple. -/
namespace Fn
open PySem PySem.Spec PyProof.Rows L2
section
variable {prog : Program} {w : World} {A : Around} {E : Value → Shared → Prop} {s : Shared} {t : Addr} {its : List Value} {ns : List Int}
theorem preSum_take (ns : List Int) : ∀ n : Nat, n ≤ ns.length → preSum (fun i => (ns[i]?).getD 0) n = (ns.take n).sum
  | 0, _ => by simp [preSum]
  | n + 1, h => by
    have hl : n < ns.length := by omega
    rw [preSum, preSum_take ns n (by omega), PySem.sum_take_succ, List.getD_eq_getElem?_getD]
theorem sum_tup (hh : A.handled = none) (ht : s.heap.IsTuple t its.toArray) (hv : Vals (ns.map V.int) its) {Q : Value → Shared → Prop}
    (h : ∀ h' tk t', (∀ b o, s.heap.get? b = some o → h'.get? b = some o) → Q (.int ns.sum t') { s with heap := h', toks := tk }) : wpAny (model prog w) A (call (.builtin "sum") [.ref t]) Q E s := by
  have hlt : t < s.heap.objs.size := by obtain ⟨o, e, _⟩ := ht; exact Heap.lt_size e
  refine call_sum_walkG (wpAny_pyIter_tuple ht ?_)
  refine ⟨s.heap.objs.size, [s.heap.objs.size, t], [s.heap.objs.size], _, _, _, fun i => (ns[i]?).getD 0, rfl, Walks.tuple (A := A.in1) hh _ t (Nat.ne_of_lt hlt) its.toArray, ?_, ?_, ?_, ?_⟩
  · exact ⟨⟨_, Heap.get?_push_size _ rfl, rfl, rfl⟩, ht.push _⟩
  · intro b hb
    show b < (s.heap.push _).objs.size
    rw [Heap.size_push]
    simp only [List.mem_cons, List.not_mem_nil, or_false] at hb
    rcases hb with rfl | rfl
    · exact Nat.lt_succ_self _
    · exact Nat.lt_succ_of_lt hlt
  · intro i v e
    have e : its[i]? = some v := by simpa using e
    obtain ⟨y, h1, h2⟩ := vals_back hv e
    rw [List.getElem?_map] at h1
    obtain ⟨n, h3, rfl⟩ := Option.map_eq_some_iff.mp h1
    obtain ⟨tk, rfl⟩ := h2
    exact ⟨tk, by show Value.int n tk = Value.int ((ns[i]?).getD 0) tk; rw [h3]; rfl⟩
  · intro h' tk t' hk
    have hsz : its.toArray.size = ns.length := by rw [List.size_toArray, ← hv.length, List.length_map]
    have := h h' tk t' fun b o e => hk b o (fun hm => by
      simp only [List.mem_cons, List.not_mem_nil, or_false] at hm
      subst hm
      exact Nat.lt_irrefl _ (Heap.lt_size e)) (Heap.get?_push_of_some _ e)
    rw [hsz, preSum_take ns ns.length (Nat.le_refl _), List.take_length]
    exact this
end
section
variable {X : Cx}
def rSumA (K : PySem.W.Frag) : List V → Hp → VK → Prop := fun vs H Q => ∃ (a : Addr) (ns : List Int), vs = [V.ref a] ∧ (SqL K H a (ns.map V.int) ∨ SqT K H a (ns.map V.int)) ∧ Q (.int ns.sum) H
theorem cr_sumA (hc : X.calm = true) : CallR X (.builtin "sum") (rSumA X.K) := by
  intro pins s σ H vs us Q I r h
  obtain ⟨a, ns, rfl, hs | hs, q⟩ := h
  · exact cr_sum hc pins s σ H _ us Q I r ⟨a, ns, rfl, hs, q⟩
  · obtain ⟨its, rv, hl, _⟩ := I.tuple hs
    rw [Vals.ref1 r]
    exact sum_tup (I.ok.hd hc) hl rv fun h' tk t' hk => ⟨.int _, H, I.kept hk, ⟨_, rfl⟩, q⟩
end
def gSumA : GA := fun st xs => match xs with
  | [x] => (seqD st x).bind fun ds => (intsD ds).map fun ns => .int ns.sum
  | _ => none
theorem cb_sumA {K : PySem.W.Frag} {mg : MG} : CbA K mg (rSumA K) gSumA := fun μ H st xs vs z Q s r e q => by
  unfold gSumA at e
  split at e
  · obtain ⟨ds, h1, h2⟩ := Option.bind_eq_some_iff.mp e
    obtain ⟨bs, h3, rfl⟩ := Option.map_eq_some_iff.mp h2
    obtain ⟨v, rfl, rv⟩ := r.one
    obtain ⟨a, ws, rfl, hs, hl, rr⟩ := seq_of s rv h1
    rw [ints_of rr h3] at hs
    exact ⟨a, bs, rfl, hs, q _ H μ (.refl s) (.int _)⟩
  · cases e
section
variable {X : Cx} {W : WX} {e : Expr} {fr : AF} {pos p : Pos}
theorem x_sumA (hc : X.calm = true) (hm : X.mg "sum" = none) (ha : AX X W [e] fr) (hgl : Gl X "sum" := by rfl) (he : starEach [e] X.env = (false, eval e X.env) :: starEach [] X.env := by rfl) : EX X W (.Call (.Name "sum" p) [e] [] pos) (eCB gSumA fr) := ex_callB (cr_sumA hc) cb_sumA hm (by decide +kernel) ha hgl (by decide) (by decide) he rfl
end
theorem intsD_ints : ∀ xs : List Int, intsD (xs.map .int) = some xs
  | [] => rfl
  | x :: xs => by simp [intsD, intsD_ints xs]
@[simp] theorem gSumA_lst (xs : List Int) (st : Sto) : gSumA st [.lst (xs.map .int)] = some (.int xs.sum) := by simp [gSumA, seqD, intsD_ints]
@[simp] theorem gSumA_tup (xs : List Int) (st : Sto) : gSumA st [.tup (xs.map .int)] = some (.int xs.sum) := by simp [gSumA, seqD, intsD_ints]
end Fn

set_option Elab.async false
set_option linter.all false
set_option autoImplicit false
set_option maxRecDepth 100000
set_option maxHeartbeats 4000000
/-! Layer Fn: reckoning with readings. -/
namespace Fn
open PySem PySem.Spec PyProof.Rows L2
/-- i < j, texts -/
def ltS (i j : Str) : Bool := decide (i.cps.toList < j.cps.toList)
section
variable {ρ : Rho} {st : Sto} {fa fb fc : EF} {fr : AF} {g g' : G2} {p p' : G2b}
@[simp] theorem eVar_q (i : Nat) : eVar i ρ st = match ρ[i]? with
  | some (some d) => .ok d st
  | _ => .no := rfl
@[simp] theorem eC_q (d : D) : eC d ρ st = .ok d st := rfl
@[simp] theorem eOp2_q : eOp2 g fa fb ρ st = (fa ρ st).bind fun x s1 => (fb ρ s1).bind fun y s2 => match g s2 x y with
  | some z => .ok z s2
  | none => .no := rfl
@[simp] theorem eCmp_q : eCmp p fa fb ρ st = (fa ρ st).bind fun x s1 => (fb ρ s1).bind fun y s2 => match p s2 x y with
  | some b => .ok (.bl b) s2
  | none => .no := rfl
@[simp] theorem tCm_q : tCm p fa fb ρ st = (fa ρ st).bind fun x s1 => (fb ρ s1).bind fun y s2 => match p s2 x y with
  | some b => .ok b s2
  | none => .no := rfl
@[simp] theorem tTru_q : tTru fa ρ st = (fa ρ st).bind fun x s1 => match truD s1 x with
  | some b => .ok b s1
  | none => .no := rfl
@[simp] theorem tAndF_q {a b : TF} : tAndF a b ρ st = (a ρ st).bind fun k s1 => if k = true then b ρ s1 else .ok false s1 := rfl
@[simp] theorem tOrF_q {a b : TF} : tOrF a b ρ st = (a ρ st).bind fun k s1 => if k = true then .ok true s1 else b ρ s1 := rfl
@[simp] theorem tNotF_q {a : TF} : tNotF a ρ st = (a ρ st).bind fun k s1 => .ok (!k) s1 := rfl
@[simp] theorem eAnd_q : eAnd fa fb ρ st = (fa ρ st).bind fun x s1 => match truD s1 x with
  | some true => fb ρ s1
  | some false => .ok x s1
  | none => .no := rfl
@[simp] theorem eOr_q : eOr fa fb ρ st = (fa ρ st).bind fun x s1 => match truD s1 x with
  | some true => .ok x s1
  | some false => fb ρ s1
  | none => .no := rfl
@[simp] theorem eNot_q : eNot fa ρ st = (fa ρ st).bind fun x s1 => match truD s1 x with
  | some b => .ok (.bl (!b)) s1
  | none => .no := rfl
@[simp] theorem eIf_q {t : TF} : eIf t fa fb ρ st = (t ρ st).bind fun b s1 => if b = true then fa ρ s1 else fb ρ s1 := rfl
@[simp] theorem aNil_q : aNil ρ st = .ok [] st := rfl
@[simp] theorem aCons_q : aCons fa fr ρ st = (fa ρ st).bind fun x s1 => (fr ρ s1).bind fun xs s2 => .ok (x :: xs) s2 := rfl
@[simp] theorem eTup_q : eTup fr ρ st = (fr ρ st).bind fun xs s1 => if noMu xs = true ∧ xs.length ≤ sizeLine then .ok (.tup xs) s1 else .no := rfl
@[simp] theorem eLst_q : eLst fr ρ st = (fr ρ st).bind fun xs s1 => if noMu xs = true ∧ xs.length ≤ sizeLine then .ok (.lst xs) s1 else .no := rfl
@[simp] theorem eCB_q {g : GA} : eCB g fr ρ st = (fr ρ st).bind fun xs s1 => match g s1 xs with
  | some z => .ok z s1
  | none => .no := rfl
@[simp] theorem eCall_q {den : Den} : eCall den fr ρ st = (fr ρ st).bind fun xs s1 => den xs s1 := rfl
@[simp] theorem lenOk_q {den : Den} {n : Nat} {ds : List D} : lenOk n den ds st = if ds.length = n then den ds st else .no := rfl
@[simp] theorem sNext_q : sNext ρ st = .nx ρ st := rfl
@[simp] theorem sSeq_q {f g : SF} : sSeq f g ρ st = match f ρ st with
  | .nx ρ' st' => g ρ' st'
  | o => o := rfl
@[simp] theorem sExpr_q : sExpr fa ρ st = (fa ρ st).bindS ρ fun _ s1 => .nx ρ s1 := rfl
@[simp] theorem sRet_q : sRet fa ρ st = (fa ρ st).bindS ρ fun d s1 => .rt d s1 := rfl
@[simp] theorem sIf_q {t : TF} {f g : SF} : sIf t f g ρ st = (t ρ st).bindS ρ fun b s1 => if b = true then f ρ s1 else g ρ s1 := rfl
@[simp] theorem sRaise_q {x : Str} : sRaise x ρ st = .er ⟨x, none⟩ ρ st := rfl
@[simp] theorem sAsg_q {t : Tg} : sAsg t fa ρ st = (fa ρ st).bindS ρ fun d s1 => match gT s1 t d ρ with
  | some ρ' => .nx ρ' s1
  | none => .no := rfl
@[simp] theorem gT_nm {i : Nat} {d : D} : gT st (.nm i) d ρ = some (ρ.set i (some d)) := by simp [gT]
@[simp] theorem gT_tp {l : List Tg} {ds : List D} : gT st (.tp l) (.tup ds) ρ = gTs st l ds ρ := by simp [gT]
@[simp] theorem gT_tl {l : List Tg} {ds : List D} : gT st (.tp l) (.lst ds) ρ = gTs st l ds ρ := by simp [gT]
@[simp] theorem gTs_nil : gTs st [] [] ρ = some ρ := by simp [gTs]
@[simp] theorem gTs_cons {t : Tg} {l : List Tg} {d : D} {ds : List D} : gTs st (t :: l) (d :: ds) ρ = match gT st t d ρ with
  | some ρ' => gTs st l ds ρ'
  | none => none := by
  rw [gTs] <;> (cases gT st t d ρ <;> rfl)
@[simp] theorem bindS_ok {α : Type} {a : α} {f : α → Sto → SR} : (R.ok a st).bindS ρ f = f a st := rfl
@[simp] theorem bindS_er {α : Type} {x : Exc} {f : α → Sto → SR} : (R.er x st : R α).bindS ρ f = .er x ρ st := rfl
@[simp] theorem denOf_q {n : Nat} {k : Bool} {b : SF} {ds : List D} : denOf n k b ds st = exitD k st.length (endR (b (ds.map some ++ List.replicate (n - ds.length) none) st)) := rfl
@[simp] theorem endR_nx : endR (.nx ρ st) = .ok .non st := rfl
@[simp] theorem endR_rt {d : D} : endR (.rt d st) = .ok d st := rfl
@[simp] theorem endR_er {x : Exc} : endR (.er x ρ st) = .er x st := rfl
@[simp] theorem exitD_er {k : Bool} {n : Nat} {x : Exc} : exitD k n (.er x st) = .er x (st.take n) := rfl
@[simp] theorem exitD_non {k : Bool} {n : Nat} : exitD k n (.ok .non st) = .ok .non (st.take n) := rfl
@[simp] theorem exitD_bl {k : Bool} {n : Nat} {b : Bool} : exitD k n (.ok (.bl b) st) = .ok (.bl b) (st.take n) := rfl
@[simp] theorem exitD_int {k : Bool} {n : Nat} {b : Int} : exitD k n (.ok (.int b) st) = .ok (.int b) (st.take n) := rfl
@[simp] theorem exitD_str {k : Bool} {n : Nat} {b : Str} : exitD k n (.ok (.str b) st) = .ok (.str b) (st.take n) := rfl
@[simp] theorem exitD_tup {k : Bool} {n : Nat} {b : List D} : exitD k n (.ok (.tup b) st) = .ok (.tup b) (st.take n) := rfl
@[simp] theorem exitD_lst {k : Bool} {n : Nat} {b : List D} : exitD k n (.ok (.lst b) st) = .ok (.lst b) (st.take n) := rfl
theorem exitD_d {k : Bool} {n : Nat} {d : D} (h : muD d = false) : exitD k n (.ok d st) = .ok d (st.take n) := by
  cases d <;> first | rfl | (simp [muD] at h)
@[simp] theorem muD_non : muD .non = false := rfl
@[simp] theorem muD_bl {b : Bool} : muD (.bl b) = false := rfl
@[simp] theorem muD_int {b : Int} : muD (.int b) = false := rfl
@[simp] theorem muD_str {b : Str} : muD (.str b) = false := rfl
@[simp] theorem muD_tup {b : List D} : muD (.tup b) = false := rfl
@[simp] theorem muD_lst {b : List D} : muD (.lst b) = false := rfl
@[simp] theorem muD_gl {b : Str} : muD (.gl b) = false := rfl
@[simp] theorem noMu_nil : noMu [] = true := rfl
@[simp] theorem noMu_cons {d : D} {ds : List D} : noMu (d :: ds) = (!muD d && noMu ds) := rfl
@[simp] theorem truD_bl {b : Bool} : truD st (.bl b) = some b := rfl
@[simp] theorem truD_non : truD st .non = some false := rfl
@[simp] theorem truD_int {b : Int} : truD st (.int b) = some (b != 0) := rfl
@[simp] theorem seqD_tup {b : List D} : seqD st (.tup b) = some b := rfl
@[simp] theorem seqD_lst {b : List D} : seqD st (.lst b) = some b := rfl
@[simp] theorem gLe_int {i j : Int} : gLe st (.int i) (.int j) = some (decide (i ≤ j)) := rfl
@[simp] theorem gLt_int {i j : Int} : gLt st (.int i) (.int j) = some (decide (i < j)) := rfl
@[simp] theorem gGt_int {i j : Int} : gGt st (.int i) (.int j) = some (decide (j < i)) := rfl
@[simp] theorem gGe_int {i j : Int} : gGe st (.int i) (.int j) = some (decide (j ≤ i)) := rfl
@[simp] theorem gLt_str {i j : Str} : gLt st (.str i) (.str j) = some (ltS i j) := rfl
@[simp] theorem gEq_int {i j : Int} : gEq st (.int i) (.int j) = some (decide (i = j)) := rfl
@[simp] theorem gNe_int {i j : Int} : gNe st (.int i) (.int j) = some (!decide (i = j)) := rfl
@[simp] theorem gEq_str {i j : Str} : gEq st (.str i) (.str j) = some (decide (i = j)) := rfl
@[simp] theorem gNe_str {i j : Str} : gNe st (.str i) (.str j) = some (!decide (i = j)) := rfl
@[simp] theorem gEq_bl {i j : Bool} : gEq st (.bl i) (.bl j) = some (decide (i = j)) := rfl
@[simp] theorem gNe_bl {i j : Bool} : gNe st (.bl i) (.bl j) = some (!decide (i = j)) := rfl
@[simp] theorem gSub_int {i j : Int} : gSub st (.int i) (.int j) = some (.int (i - j)) := rfl
@[simp] theorem gAdd_int {i j : Int} : gAdd st (.int i) (.int j) = some (.int (i + j)) := rfl
@[simp] theorem gInt_int {i : Int} : gInt st [.int i] = some (.int i) := rfl
@[simp] theorem gLen_str {z : Str} : gLen st [.str z] = some (.int z.length) := rfl
@[simp] theorem gLen_tup {b : List D} : gLen st [.tup b] = some (.int b.length) := rfl
@[simp] theorem gLen_lst {b : List D} : gLen st [.lst b] = some (.int b.length) := rfl
@[simp] theorem gIx_tup {b : List D} {i : Int} : gIx st (.tup b) (.int i) = L2.atI b i := rfl
@[simp] theorem gIx_lst {b : List D} {i : Int} : gIx st (.lst b) (.int i) = L2.atI b i := rfl
@[simp] theorem gMin2_int {i j : Int} : gMin2 st [.int i, .int j] = some (.int (if j < i then j else i)) := rfl
@[simp] theorem gTuple_tup {b : List D} : gTuple st [.tup b] = some (.tup b) := rfl
@[simp] theorem gTuple_lst {b : List D} : gTuple st [.lst b] = some (.tup b) := rfl
@[simp] theorem gIsNot_tt {i j : Bool} : gIsNot st (.bl i) (.bl j) = some (!decide (i = j)) := by cases i <;> cases j <;> rfl
@[simp] theorem iSeq_q : iSeq fa ρ st = (fa ρ st).bind fun x s1 => match itemsD s1 x with
  | some (ds, s2) => .ok ds s2
  | none => .no := rfl
@[simp] theorem itemsD_tup {ds : List D} : itemsD st (.tup ds) = some (ds, st) := rfl
@[simp] theorem itemsD_lst {ds : List D} : itemsD st (.lst ds) = some (ds, st) := rfl
@[simp] theorem itemsD_str {x : Str} : itemsD st (.str x) = some (chrsD x, st) := rfl
@[simp] theorem gAdd_lst {a b : List D} : gAdd st (.lst a) (.lst b) = if a.length + b.length ≤ sizeLine then some (.lst (a ++ b)) else none := by
  simp only [gAdd, gAddI, gII, gCatS, gCatL, lstD, gCatT, tupD, Option.map, Option.none_or]
  split <;> rfl
@[simp] theorem gAdd_tup {a b : List D} : gAdd st (.tup a) (.tup b) = if a.length + b.length ≤ sizeLine then some (.tup (a ++ b)) else none := by
  simp only [gAdd, gAddI, gII, gCatS, gCatL, lstD, gCatT, tupD, Option.map, Option.none_or]
@[simp] theorem gAdd_str {a b : Str} : gAdd st (.str a) (.str b) = if a.length + b.length ≤ sizeLine then some (.str (a ++ b)) else none := by
  simp only [gAdd, gAddI, gII, gCatS, gCatL, lstD, gCatT, tupD, Option.map, Option.none_or]
  split <;> rfl
@[simp] theorem gMul_lst {a : List D} {k : Int} : gMul st (.lst a) (.int k) = if -(2 ^ 63) ≤ k ∧ k < 2 ^ 63 ∧ a.length * k.toNat ≤ sizeLine then some (.lst (List.replicate k.toNat a).flatten) else none := by
  simp only [gMul, gMulI, gII, gRepL, lstD, gRepT, gRepS, tupD, Option.map, Option.none_or]
  split <;> rfl
@[simp] theorem gMul_tup {a : List D} {k : Int} (h1 : -(2 ^ 63) ≤ k) (h2 : k ≤ 1000) (h3 : a.length ≤ 1000) : gMul st (.tup a) (.int k) = some (.tup (List.replicate k.toNat a).flatten) := by
  simp only [gMul, gMulI, gII, gRepL, lstD, gRepT, gRepS, tupD, Option.map, Option.none_or]
  by_cases h : a ≠ [] ∧ 2 ≤ k
  · rw [if_pos ⟨h.1, h.2, h2, h3⟩]; rfl
  · have h4 : a = [] ∨ k ≤ 1 := by
      by_cases ha : a = []
      · exact .inl ha
      · exact .inr (Classical.byContradiction fun z => h ⟨ha, by omega⟩)
    rw [if_neg (fun z => h ⟨z.1, z.2.1⟩), if_pos ⟨h1, by omega, h4⟩]; rfl
@[simp] theorem gMul_int {i k : Int} : gMul st (.int i) (.int k) = if (big64 i || big64 k) = true then some (.int (i * k)) else none := by
  simp only [gMul, gMulI, gII, gRepL, lstD, gRepT, gRepS, tupD]
  split <;> rfl
@[simp] theorem lstD_lst {b : List D} : lstD st (.lst b) = some b := rfl
@[simp] theorem eMt_q {g : GM} : eMt g fa fr ρ st = (fa ρ st).bind fun x s1 => match lstD s1 x with
  | some _ => (fr ρ s1).bind fun xs s2 => match g s2 x xs with
    | some (d, s3) => .ok d s3
    | none => .no
  | none => .no := rfl
@[simp] theorem gCount_lst {b : List D} {y : D} : gCount st (.lst b) [y] = match toV y, toVs b with
  | some v, some vs => some (.int ((vs.filter fun z => eqV z v).length : Nat), st)
  | _, _ => none := rfl
@[simp] theorem gIndex_lst {b : List D} {y : D} : gIndex st (.lst b) [y] = match toV y, toVs b with
  | some v, some vs => (firstV v vs 0).map fun j => (.int (j : Nat), st)
  | _, _ => none := rfl
@[simp] theorem eNeg_int {i : Int} (h : fa ρ st = .ok (.int i) st) : eNeg fa ρ st = .ok (.int (-i)) st := by simp [eNeg, h]
theorem gMod_int {i j : Int} (h : 0 < j) : gMod st (.int i) (.int j) = some (.int (i % j)) := by
  show (if 0 < j then some (i % j) else none).map D.int = _
  rw [if_pos h]; rfl
end
theorem take_len {α : Type} (l : List α) : l.take l.length = l := List.take_length
/-! ### comprehensions without draws -/
section
variable {α : Type} {h g : α → D} {xs : List α} {fi : IF} {t : Tg} {fe : EF} {vs : List Nat} {ρ : Rho} {st : Sto}
theorem lcD_map {n : Nat} (hb : ∀ x ∈ xs, ∀ s, ∃ ρ1, gT s t (h x) (wipeR ρ vs) = some ρ1 ∧ fe ρ1 s = .ok (g x) s) (hm : ∀ x ∈ xs, muD (g x) = false) :
    ∀ (k : Nat) (acc : List D) (s : Sto), acc.length = k → s.length = n → lcD t tYesF fe vs n k (xs.map h) ρ (s ++ [.ml acc]) = .ok () (s ++ [.ml (acc ++ xs.map g)]) := by
  induction xs with
  | nil => intro k acc s _ _; simp [lcD]
  | cons x xs ih =>
    intro k acc s hk hn
    obtain ⟨ρ1, e1, e2⟩ := hb x List.mem_cons_self (s ++ [.ml acc])
    have hget : (s ++ [MO.ml acc])[n]? = some (.ml acc) := by rw [← hn]; simp
    have hset : (s ++ [MO.ml acc]).set n (.ml (acc ++ [g x])) = s ++ [.ml (acc ++ [g x])] := by
      rw [← hn, List.set_append_right _ _ (Nat.le_refl _)]; simp
    simp only [List.map_cons, lcD, e1, tYesF, if_true, e2, hget, hm x List.mem_cons_self, true_and, hk, Nat.le_refl, hset]
    rw [ih (fun y hy => hb y (List.mem_cons_of_mem _ hy)) (fun y hy => hm y (List.mem_cons_of_mem _ hy)) (k + 1) (acc ++ [g x]) s (by simp [hk]) hn]
    simp
theorem lc_map (hfi : fi ρ st = .ok (xs.map h) st) (hb : ∀ x ∈ xs, ∀ s, ∃ ρ1, gT s t (h x) (wipeR ρ vs) = some ρ1 ∧ fe ρ1 s = .ok (g x) s) (hm : ∀ x ∈ xs, muD (g x) = false) :
    eLc false fi t tYesF fe vs ρ st = .ok (.lst (xs.map g)) st := by
  simp only [eLc, hfi, R.bind]
  rw [lcD_map hb hm 0 [] st rfl rfl]
  simp [lcEnd, R.bind]
end
/-! ### the list of draws -/
/-- the store's n-th object is a list of whole numbers -/
def Dr (n : Nat) (st : Sto) : Prop := ∃ ds : List Int, st[n]? = some (.ml (ds.map .int))
structure Stp (n : Nat) (st st' : Sto) : Prop where
  dr : Dr n st'
  len : st'.length = st.length
  ne : ∀ m, m ≠ n → st'[m]? = st[m]?
theorem Stp.refl {n : Nat} {st : Sto} (h : Dr n st) : Stp n st st := ⟨h, rfl, fun _ _ => rfl⟩
theorem Stp.trans {n : Nat} {a b c : Sto} (h : Stp n a b) (k : Stp n b c) : Stp n a c := ⟨k.dr, k.len.trans h.len, fun m hm => (k.ne m hm).trans (h.ne m hm)⟩
theorem Dr.lt {n : Nat} {st : Sto} (h : Dr n st) : n < st.length := by
  obtain ⟨ds, e⟩ := h
  exact (List.getElem?_eq_some_iff.mp e).1
theorem Dr.app {n : Nat} {st t : Sto} (h : Dr n st) : Dr n (st ++ t) := by
  obtain ⟨ds, e⟩ := h
  exact ⟨ds, by rw [List.getElem?_append_left ((List.getElem?_eq_some_iff.mp e).1)]; exact e⟩
/-- a drawing in the middle of an expression -/
def Draw {α : Type} (n : Nat) (st : Sto) (P : α → Prop) (r : R α) : Prop := ∃ a st', r = .ok a st' ∧ P a ∧ Stp n st st'
section
variable {α : Type} {h : α → D} {P : α → Prop} {items : List D} {fi : IF} {t : Tg} {fe : EF} {vs : List Nat} {ρ : Rho} {st : Sto} {n : Nat}
theorem lcD_draw {L : Nat} (hn : n < L) (hb : ∀ d ∈ items, ∀ s, Dr n s → ∃ ρ1, gT s t d (wipeR ρ vs) = some ρ1 ∧ ∃ y s', fe ρ1 s = .ok (h y) s' ∧ P y ∧ Stp n s s') (hm : ∀ y, P y → muD (h y) = false) :
    ∀ (k : Nat) (acc : List D) (s : Sto), acc.length = k → s[L]? = some (.ml acc) → s.length = L + 1 → Dr n s → ∃ (ys : List α) (s' : Sto), lcD t tYesF fe vs L k items ρ s = .ok () s' ∧ s'[L]? = some (.ml (acc ++ ys.map h)) ∧
      ys.length = items.length ∧ (∀ y ∈ ys, P y) ∧ Dr n s' ∧ s'.length = s.length ∧ ∀ m, m ≠ n → m ≠ L → s'[m]? = s[m]? := by
  induction items with
  | nil => intro k acc s _ e hl d; exact ⟨[], s, by simp [lcD], by simpa using e, rfl, by simp, d, rfl, fun _ _ _ => rfl⟩
  | cons x xs ih =>
    intro k acc s hk hL hl d
    obtain ⟨ρ1, e1, y, s', e2, py, sp⟩ := hb x List.mem_cons_self s d
    have hget : s'[L]? = some (.ml acc) := (sp.ne L (by omega)).trans hL
    have hLl : L < s'.length := by rw [sp.len]; omega
    simp only [lcD, e1, tYesF, if_true, e2, hget, hm y py, true_and, hk, Nat.le_refl]
    obtain ⟨ys, s2, q1, q2, q3, q4, q5, q6, q7⟩ := ih (fun y hy => hb y (List.mem_cons_of_mem _ hy)) (k + 1) (acc ++ [h y]) (s'.set L (.ml (acc ++ [h y]))) (by simp [hk]) (by rw [List.getElem?_set_self hLl]) (by rw [List.length_set, sp.len, hl])
      (by obtain ⟨ds, e⟩ := sp.dr; exact ⟨ds, by rw [List.getElem?_set_ne (by omega)]; exact e⟩)
    refine ⟨y :: ys, s2, q1, by simpa using q2, by simp [q3], ?_, q5, by rw [q6, List.length_set, sp.len], fun m h1 h2 => ?_⟩
    · intro z hz
      rcases List.mem_cons.mp hz with rfl | hz
      · exact py
      · exact q4 z hz
    · rw [q7 m h1 h2, List.getElem?_set_ne (Ne.symm h2), sp.ne m h1]
theorem lc_draw {s1 : Sto} (hfi : fi ρ st = .ok items s1) (h0 : Stp n st s1) (hb : ∀ d ∈ items, ∀ s, Dr n s → ∃ ρ1, gT s t d (wipeR ρ vs) = some ρ1 ∧ ∃ y s', fe ρ1 s = .ok (h y) s' ∧ P y ∧ Stp n s s') (hm : ∀ y, P y → muD (h y) = false) :
    ∃ (ys : List α) (st' : Sto), eLc false fi t tYesF fe vs ρ st = .ok (.lst (ys.map h)) st' ∧ ys.length = items.length ∧ (∀ y ∈ ys, P y) ∧ Stp n st st' := by
  have hn := h0.dr.lt
  obtain ⟨ys, s2, q1, q2, q3, q4, q5, q6, q7⟩ := lcD_draw (L := s1.length) hn hb hm 0 [] (s1 ++ [.ml []]) rfl (by simp) (by simp) h0.dr.app
  refine ⟨ys, s2.take s1.length, ?_, q3, q4, ?_⟩
  · simp only [eLc, hfi, R.bind, q1, lcEnd, q2, List.nil_append]
    simp
  · have hl : s2.length = s1.length + 1 := by rw [q6]; simp
    refine h0.trans ⟨?_, by simp [hl], fun m hm => ?_⟩
    · obtain ⟨ds, e⟩ := q5
      exact ⟨ds, by rw [List.getElem?_take_of_lt hn]; exact e⟩
    · by_cases hlt : m < s1.length
      · rw [List.getElem?_take_of_lt hlt, q7 m hm (by omega), List.getElem?_append_left hlt]
      · rw [List.getElem?_eq_none (by simp [hl]; omega), List.getElem?_eq_none (by omega)]
end
/-! ### sums, alls -/
theorem boolsD_map {α : Type} (p : α → Bool) : ∀ xs : List α, boolsD (xs.map fun x => .bl (p x)) = some (xs.map p)
  | [] => rfl
  | x :: xs => by simp [boolsD, boolsD_map p xs]
theorem intsD_map {α : Type} (p : α → Int) : ∀ xs : List α, intsD (xs.map fun x => .int (p x)) = some (xs.map p)
  | [] => rfl
  | x :: xs => by simp [intsD, intsD_map p xs]
theorem gAll_map {α : Type} (p : α → Bool) (xs : List α) (st : Sto) : gAll st [.lst (xs.map fun x => .bl (p x))] = some (.bl (xs.all p)) := by
  simp [gAll, lstD, boolsD_map, List.all_map, Function.comp_def]
theorem gAny_map {α : Type} (p : α → Bool) (xs : List α) (st : Sto) : gAny st [.lst (xs.map fun x => .bl (p x))] = some (.bl (xs.any p)) := by
  simp [gAny, lstD, boolsD_map, List.any_map, Function.comp_def]
theorem gSum_map {α : Type} (p : α → Int) (xs : List α) (st : Sto) : gSum st [.lst (xs.map fun x => .int (p x))] = some (.int (xs.map p).sum) := by
  simp [gSum, lstD, intsD_map]
theorem zipD_map {α β : Type} (f : α → D) (g : β → D) : ∀ (xs : List α) (ys : List β), zipD (xs.map f) (ys.map g) = (xs.zip ys).map fun p => .tup [f p.1, g p.2]
  | [], _ => by simp [zipD]
  | _ :: _, [] => by simp [zipD]
  | x :: xs, y :: ys => by simp [zipD, zipD_map f g xs ys]
theorem rngD_eq (n : Nat) : rngD 0 n = (List.range n).map fun i => .int ((i : Nat) : Int) := by
  simp [rngD]
/-! ### next, pick: what every law's draws are -/
theorem atI_mem {α : Type} {xs : List α} {i : Int} (h0 : 0 ≤ i) (h : i < xs.length) : ∃ x, L2.atI xs i = some x ∧ x ∈ xs := by
  refine ⟨xs[i.toNat]'(by omega), ?_, List.getElem_mem _⟩
  unfold L2.atI L2.ixN
  rw [if_pos h0, if_pos h]
  exact List.getElem?_eq_getElem _
/-! ### loops -/
theorem forD_inv {t : Tg} {body : SF} {I : Nat → Rho → Sto → Prop} {J : Rho → Sto → Prop} {N : Nat} : ∀ {items : List D}, (∀ d ∈ items, ∀ k ρ s, k < N → I k ρ s → ∃ ρ1, gT s t d ρ = some ρ1 ∧ ((∃ ρ2 s2, body ρ1 s = .nx ρ2 s2 ∧ I (k + 1) ρ2 s2) ∨ ∃ ρ2 s2, body ρ1 s = .bk ρ2 s2 ∧ J ρ2 s2)) →
    ∀ k ρ s, k + items.length = N → I k ρ s → (∀ ρ s, I N ρ s → J ρ s) → ∃ ρ' s', forD t body items ρ s = .nx ρ' s' ∧ J ρ' s'
  | [], _, k, ρ, s, hN, h, hj => ⟨ρ, s, rfl, hj ρ s (by rw [List.length_nil] at hN; rw [← hN]; exact h)⟩
  | d :: r, hb, k, ρ, s, hN, h, hj => by
    rw [List.length_cons] at hN
    obtain ⟨ρ1, e1, h2⟩ := hb d List.mem_cons_self k ρ s (by omega) h
    rcases h2 with ⟨ρ2, s2, e2, h3⟩ | ⟨ρ2, s2, e2, h3⟩
    · obtain ⟨ρ', s', q1, q2⟩ := forD_inv (fun d hd => hb d (List.mem_cons_of_mem _ hd)) (k + 1) ρ2 s2 (by omega) h3 hj
      exact ⟨ρ', s', by simp only [forD, e1, e2]; exact q1, q2⟩
    · exact ⟨ρ2, s2, by simp only [forD, e1, e2], h3⟩
@[simp] theorem sFor_q {fi : IF} {t : Tg} {body : SF} {ρ : Rho} {st : Sto} : sFor fi t body ρ st = (fi ρ st).bindS ρ fun items s1 => forD t body items ρ s1 := rfl
@[simp] theorem sBreak_q {ρ : Rho} {st : Sto} : sBreak ρ st = .bk ρ st := rfl
@[simp] theorem sCont_q {ρ : Rho} {st : Sto} : sCont ρ st = .ct ρ st := rfl
@[simp] theorem eLstM_q {fr : AF} {ρ : Rho} {st : Sto} : eLstM fr ρ st = (fr ρ st).bind fun xs s1 => if noMu xs = true ∧ xs.length ≤ sizeLine then .ok (.mu s1.length) (s1 ++ [.ml xs]) else .no := rfl
@[simp] theorem iRange1_q {fr : AF} {ρ : Rho} {st : Sto} : iRange1 fr ρ st = (fr ρ st).bind fun xs s1 => match xs with
  | [.int j] => if j.toNat ≤ sizeLine ∧ -(2 ^ 62) ≤ j then .ok (rngD 0 j.toNat) s1 else .no
  | _ => .no := rfl
@[simp] theorem itemsD_scr {st : Sto} {ns : List Int} : itemsD st (.scr ns) = some (ns.map .int, st) := rfl
@[simp] theorem rngD_len {lo : Int} {n : Nat} : (rngD lo n).length = n := by simp [rngD]
theorem gDiv_int {st : Sto} {i j : Int} (h : 0 < j) (h2 : j < 1073741824) : gDiv st (.int i) (.int j) = some (.int (i / j)) := by
  show (if 0 < j ∧ j < 1073741824 then some (i / j) else none).map D.int = _
  rw [if_pos ⟨h, h2⟩]; rfl
theorem big64_of {i : Int} (h : (-(2 ^ 64) < i ∧ i < 2 ^ 64) = True) : big64 i = true := decide_eq_true (of_eq_true h)
@[simp] theorem eCatM_q {fa fb : EF} {ρ : Rho} {st : Sto} : eCatM fa fb ρ st = (fa ρ st).bind fun x s1 => (fb ρ s1).bind fun y s2 => match lstD s2 x, lstD s2 y with
  | some ds, some es => if ds.length + es.length ≤ sizeLine then .ok (.mu s2.length) (s2 ++ [.ml (ds ++ es)]) else .no
  | _, _ => .no := rfl
/-- i stands in j -/
def inS (i j : Str) : Bool := !(Builtin.Str.occurrences j i 0 j.length 1).isEmpty
@[simp] theorem gIn_str {st : Sto} {i j : Str} : gIn st (.str i) (.str j) = some (inS i j) := rfl
@[simp] theorem gNotIn_str {st : Sto} {i j : Str} : gNotIn st (.str i) (.str j) = some (!inS i j) := rfl
@[simp] theorem eSl_q {fa : EF} {fl fh : PF} {ρ : Rho} {st : Sto} : eSl fa fl fh ρ st = (fa ρ st).bind fun x s1 => (fl ρ s1).bind fun lo s2 => (fh ρ s2).bind fun hi s3 => match sliceD s3 x lo hi with
  | some z => .ok z s3
  | none => .no := rfl
@[simp] theorem pNone_q {ρ : Rho} {st : Sto} : pNone ρ st = .ok none st := rfl
@[simp] theorem pSome_q {fa : EF} {ρ : Rho} {st : Sto} : pSome fa ρ st = (fa ρ st).bind fun d s1 => match d with
  | .int i => .ok (some i) s1
  | _ => .no := rfl
@[simp] theorem sliceD_str {st : Sto} {z : Str} {lo hi : Option Int} : sliceD st (.str z) lo hi = some (.str (cutS z lo hi)) := rfl
@[simp] theorem sliceD_tup {st : Sto} {z : List D} {lo hi : Option Int} : sliceD st (.tup z) lo hi = some (.tup (cutD z lo hi)) := rfl
@[simp] theorem iZip2_q {fr : AF} {ρ : Rho} {st : Sto} : iZip2 fr ρ st = (fr ρ st).bind fun xs s1 => match xs with
  | [x, y] => match srcD s1 x, srcD s1 y with
    | some ds, some es => .ok (zipD ds es) s1
    | _, _ => .no
  | _ => .no := rfl
@[simp] theorem srcD_str {st : Sto} {z : Str} : srcD st (.str z) = some (chrsD z) := rfl
@[simp] theorem srcD_tup {st : Sto} {z : List D} : srcD st (.tup z) = some z := rfl
@[simp] theorem srcD_lst {st : Sto} {z : List D} : srcD st (.lst z) = some z := rfl
/-- a text's letters, each as a text -/
def chS (z : Str) : List Str := z.cps.toList.map fun c => ⟨#[c]⟩
theorem chrsD_eq (z : Str) : chrsD z = (chS z).map .str := by simp [chrsD, chS]
/-! ### chains of comparisons of whole numbers -/
section
variable {fa fb fc : EF} {ρ : Rho} {st : Sto} {i j k : Int}
theorem tChn_int {g g' : G2b} {p q : Int → Int → Bool} (hg : ∀ i j s, g s (.int i) (.int j) = some (p i j)) (hg' : ∀ i j s, g' s (.int i) (.int j) = some (q i j)) (ha : fa ρ st = .ok (.int i) st) (hb : fb ρ st = .ok (.int j) st) (hc : fc ρ st = .ok (.int k) st) :
    tChn g g' fa fb fc ρ st = .ok (p i j && q j k) st := by
  simp only [tChn, ha, hb, R.bind, hg]
  cases p i j <;> simp [hc, hg']
theorem eChain_int {g g' : G2b} {p q : Int → Int → Bool} (hg : ∀ i j s, g s (.int i) (.int j) = some (p i j)) (hg' : ∀ i j s, g' s (.int i) (.int j) = some (q i j)) (ha : fa ρ st = .ok (.int i) st) (hb : fb ρ st = .ok (.int j) st) (hc : fc ρ st = .ok (.int k) st) :
    eChain g g' fa fb fc ρ st = .ok (.bl (p i j && q j k)) st := by
  simp only [eChain, ha, hb, R.bind, hg]
  cases p i j <;> simp [hc, hg']
theorem tChn_lele (ha : fa ρ st = .ok (.int i) st) (hb : fb ρ st = .ok (.int j) st) (hc : fc ρ st = .ok (.int k) st) : tChn gLe gLe fa fb fc ρ st = .ok (decide (i ≤ j) && decide (j ≤ k)) st :=
  tChn_int (p := fun i j => decide (i ≤ j)) (q := fun i j => decide (i ≤ j)) (fun _ _ _ => rfl) (fun _ _ _ => rfl) ha hb hc
theorem tChn_lelt (ha : fa ρ st = .ok (.int i) st) (hb : fb ρ st = .ok (.int j) st) (hc : fc ρ st = .ok (.int k) st) : tChn gLe gLt fa fb fc ρ st = .ok (decide (i ≤ j) && decide (j < k)) st :=
  tChn_int (p := fun i j => decide (i ≤ j)) (q := fun i j => decide (i < j)) (fun _ _ _ => rfl) (fun _ _ _ => rfl) ha hb hc
theorem eChain_lele (ha : fa ρ st = .ok (.int i) st) (hb : fb ρ st = .ok (.int j) st) (hc : fc ρ st = .ok (.int k) st) : eChain gLe gLe fa fb fc ρ st = .ok (.bl (decide (i ≤ j) && decide (j ≤ k))) st :=
  eChain_int (p := fun i j => decide (i ≤ j)) (q := fun i j => decide (i ≤ j)) (fun _ _ _ => rfl) (fun _ _ _ => rfl) ha hb hc
theorem eChain_lelt (ha : fa ρ st = .ok (.int i) st) (hb : fb ρ st = .ok (.int j) st) (hc : fc ρ st = .ok (.int k) st) : eChain gLe gLt fa fb fc ρ st = .ok (.bl (decide (i ≤ j) && decide (j < k))) st :=
  eChain_int (p := fun i j => decide (i ≤ j)) (q := fun i j => decide (i < j)) (fun _ _ _ => rfl) (fun _ _ _ => rfl) ha hb hc
end
/-! ### try, calls by value -/
@[simp] theorem sTryKind_q {i : Nat} {sub : Str → Option Bool} {kd : Str → Option D} {body : SF} {ρ : Rho} {st : Sto} : sTryKind i sub kd body ρ st = match body ρ st with
  | .er x ρ' st' => match sub x.cls with
    | some true => if i < ρ'.length then match x.arg, kd x.cls with
      | none, some d => .rt d st'
      | _, _ => .no else .no
    | some false => .er x ρ' st'
    | none => .no
  | o => o := rfl
@[simp] theorem eCallV_q {tb : List (Str × Nat × Den)} {ff : EF} {fr : AF} {ρ : Rho} {st : Sto} : eCallV tb ff fr ρ st = (ff ρ st).bind fun g s1 => match g with
  | .gl x => match tb.lookup x with
    | some nd => (fr ρ s1).bind fun xs s2 => lenOk nd.1 nd.2 xs s2
    | none => .no
  | _ => .no := rfl
@[simp] theorem at1_0 {α : Type} {a : α} : L2.atI [a] 0 = some a := rfl
@[simp] theorem at2_0 {α : Type} {a b : α} : L2.atI [a, b] 0 = some a := rfl
@[simp] theorem at2_1 {α : Type} {a b : α} : L2.atI [a, b] 1 = some b := rfl
@[simp] theorem at3_0 {α : Type} {a b c : α} : L2.atI [a, b, c] 0 = some a := rfl
@[simp] theorem at3_1 {α : Type} {a b c : α} : L2.atI [a, b, c] 1 = some b := rfl
@[simp] theorem at3_2 {α : Type} {a b c : α} : L2.atI [a, b, c] 2 = some c := rfl
@[simp] theorem at4_0 {α : Type} {a b c d : α} : L2.atI [a, b, c, d] 0 = some a := rfl
@[simp] theorem at4_1 {α : Type} {a b c d : α} : L2.atI [a, b, c, d] 1 = some b := rfl
@[simp] theorem at4_2 {α : Type} {a b c d : α} : L2.atI [a, b, c, d] 2 = some c := rfl
@[simp] theorem at4_3 {α : Type} {a b c d : α} : L2.atI [a, b, c, d] 3 = some d := rfl
theorem atI_map {α β : Type} (f : α → β) (xs : List α) (i : Int) : L2.atI (xs.map f) i = (L2.atI xs i).map f := by
  unfold L2.atI
  rw [List.length_map]
  cases L2.ixN xs.length i <;> simp
theorem atI_pre {α : Type} {xs : List α} {n : Int} (h1 : 1 ≤ n) (h2 : n ≤ xs.length) : ∃ x, x ∈ xs ∧ xs[(n - 1).toNat]? = some x ∧ L2.atI xs (n - 1) = some x := by
  have hl : (n - 1).toNat < xs.length := by omega
  refine ⟨xs[(n - 1).toNat], List.getElem_mem _, List.getElem?_eq_getElem hl, ?_⟩
  unfold L2.atI L2.ixN
  rw [if_pos (by omega), if_pos (by omega)]
  exact List.getElem?_eq_getElem hl
/-! ### repr -/
mutual
/-- data whose text is short: whole numbers of few digits, texts that can stand -/
def smallP : PyData → Bool
  | .none => true
  | .bool _ => true
  | .int i => decide (i.natAbs < 10 ^ 12)
  | .str x => PyData.strOk x
  | .list xs => smallPs xs
  | .tuple xs => smallPs xs
  | .dict _ => false
def smallPs : List PyData → Bool
  | [] => true
  | x :: xs => smallP x && smallPs xs
end
mutual
theorem small_of : ∀ d : PyData, smallP d = true → d.canLay0 = true ∧ d.showable = true ∧ d.intsShort 13 = true
  | .none, _ => ⟨rfl, rfl, rfl⟩
  | .bool _, _ => ⟨rfl, rfl, rfl⟩
  | .int i, h => by
    simp only [smallP, decide_eq_true_eq] at h
    have q := int_text_length_le10 (a := i) (k := 12) (by decide) h
    refine ⟨rfl, ?_, ?_⟩
    · simp only [PyData.showable, decide_eq_true_eq]
      by_cases z : i.natAbs = 0
      · rw [z]; decide
      · rw [Nat.log2_lt z]
        exact Nat.lt_of_lt_of_le h (by decide +kernel)
    · simp only [PyData.intsShort, PyData.shown, decide_eq_true_eq]
      exact decide_eq_true (Nat.le_trans (Nat.le_of_eq (PySem.ofString_length _)) q)
  | .str x, h => ⟨by simpa only [smallP, PyData.canLay0] using h, rfl, rfl⟩
  | .list xs, h => by
    have := smalls_of xs (by simpa only [smallP] using h)
    exact ⟨by simpa only [PyData.canLay0] using this.1, by simpa only [PyData.showable] using this.2.1, by simpa only [PyData.intsShort] using this.2.2⟩
  | .tuple xs, h => by
    have := smalls_of xs (by simpa only [smallP] using h)
    exact ⟨by simpa only [PyData.canLay0] using this.1, by simpa only [PyData.showable] using this.2.1, by simpa only [PyData.intsShort] using this.2.2⟩
  | .dict _, h => by simp only [smallP] at h; cases h
theorem smalls_of : ∀ xs : List PyData, smallPs xs = true → PyData.canLayAll0 xs = true ∧ PyData.showableAll xs = true ∧ PyData.intsShortAll 13 xs = true
  | [], _ => ⟨rfl, rfl, rfl⟩
  | x :: xs, h => by
    simp only [smallPs, Bool.and_eq_true] at h
    have a := small_of x h.1
    have b := smalls_of xs h.2
    simp only [PyData.canLayAll0, PyData.showableAll, PyData.intsShortAll, Bool.and_eq_true]
    exact ⟨⟨a.1, b.1⟩, ⟨a.2.1, b.2.1⟩, ⟨a.2.2, b.2.2⟩⟩
end
theorem weight_int {i : Int} (h : i.natAbs < 10 ^ 12) : (PyData.int i).weight ≤ 41 := by
  simp only [PyData.weight]
  split
  · omega
  · next z =>
    have z : i.natAbs ≠ 0 := fun e => z (by simp [Int.natAbs_eq_zero.mp e])
    have := (Nat.log2_lt (k := 40) z).mpr (Nat.lt_of_lt_of_le h (by decide))
    omega
theorem gRepr_of {d : D} {st : Sto} (hm : muD d = false) (c : smallP (toP d) = true) (e : (toP d).depth ≤ 64) (w : (toP d).weight ≤ 2 ^ 20) : gRepr st [d] = some (.str (toP d).shown) := by
  have r : rsD st d = d := by cases d <;> first | rfl | (simp [muD] at hm)
  obtain ⟨c1, c2, c3⟩ := small_of _ c
  have f := PyData.shown_fits (B := 13) (by decide) (by decide) (PyData.leavesShort_of_canLay0 13 _ c1 c3) w
  simp only [gRepr, r, c1, c2, e, f, and_self, if_true]
theorem repr_int {i : Int} {st : Sto} (h : i.natAbs < 10 ^ 12) : gRepr st [.int i] = some (.str (toP (.int i)).shown) :=
  gRepr_of rfl (by simp only [toP, smallP]; exact decide_eq_true h) (by simp [toP, PyData.depth]) (by have := weight_int h; simp only [toP]; omega)
theorem run_seq {f g : SF} {ρ ρ' : Rho} {st st' : Sto} {r : SR} (h : f ρ st = .nx ρ' st') (k : g ρ' st' = r) : sSeq f g ρ st = r := by
  rw [sSeq_q, h]; exact k
theorem run_ret {f g : SF} {ρ : Rho} {st st' : Sto} {d : D} (h : f ρ st = .rt d st') : sSeq f g ρ st = .rt d st' := by
  rw [sSeq_q, h]
theorem den_rt {n : Nat} {b : SF} {ds : List D} {st st' : Sto} {d : D} (hm : muD d = false) (hl : st'.length = st.length) (h : b (ds.map some ++ List.replicate (n - ds.length) none) st = .rt d st') : denOf n false b ds st = .ok d st' := by
  rw [denOf_q, h, endR_rt, exitD_d hm, ← hl, List.take_length]
theorem den_rt' {n : Nat} {b : SF} {ds : List D} {st' : Sto} {x : Bool} (h : b (ds.map some ++ List.replicate (n - ds.length) none) [] = .rt (.bl x) st') : denOf n false b ds [] = .ok (.bl x) [] := by
  rw [denOf_q, h, endR_rt]; rfl
/-! ### layer J -/
section
variable {fa fb : EF} {fr : AF} {ρ : Rho} {st : Sto}
@[simp] theorem aStar_q : aStar fa fr ρ st = (fa ρ st).bind fun x s1 => match seqD s1 x with
  | some ds => (fr ρ s1).bind fun xs s2 => .ok (ds ++ xs) s2
  | none => .no := rfl
@[simp] theorem tChnN_q {l : List (G2b × EF)} : tChnN fa l ρ st = (fa ρ st).bind fun x s1 => chnR l x ρ s1 := rfl
@[simp] theorem eChnN_q {l : List (G2b × EF)} : eChnN fa l ρ st = (fa ρ st).bind fun x s1 => (chnR l x ρ s1).bind fun b s2 => .ok (.bl b) s2 := rfl
@[simp] theorem chnR_nil {y : D} : chnR [] y ρ st = .ok true st := rfl
theorem chnR_le {f : EF} {l : List (G2b × EF)} {i j : Int} (h : f ρ st = .ok (.int j) st) : chnR ((gLe, f) :: l) (.int i) ρ st = if i ≤ j then chnR l (.int j) ρ st else .ok false st := by
  by_cases q : i ≤ j <;> simp [chnR, h, q]
@[simp] theorem gKdIn_str {neg : Bool} {nm z : Str} {tbl : List (Str × Int)} : gKdIn neg nm tbl st (.str z) (.gl nm) = some (if neg then !(tbl.lookup z).isSome else (tbl.lookup z).isSome) := by
  simp [gKdIn]
@[simp] theorem gKdIx_str {nm z : Str} {tbl : List (Str × Int)} : gKdIx nm tbl st (.gl nm) (.str z) = (tbl.lookup z).map .int := by
  simp [gKdIx]
@[simp] theorem eTupRg1_q : eTupRg1 fa ρ st = (fa ρ st).bind fun x s1 => match x with
  | .int j => if 0 ≤ j ∧ j.toNat ≤ sizeLine then .ok (.tup (rngD 0 j.toNat)) s1 else .no
  | _ => .no := rfl
@[simp] theorem eLstRg1_q : eLstRg1 fa ρ st = (fa ρ st).bind fun x s1 => match x with
  | .int j => if 0 ≤ j ∧ j.toNat ≤ sizeLine then .ok (.lst (rngD 0 j.toNat)) s1 else .no
  | _ => .no := rfl
end
/-! ### a comprehension whose test draws -/
section
variable {α : Type} {h : α → D} {xs : List α} {fi : IF} {t : Tg} {tt : TF} {fe : EF} {vs : List Nat} {ρ : Rho} {st : Sto} {n : Nat}
theorem lcD_filter {L : Nat} (hn : n < L) (hb : ∀ x ∈ xs, ∀ s, Dr n s → ∃ ρ1, gT s t (h x) (wipeR ρ vs) = some ρ1 ∧ ∃ b s', tt ρ1 s = .ok b s' ∧ Stp n s s' ∧ ∀ s2, fe ρ1 s2 = .ok (h x) s2) (hm : ∀ y, muD (h y) = false) :
    ∀ (k : Nat) (acc : List D) (s : Sto), acc.length ≤ k → s[L]? = some (.ml acc) → s.length = L + 1 → Dr n s → ∃ (ys : List α) (s' : Sto), lcD t tt fe vs L k (xs.map h) ρ s = .ok () s' ∧ s'[L]? = some (.ml (acc ++ ys.map h)) ∧
      ys.Sublist xs ∧ Dr n s' ∧ s'.length = s.length ∧ ∀ m, m ≠ n → m ≠ L → s'[m]? = s[m]? := by
  induction xs with
  | nil => intro k acc s _ e hl d; exact ⟨[], s, by simp [lcD], by simpa using e, List.Sublist.refl _, d, rfl, fun _ _ _ => rfl⟩
  | cons x xs ih =>
    intro k acc s hk hL hl d
    obtain ⟨ρ1, e1, b, s1, e2, sp, e3⟩ := hb x List.mem_cons_self s d
    have hget : s1[L]? = some (.ml acc) := (sp.ne L (by omega)).trans hL
    have hLl : L < s1.length := by rw [sp.len]; omega
    have rest := ih (fun y hy => hb y (List.mem_cons_of_mem _ hy))
    cases b with
    | false =>
      simp only [List.map_cons, lcD, e1, e2, Bool.false_eq_true, if_false]
      obtain ⟨ys, s2, q1, q2, q3, q5, q6, q7⟩ := rest (k + 1) acc s1 (by omega) hget (by rw [sp.len, hl]) sp.dr
      exact ⟨ys, s2, q1, q2, q3.cons x, q5, by rw [q6, sp.len], fun m h1 h2 => by rw [q7 m h1 h2, sp.ne m h1]⟩
    | true =>
      simp only [List.map_cons, lcD, e1, e2, if_true, e3, hget, hm x, hk, and_self]
      obtain ⟨ys, s2, q1, q2, q3, q5, q6, q7⟩ := rest (k + 1) (acc ++ [h x]) (s1.set L (.ml (acc ++ [h x]))) (by simp; omega) (by rw [List.getElem?_set_self hLl]) (by rw [List.length_set, sp.len, hl])
        (by obtain ⟨ds, e⟩ := sp.dr; exact ⟨ds, by rw [List.getElem?_set_ne (by omega)]; exact e⟩)
      refine ⟨x :: ys, s2, q1, by simpa using q2, q3.cons_cons x, q5, by rw [q6, List.length_set, sp.len], fun m h1 h2 => ?_⟩
      rw [q7 m h1 h2, List.getElem?_set_ne (Ne.symm h2), sp.ne m h1]
theorem Stp.cut {a b s : Sto} (h0 : Stp n a b) (dr : Dr n s) (hl : b.length ≤ s.length) (hne : ∀ m, m ≠ n → m < b.length → s[m]? = b[m]?) : Stp n a (s.take b.length) := by
  have hn := h0.dr.lt
  refine h0.trans ⟨?_, by simp; omega, fun m hm => ?_⟩
  · obtain ⟨ds, e⟩ := dr
    exact ⟨ds, by rw [List.getElem?_take_of_lt hn]; exact e⟩
  · by_cases hlt : m < b.length
    · rw [List.getElem?_take_of_lt hlt, hne m hm hlt]
    · rw [List.getElem?_eq_none (by simp; omega), List.getElem?_eq_none (by omega)]
theorem lc_filter {s1 : Sto} (hfi : fi ρ st = .ok (xs.map h) s1) (h0 : Stp n st s1) (hb : ∀ x ∈ xs, ∀ s, Dr n s → ∃ ρ1, gT s t (h x) (wipeR ρ vs) = some ρ1 ∧ ∃ b s', tt ρ1 s = .ok b s' ∧ Stp n s s' ∧ ∀ s2, fe ρ1 s2 = .ok (h x) s2) (hm : ∀ y, muD (h y) = false) :
    ∃ (ys : List α) (st' : Sto), eLc false fi t tt fe vs ρ st = .ok (.lst (ys.map h)) st' ∧ ys.Sublist xs ∧ Stp n st st' := by
  have hn := h0.dr.lt
  obtain ⟨ys, s2, q1, q2, q3, q5, q6, q7⟩ := lcD_filter (L := s1.length) hn hb hm 0 [] (s1 ++ [.ml []]) (Nat.le_refl _) (by simp) (by simp) h0.dr.app
  have hl : s2.length = s1.length + 1 := by rw [q6]; simp
  refine ⟨ys, s2.take s1.length, ?_, q3, h0.cut q5 (by omega) fun m h1 h2 => ?_⟩
  · simp only [eLc, hfi, R.bind, q1, lcEnd, q2, List.nil_append]
    simp
  · rw [q7 m h1 (by omega), List.getElem?_append_left h2]
end
theorem add_step {i : Nat} {fb : EF} {ρ : Rho} {st : Sto} {A B : List D} (h : ρ[i]? = some (some (.lst A))) (hb : fb ρ st = .ok (.lst B) st) (hl : A.length + B.length ≤ sizeLine) : sAsg (.nm i) (eOp2 gAdd (eVar i) fb) ρ st = .nx (ρ.set i (some (.lst (A ++ B)))) st := by
  simp only [sAsg_q, eOp2_q, eVar_q, h, R.bind, hb, gAdd_lst, if_pos hl, bindS_ok, gT_nm]
theorem eTupRg1_ok {fa : EF} {ρ : Rho} {st : Sto} {j : Int} (h : fa ρ st = .ok (.int j) st) (h0 : 0 ≤ j) (h1 : j.toNat ≤ 16777216) : eTupRg1 fa ρ st = .ok (.tup (rngD 0 j.toNat)) st := by
  simp only [eTupRg1, h, R.bind]
  exact if_pos ⟨h0, by rw [sizeLine_eq]; exact h1⟩
end Fn

set_option Elab.async false
set_option linter.all false
set_option autoImplicit false
set_option maxRecDepth 100000
set_option maxHeartbeats 4000000
/-! Layer Fn: more for the plain side: loops by a step, comprehensions with a test, slices. -/
namespace Fn
open PySem PySem.Spec PyProof.Rows L2
theorem cut_mid (xs : List D) (i j : Nat) : cutD xs (some (i : Int)) (some (j : Int)) = (xs.drop i).take (j - i) := by
  have e1 : HT.sIx xs.length 0 (some (i : Int)) = min i xs.length := by
    simp only [HT.sIx]
    first
    | omega
    | (rw [if_neg (by omega)]; omega)
    | (split <;> omega)
    | (simp; omega)
  have e2 : HT.sIx xs.length xs.length (some (j : Int)) = min j xs.length := by
    simp only [HT.sIx]
    first
    | omega
    | (rw [if_neg (by omega)]; omega)
    | (split <;> omega)
    | (simp; omega)
  unfold cutD
  rw [e1, e2]
  by_cases hi : i ≤ xs.length
  · have m1 : min i xs.length = i := by omega
    rw [m1]
    by_cases hj : j ≤ xs.length
    · have m2 : min j xs.length = j := by omega
      rw [m2]
    · have m2 : min j xs.length = xs.length := by omega
      rw [m2, List.take_of_length_le (by simp), List.take_of_length_le (by simp; omega)]
  · have m1 : min i xs.length = xs.length := by omega
    rw [m1, List.drop_of_length_le (Nat.le_refl _), List.drop_of_length_le (by omega)]
    simp
@[simp] theorem sliceD_lst {st : Sto} {z : List D} {lo hi : Option Int} : sliceD st (.lst z) lo hi = some (.lst (cutD z lo hi)) := rfl
theorem rngD_nat (n : Nat) : rngD 0 n = (List.range n).map fun i : Nat => D.int (i : Int) := rngD_eq n
theorem gIx_at {α : Type} (f : α → D) (xs : List α) (i : Nat) (h : i < xs.length) (st : Sto) : gIx st (.tup (xs.map f)) (.int i) = some (f xs[i]) := by
  show L2.atI _ _ = _
  rw [atI_map]
  unfold L2.atI L2.ixN
  rw [if_pos (by omega), if_pos (by omega)]
  have : (i : Int).toNat = i := by omega
  simp [this, List.getElem?_eq_getElem h]
theorem gIx_atL {α : Type} (f : α → D) (xs : List α) (i : Nat) (h : i < xs.length) (st : Sto) : gIx st (.lst (xs.map f)) (.int i) = some (f xs[i]) := gIx_at f xs i h st
theorem gAll_bls (bs : List Bool) (st : Sto) : gAll st [.lst (bs.map .bl)] = some (.bl (bs.all id)) := gAll_map id bs st
theorem gAny_bls (bs : List Bool) (st : Sto) : gAny st [.lst (bs.map .bl)] = some (.bl (bs.any id)) := gAny_map id bs st
/-! a loop by its step; `none`: the def returns -/
def foldO {α σ : Type} (f : α → σ → Option σ) : List α → σ → Option σ
  | [], a => some a
  | x :: xs, a => match f x a with
    | some a' => foldO f xs a'
    | none => none
theorem forD_fold {α σ : Type} {h : α → D} {f : α → σ → Option σ} {I : σ → Rho → Prop} {t : Tg} {body : SF} {st : Sto} {d : D} :
    ∀ {xs : List α} {a : σ} {ρ : Rho}, (∀ x ∈ xs, ∀ a ρ, I a ρ → ∃ ρ1, gT st t (h x) ρ = some ρ1 ∧ match f x a with
      | some a' => ∃ ρ2, (body ρ1 st = .nx ρ2 st ∨ body ρ1 st = .ct ρ2 st) ∧ I a' ρ2
      | none => body ρ1 st = .rt d st) → I a ρ → match foldO f xs a with
    | some a' => ∃ ρ', forD t body (xs.map h) ρ st = .nx ρ' st ∧ I a' ρ'
    | none => forD t body (xs.map h) ρ st = .rt d st
  | [], a, ρ, _, i => ⟨ρ, rfl, i⟩
  | x :: xs, a, ρ, hb, i => by
    obtain ⟨ρ1, e1, e2⟩ := hb x List.mem_cons_self a ρ i
    unfold foldO
    cases q : f x a with
    | none =>
      rw [q] at e2
      simp only [List.map_cons, forD, e1, e2]
    | some a' =>
      rw [q] at e2
      obtain ⟨ρ2, e3, i2⟩ := e2
      have := forD_fold (xs := xs) (fun y hy => hb y (List.mem_cons_of_mem _ hy)) i2
      rcases e3 with e3 | e3 <;> simp only [List.map_cons, forD, e1, e3] <;> exact this
/-- a loop that looks, and returns at the first that fails -/
theorem forD_look {α : Type} {h : α → D} {p : α → Bool} {I : Rho → Prop} {t : Tg} {body : SF} {st : Sto} {d : D} :
    ∀ {xs : List α} {ρ : Rho}, (∀ x ∈ xs, ∀ ρ, I ρ → ∃ ρ1, gT st t (h x) ρ = some ρ1 ∧ (p x = true → ∃ ρ2, (body ρ1 st = .nx ρ2 st ∨ body ρ1 st = .ct ρ2 st) ∧ I ρ2) ∧
      (p x = false → body ρ1 st = .rt d st)) → I ρ → (xs.all p = true → ∃ ρ', forD t body (xs.map h) ρ st = .nx ρ' st ∧ I ρ') ∧ (xs.all p = false → forD t body (xs.map h) ρ st = .rt d st)
  | [], ρ, _, i => ⟨fun _ => ⟨ρ, rfl, i⟩, fun h => by cases h⟩
  | x :: xs, ρ, hb, i => by
    obtain ⟨ρ1, e1, e2, e3⟩ := hb x List.mem_cons_self ρ i
    cases q : p x with
    | false =>
      simp only [List.all_cons, q, Bool.false_and, Bool.false_eq_true, false_implies, true_and, List.map_cons, forD, e1, e3 q]
      intro _; trivial
    | true =>
      obtain ⟨ρ2, e4, i2⟩ := e2 q
      have := forD_look (xs := xs) (fun y hy => hb y (List.mem_cons_of_mem _ hy)) i2
      rcases e4 with e4 | e4 <;> simp only [List.all_cons, q, Bool.true_and, List.map_cons, forD, e1, e4] <;> exact this
theorem range_of {fa : EF} {ρ : Rho} {st : Sto} {i : Int} (n : Nat) (h : fa ρ st = .ok (.int i) st) (e : i.toNat = n) (hi : -1000000 ≤ i) (hn : n ≤ 1000000) : iRange1 (aCons fa aNil) ρ st = .ok ((List.range n).map fun i : Nat => D.int (i : Int)) st := by
  simp only [iRange1_q, aCons_q, aNil_q, h, R.bind]
  rw [if_pos ⟨by rw [sizeLine_eq]; omega, by omega⟩, e, rngD_nat]
theorem for_nx {fi : IF} {t : Tg} {body : SF} {ρ ρ' : Rho} {st st' : Sto} {items : List D} (h : fi ρ st = .ok items st) (k : forD t body items ρ st = .nx ρ' st') : sFor fi t body ρ st = .nx ρ' st' := by
  rw [sFor_q, h]; exact k
theorem for_rt {fi : IF} {t : Tg} {body : SF} {ρ : Rho} {st st' : Sto} {items : List D} {d : D} (h : fi ρ st = .ok items st) (k : forD t body items ρ st = .rt d st') : sFor fi t body ρ st = .rt d st' := by
  rw [sFor_q, h]; exact k
@[simp] theorem gIsNot_non {st : Sto} : gIsNot st .non .non = some false := rfl
@[simp] theorem gIsNot_int {st : Sto} {i : Int} : gIsNot st (.int i) .non = some true := rfl
@[simp] theorem gIsNot_tup {st : Sto} {i : List D} : gIsNot st (.tup i) .non = some true := rfl
@[simp] theorem gIs_non {st : Sto} : gIs st .non .non = some true := rfl
@[simp] theorem gIs_int {st : Sto} {i : Int} : gIs st (.int i) .non = some false := rfl
@[simp] theorem gIs_tup {st : Sto} {i : List D} : gIs st (.tup i) .non = some false := rfl
@[simp] theorem big_24 : big64 24 = true := by decide
/-- a loop over range(N) whose body draws: the store may change -/
theorem forD_rng {t : Tg} {body : SF} {I : Nat → Rho → Sto → Prop} {J : Rho → Sto → Prop} {N : Nat} (hb : ∀ k ρ s, k < N → I k ρ s → ∃ ρ1, gT s t (.int (k : Int)) ρ = some ρ1 ∧ ((∃ ρ2 s2, (body ρ1 s = .nx ρ2 s2 ∨ body ρ1 s = .ct ρ2 s2) ∧ I (k + 1) ρ2 s2) ∨ ∃ ρ2 s2, body ρ1 s = .bk ρ2 s2 ∧ J ρ2 s2)) (hj : ∀ ρ s, I N ρ s → J ρ s) :
    ∀ (m k : Nat) ρ s, k + m = N → I k ρ s → ∃ ρ' s', forD t body ((List.range' k m).map fun i : Nat => D.int (i : Int)) ρ s = .nx ρ' s' ∧ J ρ' s'
  | 0, k, ρ, s, hN, h => ⟨ρ, s, rfl, hj ρ s (by rw [← hN]; exact h)⟩
  | m + 1, k, ρ, s, hN, h => by
    obtain ⟨ρ1, e1, h2⟩ := hb k ρ s (by omega) h
    rw [List.range'_succ]
    rcases h2 with ⟨ρ2, s2, e2, h3⟩ | ⟨ρ2, s2, e2, h3⟩
    · obtain ⟨ρ', s', q1, q2⟩ := forD_rng hb hj m (k + 1) ρ2 s2 (by omega) h3
      refine ⟨ρ', s', ?_, q2⟩
      rcases e2 with e2 | e2 <;> simp only [List.map_cons, forD, e1, e2] <;> exact q1
    · exact ⟨ρ2, s2, by simp only [List.map_cons, forD, e1, e2], h3⟩
theorem forD_rng0 {t : Tg} {body : SF} {I : Nat → Rho → Sto → Prop} {J : Rho → Sto → Prop} {N : Nat} {ρ : Rho} {s : Sto} (hb : ∀ k ρ s, k < N → I k ρ s → ∃ ρ1, gT s t (.int (k : Int)) ρ = some ρ1 ∧ ((∃ ρ2 s2, (body ρ1 s = .nx ρ2 s2 ∨ body ρ1 s = .ct ρ2 s2) ∧ I (k + 1) ρ2 s2) ∨ ∃ ρ2 s2, body ρ1 s = .bk ρ2 s2 ∧ J ρ2 s2)) (hj : ∀ ρ s, I N ρ s → J ρ s) (h : I 0 ρ s) :
    ∃ ρ' s', forD t body ((List.range N).map fun i : Nat => D.int (i : Int)) ρ s = .nx ρ' s' ∧ J ρ' s' := by
  rw [List.range_eq_range']
  exact forD_rng hb hj N 0 ρ s (by omega) h
end Fn

set_option Elab.async false
set_option linter.all false
set_option autoImplicit false
set_option maxRecDepth 100000
set_option maxHeartbeats 4000000
/-! Layer Fn: enumerate; None in a list; the first None of a list. -/
namespace Fn
open PySem PySem.Spec PyProof.Rows L2
/-! ### enumerate(v) -/
theorem meets_enum1 {v : Value} {o : Obj} {Hb : Heap → Prop} (B : Begins v o Hb) :
    Meets (Builtin.«enumerate.__new__» ⟨[.type "enumerate", v], []⟩) (fun _ R s => Hb s.heap ∧
      R (.ok (.ret (.ref (s.heap.push o).objs.size))) { s with heap := (s.heap.push o).push { cls := .type "enumerate", data := .fields #[.none, .bool false, .ref s.heap.objs.size, rawInt 0, .none, .none] } }) :=
  .of_wp fun prog w A R s hyp => by
    obtain ⟨hp, g, d, tk, os⟩ := s
    obtain ⟨hb, h⟩ := hyp
    have hsub := sub_enumerate
    have goIt : ∀ {A' : Around} {E : Value → Shared → Prop} {Q : Value → Shared → Prop}, Q (.ref hp.objs.size) ⟨hp.push o, g, d, tk, os⟩ → wpAny (model prog w) A' (pyIter v) Q E ⟨hp, g, d, tk, os⟩ :=
      fun q => B.iter prog w _ _ ⟨hp, g, d, tk, os⟩ _ hb q
    wp_walk using goIt
    refine wpAny_stack_any fun stk => wpAny_pure ?_
    split
    · rename_i cc _ _ _ _ _
      cases (cc == Value.type "enumerate") <;> (wp_walk using goIt; exact ⟨_, rfl, h⟩)
    · wp_walk using goIt
      exact ⟨_, rfl, h⟩
section
variable {prog : Program} {w : World} {A : Around} {E : Value → Shared → Prop} {s : Shared}
theorem call_enum1 {v : Value} {o : Obj} {Hb : Heap → Prop} {Q : Value → Shared → Prop} (B : Begins v o Hb) (h1 : Hb s.heap)
    (h : ∀ h', IsEnum h' (s.heap.objs.size + 1) s.heap.objs.size 0 .none → h'.get? s.heap.objs.size = some o → h'.objs.size = s.heap.objs.size + 2 → (∀ b u, s.heap.get? b = some u → h'.get? b = some u) → Q (.ref (s.heap.objs.size + 1)) { s with heap := h' }) :
    wpAny (model prog w) A (call (.type "enumerate") [v]) Q E s := by
  refine callType_new F.called_enumerate (by decide) (F.typeCall_enumerate_1 _) (F.newCall_enumerate_1 _) (fun ob => F.args_object_init_2 ob _) F.entry_enumerate_new (meets_enum1 B) ⟨h1, ?_⟩
  have hz : (s.heap.push o).objs.size = s.heap.objs.size + 1 := Heap.size_push ..
  show _ ∧ _
  rw [hz]
  have isE : IsEnum ((s.heap.push o).push { cls := .type "enumerate", data := .fields #[.none, .bool false, .ref s.heap.objs.size, rawInt 0, .none, .none] }) (s.heap.objs.size + 1) s.heap.objs.size 0 .none := by
    have q := Heap.get?_push_size (s.heap.push o) (o := { cls := .type "enumerate", data := .fields #[.none, .bool false, .ref s.heap.objs.size, rawInt 0, .none, .none] }) rfl
    rw [hz] at q
    exact q
  exact ⟨⟨_, isE, rfl⟩, h _ isE (Heap.get?_push_of_some _ (Heap.get?_push_size _ B.free)) (by rw [Heap.size_push, hz]) fun b u x => Heap.get?_push_of_some _ (Heap.get?_push_of_some _ x)⟩
end
def ItE (K : PySem.W.Frag) (S : Src) : It :=
  ⟨fun i H => S.ok K H ∧ i < S.len, fun i H v H' => ∃ T x, v = .ref T ∧ H T = none ∧ H' = upd H T (.tup [.int (i : Nat), x]) ∧ S.at_ i = some x, fun i H => S.ok K H ∧ S.len ≤ i⟩
theorem turn_enumS {P : Program} {w : World} {K : PySem.W.Frag} {elts : List Expr} {kk N : Nat} {tpos : Pos} {S : Src} (f1 : ∀ b ∈ S.fp, b < N) :
    Turn P w K (.Tuple elts kk tpos) (ItE K S) [N + 1, N] (N + 1) (fun i h => (∃ old, IsEnum h (N + 1) N (i : Int) old) ∧ S.itSt h N i ∧ i ≤ S.len) where
  mem := by simp
  obj := fun i h ⟨⟨old, z1⟩, z2, _⟩ b hb => by
    simp only [List.mem_cons, List.not_mem_nil, or_false] at hb
    rcases hb with rfl | rfl
    · exact ⟨_, z1, fun v q => nomatch q⟩
    · exact S.itSt_obj z2
  keep := fun i h h' ⟨⟨old, z1⟩, z2, z3⟩ k => ⟨⟨old, k _ (by simp) _ z1⟩, S.itSt_keep z2 (k _ (by simp)), z3⟩
  item := by
    intro X hP hw hK hc i pins s σ H E I hf st hg
    subst hP hw hK
    obtain ⟨z1, z2, z3⟩ := st
    obtain ⟨o1, l1⟩ := hg
    have n1 : N ∉ S.fp := fun z => Nat.lt_irrefl _ (f1 _ z)
    have n2 : N + 1 ∉ N :: S.fp := fun z => by
      rcases List.mem_cons.mp z with q | q
      · exact absurd q (Nat.succ_ne_self N)
      · exact Nat.not_succ_lt_self (f1 _ q)
    obtain ⟨P1, St1, D1, t1, u1, r1⟩ := S.draws I o1 hc (A := X.A.in1) (I.ok.hd hc) n1
    have G := GoesN.enumFrom (elts := elts) (x1 := kk) (pos := tpos) 0 D1 (N + 1) (Nat.succ_ne_self N) n2 (by simp)
    refine G.goes i s (fun u s2 => ∃ x H', Inv X pins σ H' s2 ∧ RelV x u ∧ (ItE X.K S).yld i H x H' ∧ _ ∧ ∀ b ∈ _, H' b = none) E l1 ⟨by rw [Int.zero_add]; exact z1, t1 _ z2⟩ fun v h' tk ⟨T, t, x, ev, hT, p1, hI⟩ ⟨y1, y2⟩ hk _ => ?_
    subst ev
    rw [Int.zero_add] at hI y1
    obtain ⟨x', ex, rx⟩ := r1 _ _ p1
    have new : ObjOk X.prog X.w (upd H T (.tup [.int (i : Nat), x'])) h' T (.tup [.int (i : Nat), x']) := ⟨by show 2 ≤ sizeLine; decide, [.int (i : Nat) t, x], .cons ⟨t, rfl⟩ (.cons rx .nil), hI⟩
    have I1 : Inv X pins σ (upd H T (.tup [.int (i : Nat), x'])) { s with heap := h', toks := tk } :=
      I.turnedNew (t' := tk) (ch := [N + 1, N]) (fun c o hb q => hk c o hb q) hf hT new
    refine ⟨.ref T, _, I1, rfl, ⟨T, x', rfl, I.hok.fresh hT, rfl, ex⟩, ⟨y1, u1 _ _ y2, by omega⟩, fun c hcm => ?_⟩
    have hcT : c ≠ T := fun z => by
      subst z
      have hlt : c < s.heap.objs.size := by
        simp only [List.mem_cons, List.not_mem_nil, or_false] at hcm
        rcases hcm with q | q
        · obtain ⟨_, z1⟩ := z1; rw [q]; exact Heap.lt_size z1
        · obtain ⟨o, e, _⟩ := S.itSt_obj z2; rw [q]; exact Heap.lt_size e
      exact absurd hlt (Nat.not_lt.mpr hT)
    rw [upd_ne hcT]
    exact (hf c hcm).1
  done := by
    intro X hP hw hK hc i pins s σ H E I hf st hg
    subst hP hw hK
    obtain ⟨z1, z2, z3⟩ := st
    obtain ⟨o1, l1⟩ := hg
    have n1 : N ∉ S.fp := fun z => Nat.lt_irrefl _ (f1 _ z)
    have n2 : N + 1 ∉ N :: S.fp := fun z => by
      rcases List.mem_cons.mp z with q | q
      · exact absurd q (Nat.succ_ne_self N)
      · exact Nat.not_succ_lt_self (f1 _ q)
    obtain ⟨P1, St1, D1, t1, u1, r1⟩ := S.draws I o1 hc (A := X.A.in1) (I.ok.hd hc) n1
    have G := GoesN.enumFrom (elts := elts) (x1 := kk) (pos := tpos) 0 D1 (N + 1) (Nat.succ_ne_self N) n2 (by simp)
    have hi : i = S.len := by omega
    subst hi
    exact G.stops s (fun s1 => Inv X pins σ H s1) E ⟨by rw [Int.zero_add]; exact z1, t1 _ z2⟩ fun h' tk hk _ => I.turnedL (t' := tk) (ch := [N + 1, N]) (fun c o hb q => hk c o hb q) hf
  self := fun A i s Q E st h => let ⟨⟨_, he⟩, _⟩ := st; wpAny_pyIter_enum he h
def iEnumS (K : PySem.W.Frag) (ta : TA) : TI := fun σ H R => ta σ H fun vs H1 => ∃ (v1 : V) (S : Src), vs = [v1] ∧ (∀ u, RelV v1 u → S.val u) ∧ S.ok K H1 ∧ R (ItE K S) H1
theorem pi_enumS {X : Cx} {e : Expr} {ta : TA} {p pos tpos : Pos} {elts : List Expr} {kk : Nat} (hg : Gl X "enumerate") (hm : X.mg "enumerate" = none) (ha : PA X [e] ta) (hs : starEach [e] X.env = (false, eval e X.env) :: starEach [] X.env := by rfl) :
    PI X (.Tuple elts kk tpos) (.Call (.Name "enumerate" p) [e] [] pos) (iEnumS X.K ta) := by
  constructor
  intro pins s σ H R I h
  refine Call_ (ld_blt I hg hm PyProof.Rows.boot_enumerate (PyProof.Rows.callWith_type1 (thn (ha.run pos pins s σ H _ I h) ?_) hs rfl))
  rintro us s1 ⟨vs, H1, I1, r1, v1, S, rfl, w1, o1, q⟩
  obtain ⟨u1, rfl, q1⟩ : ∃ u, us = [u] ∧ RelV v1 u := by
    cases r1 with
    | cons a b => cases b; exact ⟨_, rfl, a⟩
  obtain ⟨b1, Hb1, B1, k1, i1, f1⟩ := S.begins I1 o1 (w1 _ q1)
  refine call_enum1 B1 k1 fun h' he hit hsz hk => wpAny_pyIter_enum he ?_
  have I2 : Inv X pins σ H1 { s1 with heap := h' } := I1.kept (t' := s1.toks) hk
  refine ⟨_, _, _, _, H1, rfl, I2, turn_enumS f1, ⟨⟨_, he⟩, i1 _ _ hit, Nat.zero_le _⟩, fun c hc => ?_, q⟩
  have hle : s1.heap.objs.size ≤ c := by
    simp only [List.mem_cons, List.not_mem_nil, or_false] at hc
    rcases hc with z | z <;> rw [z] <;> first | exact Nat.le_refl _ | exact Nat.le_add_right _ _
  exact I1.fpOk hle (I1.hok.fresh hle)
def enumD : Nat → List D → List D
  | _, [] => []
  | i, x :: xs => .tup [.int (i : Nat), x] :: enumD (i + 1) xs
theorem enumD_get : ∀ {xs : List D} {j i : Nat}, (enumD j xs)[i]? = (xs[i]?).map fun x => .tup [.int ((j + i : Nat) : Int), x]
  | [], j, i => by simp [enumD]
  | x :: xs, j, 0 => by simp [enumD]
  | x :: xs, j, i + 1 => by
    simp only [enumD, List.getElem?_cons_succ]
    rw [enumD_get]
    have : j + 1 + i = j + (i + 1) := by omega
    rw [this]
theorem enumD_len : ∀ {xs : List D} {j : Nat}, (enumD j xs).length = xs.length
  | [], j => rfl
  | x :: xs, j => by simp [enumD, enumD_len]
section
variable {X : Cx} {W : WX} {e : Expr} {fr : AF} {pos p tpos : Pos} {elts : List Expr} {kk : Nat}
def iEnum (fr : AF) : IF := fun ρ st => (fr ρ st).bind fun xs s1 => match xs with
  | [x] => match srcD s1 x with
    | some ds => .ok (enumD 0 ds) s1
    | none => .no
  | _ => .no
theorem ix_enum (hm : X.mg "enumerate" = none) (ha : AX X W [e] fr) (hg : Gl X "enumerate" := by rfl) (hs : starEach [e] X.env = (false, eval e X.env) :: starEach [] X.env := by rfl) :
    IX X W (.Tuple elts kk tpos) (.Call (.Name "enumerate" p) [e] [] pos) (iEnum fr) :=
  (pi_enumS hg hm ha hs).imp fun σ H Q ⟨μ, ρ, st, r, q⟩ => ⟨μ, ρ, st, r, q.bind fun xs s1 vs H1 μ1 eq a1 rx q1 => by
    split at q1
    · next x _ =>
      obtain ⟨v, rfl, rv⟩ := RAs.one rx
      split at q1
      · next ds h1 =>
        obtain ⟨S1, w1, l1, z1, k1⟩ := src_of a1.sto rv h1
        refine ⟨v, S1, rfl, w1, (k1 _ _ _ (.refl a1.sto)).1, q1 _ H1 μ1 (.refl a1.sto) ⟨by rw [enumD_len]; exact z1, fun μ2 H2 st2 a2 => ⟨fun i d hd => ?_, fun i hi => ?_⟩⟩⟩
        · obtain ⟨ok1, g1⟩ := k1 _ _ _ a2
          rw [enumD_get] at hd
          obtain ⟨x', hx, rfl⟩ := Option.map_eq_some_iff.mp hd
          obtain ⟨x1, e1, r1⟩ := g1 i x' hx
          refine ⟨⟨ok1, by rw [l1]; exact (List.getElem?_eq_some_iff.mp hx).1⟩, fun z H' ⟨T, x2, ez, hT, eH, e3⟩ => ?_⟩
          subst ez; subst eH
          rw [e1] at e3; cases e3
          obtain ⟨a3, r3⟩ := Aft.tup (ds := [.int (i : Nat), x']) (vs := [.int (i : Nat), x1]) a2.sto hT (by show 2 ≤ sizeLine; decide) (.cons (.int _) (.cons r1 .nil))
          rw [Nat.zero_add]
          exact ⟨μ2, a3, r3⟩
        · rw [enumD_len] at hi
          exact ⟨(k1 _ _ _ a2).1, by omega⟩
      · exact q1.elim
    · exact q1.elim⟩
end
/-! ### None in a list, its first place -/
section
variable {K : PySem.W.Frag} {mg : MG}
theorem eqv_none (d : D) : PyData.eqv (toP d) .none = isNonD d := by
  cases d <;> simp [toP, isNonD, PyData.eqv]
theorem any_non (ds : List D) : ((toPs ds).any fun z => PyData.eqv z .none) = ds.any isNonD := by
  induction ds with
  | nil => rfl
  | cons d ds ih => simp only [toPs, List.any_cons, eqv_none, ih]
/-- a tree of data of bounded depth -/
def shD (d : D) : Bool := SeqAt.shaped (toP d)
def gNoIn (neg : Bool) : G2b := fun st x y => match x with
  | .non => match lstD st y with
    | some ds => if shD (.lst ds) = true then some (if neg then !ds.any isNonD else ds.any isNonD) else none
    | none => none
  | _ => none
theorem lst_dp {μ : Wd} {H : Hp} {st : Sto} {y : D} {u : V} {ds : List D} (s : RSt K mg μ H st) (r : RA K mg μ H y u) (e : lstD st y = some ds) (c : shD (.lst ds) = true) : Dp K H u (toP (.lst ds)) ∧ ∃ a, u = .ref a := by
  obtain ⟨a, vs, rfl, h1, h2, h3⟩ := lst_of s r e
  have hc := SeqAt.canLay_of_shaped c
  simp only [toP, PyData.canLay0] at hc
  simp only [toP]
  exact ⟨.lst (.of h1) (dps_of s h3 hc), a, rfl⟩
theorem cm_noIn : Cm2 K mg (rInD K) (gNoIn false) := fun μ H st x y v u z Q s rx ry e q => by
  unfold gNoIn at e
  split at e
  · split at e
    · next ds h =>
      split at e
      · next c =>
        cases e
        have rx : v = .non := by simpa only [RA, RD] using rx
        subst rx
        refine ⟨.none, toPs ds, .non, (lst_dp s ry h c).1, rfl, c, ?_⟩
        rw [any_non]; exact q
      · cases e
    · cases e
  · cases e
theorem cm_noNotIn : Cm2 K mg (rNotInD K) (gNoIn true) := fun μ H st x y v u z Q s rx ry e q => by
  unfold gNoIn at e
  split at e
  · split at e
    · next ds h =>
      split at e
      · next c =>
        cases e
        have rx : v = .non := by simpa only [RA, RD] using rx
        subst rx
        refine ⟨.none, toPs ds, .non, (lst_dp s ry h c).1, rfl, c, ?_⟩
        rw [any_non]; exact q
      · cases e
    · cases e
  · cases e
def firstNon : List D → Nat → Option Nat
  | [], _ => none
  | d :: ds, i => if isNonD d = true then some i else firstNon ds (i + 1)
theorem firstNon_spec : ∀ {ds : List D} {i j : Nat}, firstNon ds i = some j → i ≤ j ∧ (∃ d, ds[j - i]? = some d ∧ isNonD d = true) ∧ ∀ m d, m < j - i → ds[m]? = some d → isNonD d = false
  | [], i, j, h => by simp [firstNon] at h
  | d :: ds, i, j, h => by
    unfold firstNon at h
    split at h
    · next c => cases h; exact ⟨Nat.le_refl _, ⟨d, by simp, c⟩, fun m d hm => by omega⟩
    · next c =>
      obtain ⟨h1, ⟨d', h2, h3⟩, h4⟩ := firstNon_spec h
      refine ⟨by omega, ⟨d', ?_, h3⟩, fun m d2 hm hd => ?_⟩
      · have : j - i = (j - (i + 1)) + 1 := by omega
        rw [this]; simpa using h2
      · cases m with
        | zero => simp at hd; subst hd; simpa using c
        | succ m => exact h4 m d2 (by omega) (by simpa using hd)
theorem toPs_get : ∀ {ds : List D} {i : Nat}, (toPs ds)[i]? = (ds[i]?).map toP
  | [], i => by simp [toPs]
  | d :: ds, 0 => by simp [toPs]
  | d :: ds, i + 1 => by simp only [toPs, List.getElem?_cons_succ]; exact toPs_get
def gIndexNon : GM := fun st x xs => match lstD st x, xs with
  | some ds, [.non] => if shD (.lst ds) = true then (firstNon ds 0).map fun j => (.int (j : Nat), st) else none
  | _, _ => none
theorem mt_idxNon : MtA K mg (rIndexD K) gIndexNon := fun μ H st x xs v vs z st' Q s rx rxs e q => by
  unfold gIndexNon at e
  split at e
  · next ds h =>
    split at e
    · next c =>
      obtain ⟨j, h3, h4⟩ := Option.map_eq_some_iff.mp e
      cases h4
      obtain ⟨g1, ⟨d, g2, g3⟩, g4⟩ := firstNon_spec h3
      obtain ⟨u, rfl, ru⟩ := rxs.one
      have ru : u = .non := by simpa only [RA, RD] using ru
      subst ru
      obtain ⟨dp, a, rfl⟩ := lst_dp s rx h c
      refine ⟨a, .non, .none, toPs ds, j, toP d, rfl, rfl, dp, .non, c, rfl, ?_, ?_, fun m z' hm hz => ?_, q _ H μ (.refl s) (.of (.int _))⟩
      · rw [toPs_get, show ds[j]? = some d by simpa using g2]; rfl
      · rw [eqv_none]; exact g3
      · rw [toPs_get] at hz
        obtain ⟨d', hd, rfl⟩ := Option.map_eq_some_iff.mp hz
        rw [eqv_none]; exact g4 m d' (by simpa using hm) hd
    · cases e
  · cases e
end
section
variable {X : Cx} {W : WX} {a b o e : Expr} {fa fb fo : EF} {fr : AF} {pos p : Pos} {k : Nat}
theorem Room.units65 {k : Nat} {A : Around} (r : Room k A) : A.units + 65 < cLine := by have := r.un; omega
theorem x_noIn (hr : Room k X.A) (ha : EX X W a fa) (hb : EX X W b fb) (hm : behindInMarks .In b = false := by rfl) : EX X W (.Compare a [.In] [b] pos) (eCmp (gNoIn false) fa fb) := ex_cmp (op_inD (Room.units65 hr)) cm_noIn ha hb hm
theorem x_noNotIn (hr : Room k X.A) (ha : EX X W a fa) (hb : EX X W b fb) (hm : behindInMarks .NotIn b = false := by rfl) : EX X W (.Compare a [.NotIn] [b] pos) (eCmp (gNoIn true) fa fb) := ex_cmp (op_notInD (Room.units65 hr)) cm_noNotIn ha hb hm
theorem t_noIn (hr : Room k X.A) (ha : EX X W a fa) (hb : EX X W b fb) (hm : behindInMarks .In b = false := by rfl) : TX X W (.Compare a [.In] [b] pos) (tCm (gNoIn false) fa fb) := tx_cmp (op_inD (Room.units65 hr)) cm_noIn ha hb hm
theorem t_noNotIn (hr : Room k X.A) (ha : EX X W a fa) (hb : EX X W b fb) (hm : behindInMarks .NotIn b = false := by rfl) : TX X W (.Compare a [.NotIn] [b] pos) (tCm (gNoIn true) fa fb) := tx_cmp (op_notInD (Room.units65 hr)) cm_noNotIn ha hb hm
theorem x_indexNon (hr : Room k X.A) (ho : EX X W o fo) (ha : AX X W [e] fr) (hbase : attributeBase o "index" X.env (eval o X.env) = eval o X.env := by rfl)
    (hfew : ((backTo pos (starEach [e] X.env)).all (fun x => !x.1) && (backToKw pos (keywordEach [] X.env)).all (fun x => x.1.isSome)
      && decide ([e].length + ([] : List Keyword).length + (if ([] : List Keyword).isEmpty then 0 else 1) < 30)) = true := by rfl)
    (hline : (p.endLine == pos.line) = true := by rfl) (hs : starEach [e] X.env = (false, eval e X.env) :: starEach [] X.env := by rfl) : EX X W (.Call (.Attribute o "index" p) [e] [] pos) (eMt gIndexNon fo fr) :=
  ex_mt PySem.F.slot_list_index PySem.F.type_list_index (mt_indexD (Room.units65 hr)) mt_idxNon ho ha hbase hfew hline hs rfl
end
@[simp] theorem iEnum_q {fr : AF} {ρ : Rho} {st : Sto} : iEnum fr ρ st = (fr ρ st).bind fun xs s1 => match xs with
  | [x] => match srcD s1 x with
    | some ds => .ok (enumD 0 ds) s1
    | none => .no
  | _ => .no := rfl
theorem noIn_lst {neg : Bool} {st : Sto} {ds : List D} (h : shD (.lst ds) = true) : gNoIn neg st .non (.lst ds) = some (if neg then !ds.any isNonD else ds.any isNonD) := by
  simp [gNoIn, h]
theorem indexNon_lst {st : Sto} {ds : List D} (h : shD (.lst ds) = true) : gIndexNon st (.lst ds) [.non] = (firstNon ds 0).map fun j => (.int (j : Nat), st) := by
  simp [gIndexNon, h]
end Fn

set_option Elab.async false
set_option linter.all false
set_option autoImplicit false
set_option maxRecDepth 100000
set_option maxHeartbeats 4000000
/-! Layer Fn: a head whose addresses are told: the module's names in their order, the defs where they stand. -/
namespace Fn
open PySem PySem.Spec PyProof.Rows L2
/-- what a name of the module stands for -/
inductive Gv where
  | ref (a : Addr) | int (i : Int) | str (z : Str) | any
def Gv.ok : Gv → Value → Bool
  | .ref a, .ref b => Nat.beq a b
  | .int i, .int j _ => decide (i = j)
  | .str x, .str y _ => decide (x = y)
  | .any, _ => true
  | _, _ => false
def globB : List DictEntry → List (Str × Gv) → Bool
  | [], [] => true
  | e :: es, p :: r => e.key.isStr p.1 && (p.2.ok e.val && globB es r)
  | _, _ => false
def globK (K : PySem.W.Frag) (exp : List (Str × Gv)) : Bool := match K.lookup mainGlobals with
  | some ⟨_, _, .dict es _, _⟩ => globB es.toList exp
  | _ => false
theorem isStr_key {v : Value} {x : Str} (h : v.isStr x = true) : ∃ t, v = .str x t := by
  cases v with
  | str s t => have h : (s == x) = true := h; exact ⟨t, by rw [eq_of_beq h]⟩
  | _ => cases h
theorem globB_no {x : Str} : ∀ {es : List DictEntry} {exp : List (Str × Gv)}, globB es exp = true → (exp.all fun p => !(p.1 == x)) = true → es.find? (fun e => e.key.isStr x) = none
  | [], [], _, _ => rfl
  | [], _ :: _, h, _ => by cases h
  | _ :: _, [], h, _ => by cases h
  | e :: es, p :: r, h, n => by
    simp only [globB, Bool.and_eq_true] at h
    simp only [List.all_cons, Bool.and_eq_true] at n
    obtain ⟨t, ht⟩ := isStr_key h.1
    have q : e.key.isStr x = false := by
      rw [ht]
      show (p.1 == x) = false
      simpa using n.1
    rw [List.find?_cons, q]
    exact globB_no h.2.2 n.2
theorem globB_at {x : Str} {v : Gv} : ∀ {es : List DictEntry} {exp : List (Str × Gv)} {i : Nat}, globB es exp = true → exp[i]? = some (x, v) → ((exp.take i).all fun p => !(p.1 == x)) = true → ∃ e, es.find? (fun e => e.key.isStr x) = some e ∧ v.ok e.val = true
  | [], [], i, _, h, _ => by simp at h
  | [], _ :: _, i, h, _, _ => by cases h
  | _ :: _, [], i, h, _, _ => by cases h
  | e :: es, p :: r, 0, h, h1, n => by
    simp only [globB, Bool.and_eq_true] at h
    simp at h1
    subst h1
    exact ⟨e, by rw [List.find?_cons, h.1], h.2.1⟩
  | e :: es, p :: r, i + 1, h, h1, n => by
    simp only [globB, Bool.and_eq_true] at h
    simp only [List.take_succ_cons, List.all_cons, Bool.and_eq_true] at n
    obtain ⟨t, ht⟩ := isStr_key h.1
    have q : e.key.isStr x = false := by
      rw [ht]
      show (p.1 == x) = false
      simpa using n.1
    rw [List.find?_cons, q]
    exact globB_at h.2.2 (by simpa using h1) n.2
theorem globB_keys : ∀ {es : List DictEntry} {exp : List (Str × Gv)}, globB es exp = true → es.any (·.refKey) = false
  | [], [], _ => rfl
  | [], _ :: _, h => by cases h
  | _ :: _, [], h => by cases h
  | e :: es, p :: r, h => by
    simp only [globB, Bool.and_eq_true] at h
    obtain ⟨t, ht⟩ := isStr_key h.1
    have q : e.refKey = false := by unfold DictEntry.refKey; rw [ht]
    rw [List.any_cons, q, globB_keys h.2.2]; rfl
/-- a name's number: different numbers, different names -/
def strC (x : Str) : Nat := x.cps.toList.foldl (fun n c => n * 2097152 + c) 1
theorem codes_all {exp : List (Str × Gv)} {cs : List Nat} {x : Str} {k : Nat} (hc : exp.map (fun p => strC p.1) = cs) (hk : strC x = k) (h : (cs.all fun c => !Nat.beq c k) = true) : (exp.all fun p => !(p.1 == x)) = true := by
  subst hc hk
  rw [List.all_map] at h
  rw [List.all_eq_true] at h ⊢
  intro p hp
  have q := h p hp
  simp only [Function.comp_def, Bool.not_eq_true'] at q ⊢
  cases e : p.1 == x with
  | false => rfl
  | true =>
    rw [eq_of_beq e] at q
    have z : Nat.beq (strC x) (strC x) = true := Nat.beq_refl _
    rw [z] at q; cases q
section
variable {K : PySem.W.Frag} {exp : List (Str × Gv)} {cs : List Nat} {x : Str} {k i : Nat}
theorem glob_no (c : globK K exp = true) (hc : exp.map (fun p => strC p.1) = cs) (hk : strC x = k) (h : (cs.all fun c => !Nat.beq c k) = true) : PySem.W.nsIn K mainGlobals x = some none := by
  unfold globK at c
  unfold PySem.W.nsIn
  split at c
  · next es ep sl e =>
    rw [e]
    simp only [globB_no c (codes_all hc hk h), globB_keys c, Bool.false_eq_true, if_false]
  · cases c
theorem glob_at {v : Gv} (c : globK K exp = true) (hc : exp.map (fun p => strC p.1) = cs) (h1 : exp[i]? = some (x, v)) (hk : strC x = k) (h : ((cs.take i).all fun c => !Nat.beq c k) = true) : ∃ u, PySem.W.nsIn K mainGlobals x = some (some u) ∧ v.ok u = true := by
  unfold globK at c
  unfold PySem.W.nsIn
  split at c
  · next es ep sl e =>
    rw [e]
    obtain ⟨en, q1, q2⟩ := globB_at c h1 (codes_all (exp := exp.take i) (by rw [List.map_take, hc]) hk h)
    simp only [q1]
    exact ⟨_, rfl, q2⟩
  · cases c
theorem glob_ref {a : Addr} (c : globK K exp = true) (hc : exp.map (fun p => strC p.1) = cs) (h1 : exp[i]? = some (x, .ref a)) (hk : strC x = k) (h : ((cs.take i).all fun c => !Nat.beq c k) = true) : PySem.W.nsIn K mainGlobals x = some (some (.ref a)) := by
  obtain ⟨u, q1, q2⟩ := glob_at c hc h1 hk h
  cases u with
  | ref b =>
    have e : a = b := Nat.eq_of_beq_eq_true q2
    rw [q1, e]
  | _ => cases q2
theorem glob_int {j : Int} (c : globK K exp = true) (hc : exp.map (fun p => strC p.1) = cs) (h1 : exp[i]? = some (x, .int j)) (hk : strC x = k) (h : ((cs.take i).all fun c => !Nat.beq c k) = true) : ∃ t, PySem.W.nsIn K mainGlobals x = some (some (.int j t)) := by
  obtain ⟨u, q1, q2⟩ := glob_at c hc h1 hk h
  cases u with
  | int b t =>
    have e : j = b := of_decide_eq_true q2
    exact ⟨t, by rw [q1, e]⟩
  | _ => cases q2
theorem glob_str {j : Str} (c : globK K exp = true) (hc : exp.map (fun p => strC p.1) = cs) (h1 : exp[i]? = some (x, .str j)) (hk : strC x = k) (h : ((cs.take i).all fun c => !Nat.beq c k) = true) : ∃ t, PySem.W.nsIn K mainGlobals x = some (some (.str j t)) := by
  obtain ⟨u, q1, q2⟩ := glob_at c hc h1 hk h
  cases u with
  | str b t =>
    have e : j = b := of_decide_eq_true q2
    exact ⟨t, by rw [q1, e]⟩
  | _ => cases q2
end
/-! the defs -/
def okA (K : PySem.W.Frag) (d : He.DefD) (a : Addr) : Bool := PySem.W.keepIn K (.ref a) && (match K.lookup a with
  | some ⟨_, _, .func fd, _⟩ => PySem.W.codeIn K fd.code d.qual && (He.dflB K fd.defaults (d.dvs K) && He.kwdB K fd.kwdefaults (d.kws K))
  | _ => false)
def fnA (K : PySem.W.Frag) (a : Addr) : He.FnW := match K.lookup a with
  | some ⟨_, _, .func fd, _⟩ => some (fd.name, fd.qualname, fd.params, fd.body, fd.scope, fd.globals, fd.closure, fd.builtins)
  | _ => none
theorem funA {K : PySem.W.Frag} {d : He.DefD} {a : Addr} (e : fnA K a = d.val) (c : okA K d a = true) (hg : He.fAd K d.at_ = a) : ∃ fd, FunD K d.name d.qual d.params d.body d.scope (d.dvs K) (d.kws K) a fd := by
  have e' : He.fnW K d.at_ = d.val := by unfold He.fnW; rw [hg]; exact e
  have c' : d.ok K = true := by unfold He.DefD.ok; rw [hg]; exact c
  have q := He.DefD.funD e' c'
  rw [hg] at q
  exact q
theorem fAd_of {K : PySem.W.Frag} {x : Str} {a : Addr} (h : PySem.W.nsIn K mainGlobals x = some (some (.ref a))) : He.fAd K (x, none) = a := by
  show He.ga K x = a
  unfold He.ga; rw [h]
theorem ga_of {K : PySem.W.Frag} {x : Str} {a : Addr} (h : PySem.W.nsIn K mainGlobals x = some (some (.ref a))) : He.ga K x = a := by
  unfold He.ga; rw [h]
/-! the Hook -/
abbrev AlL : Type := (Bool × List He.FnW) × List (Option (List (Option (Str × Int))))
def obsL (as : List Addr) (exp : List (Str × Gv)) (ds : List (He.DefD × Addr)) (ts : List (Addr × List Str)) (ex : PySem.W.Frag → Bool) (g : Addr → Option Obj) : AlL :=
  ((globK (He.frG g as) exp && ((ds.all fun q => okA (He.frG g as) q.1 q.2) && ex (He.frG g as)), ds.map fun q => fnA (He.frG g as) q.2), ts.map fun t => He.dicW (He.frG g as) t.1)
def valL (ds : List (He.DefD × Addr)) (ts : List (Addr × List Str)) (w : World) : AlL := ((true, ds.map fun q => q.1.val), ts.map fun t => some (He.keysIn w.params t.2))
structure SaysL (exp : List (Str × Gv)) (ds : List (He.DefD × Addr)) (ts : List (Addr × List Str)) (ex : PySem.W.Frag → Bool) (w : World) (K : PySem.W.Frag) : Prop where
  glob : globK K exp = true
  defs : ∀ (i : Nat) (q : He.DefD × Addr), ds[i]? = some q → okA K q.1 q.2 = true ∧ fnA K q.2 = q.1.val
  tabs : ∀ (i : Nat) (t : Addr × List Str), ts[i]? = some t → ∃ es n, KDict K w t.1 es n
  more : ex K = true
theorem saysL_of {as : List Addr} {exp : List (Str × Gv)} {ds : List (He.DefD × Addr)} {ts : List (Addr × List Str)} {ex : PySem.W.Frag → Bool} {w : World} {g : Addr → Option Obj} (e : obsL as exp ds ts ex g = valL ds ts w) : SaysL exp ds ts ex w (He.frG g as) := by
  have e1 : (globK (He.frG g as) exp && ((ds.all fun q => okA (He.frG g as) q.1 q.2) && ex (He.frG g as))) = true := congrArg (fun z : AlL => z.1.1) e
  have e2 : (ds.map fun q => fnA (He.frG g as) q.2) = ds.map fun q => q.1.val := congrArg (fun z : AlL => z.1.2) e
  have e3 : (ts.map fun t => He.dicW (He.frG g as) t.1) = ts.map fun t => some (He.keysIn w.params t.2) := congrArg (fun z : AlL => z.2) e
  simp only [Bool.and_eq_true, List.all_eq_true] at e1
  refine ⟨e1.1, fun i q hq => ⟨e1.2.1 q (List.mem_of_getElem? hq), ?_⟩, fun i t ht => ?_, e1.2.2⟩
  · have z := congrArg (fun l : List He.FnW => l[i]?) e2
    simp only [List.getElem?_map, hq, Option.map_some, Option.some.injEq] at z
    exact z
  · have z := congrArg (fun l : List (Option (List (Option (Str × Int)))) => l[i]?) e3
    simp only [List.getElem?_map, ht, Option.map_some, Option.some.injEq] at z
    exact He.dicW_ok z
def hookL (as : List Addr) (exp : List (Str × Gv)) (ds : List (He.DefD × Addr)) (ts : List (Addr × List Str)) (ex : PySem.W.Frag → Bool) : PySem.W.Hook where
  α := AlL
  obs := fun s => obsL as exp ds ts ex s.heap.get?
  val := fun w => valL ds ts w
  says := fun w h => ∃ K : PySem.W.Frag, K.In h ∧ SaysL exp ds ts ex w K
  of := fun _ _ e => ⟨_, He.frG_in, saysL_of e⟩
  keeps := fun _ _ _ ⟨K, hK, c⟩ k => ⟨K, PySem.W.Frag.In.keeps hK k, c⟩
theorem obsL_eq {as : List Addr} {exp : List (Str × Gv)} {ds : List (He.DefD × Addr)} {ts : List (Addr × List Str)} {ex : PySem.W.Frag → Bool} {g : Addr → Option Obj} {s : Shared} (h : ∀ a, g a = s.heap.get? a) : obsL as exp ds ts ex g = (hookL as exp ds ts ex).obs s := by
  have e : g = s.heap.get? := funext h
  rw [e] <;> rfl
section
variable {exp : List (Str × Gv)} {ds : List (He.DefD × Addr)} {ts : List (Addr × List Str)} {ex : PySem.W.Frag → Bool} {w : World} {K : PySem.W.Frag} {h : Heap} {mg : MG}
/-- a def as the walk wants it -/
theorem SaysL.fn (c : SaysL exp ds ts ex w K) (i : Nat) {x qual : Str} {st : Stmt} {a : Addr} (X : K.In h) (G : h.Ns mainGlobals mg) (hd : ds[i]? = some (⟨(x, none), x, qual, defArgs st, defBody st, defScope st, [], []⟩, a)) (hg : PySem.W.nsIn K mainGlobals x = some (some (.ref a))) :
    ∃ f fd, Fun K x qual st f fd ∧ mg x = some (.ref f) := by
  obtain ⟨c1, c2⟩ := c.defs i _ hd
  obtain ⟨fd, F⟩ := funA c2 c1 (fAd_of hg)
  exact ⟨a, fd, fun_ofD F, PySem.W.mg_of X G hg⟩
end
/-! exceptions of the program -/
def excA (K : PySem.W.Frag) (C : Addr) : Bool := PySem.W.excIn K C He.veBase "ValueError.__new__" && (PySem.W.keepIn K (.ref C) && (decide (PySem.W.subIn K (.ref C) (.type "BaseException") = some true) && decide (PySem.W.typeIn K (.ref C) = some (.type "type"))))
theorem excA_ok {K : PySem.W.Frag} {mg : MG} {x : Str} {C : Addr} (h : excA K C = true) (hm : mg x = some (.ref C)) : ExcOk K mg x := by
  simp only [excA, Bool.and_eq_true, decide_eq_true_eq] at h
  exact ⟨C, hm, h.1, h.2.1, h.2.2.1, h.2.2.2⟩
end Fn

set_option Elab.async false
set_option linter.all false
set_option autoImplicit false
set_option maxRecDepth 100000
set_option maxHeartbeats 4000000
/-! Layer Fn: sorted of lists of data; a call with one starred argument. -/
namespace Fn
open PySem PySem.Spec PyProof.Rows L2
/-! ### sorted(xs) -/
abbrev VP := V × PyData
def rSortedD (K : PySem.W.Frag) : List V → Hp → VK → Prop := fun vs H Q => ∃ (a : Addr) (xs : List V) (ds : List PyData), vs = [V.ref a] ∧ SqL K H a xs ∧ DpAll K H xs ds ∧ PySem.W.AllAlike ds ∧ PySem.W.Sortable ds ∧
  (∀ d ∈ ds, d.depth ≤ 64) ∧ ∀ p, H p = none → Q (.ref p) (upd H p (.lst (((xs.zip ds).mergeSort (PySem.W.dataLe false fun b => b.2)).map (·.1))))
theorem each_of {h : Heap} : ∀ {us : List Value} {xs : List V} {ds : List PyData} {as : List Addr}, Vals xs us → ReadsAll h us ds as →
    PySem.W.EachIs (fun (u : Value) (b : VP) => RelV b.1 u) us (xs.zip ds) ∧ PySem.W.EachIs (fun (u : Value) (b : VP) => ∃ as, Reads h u b.2 as) us (xs.zip ds) ∧ (xs.zip ds).map (·.2) = ds ∧ (xs.zip ds).length = us.length
  | _, _, _, _, .nil, r => by cases r; exact ⟨.nil, .nil, rfl, rfl⟩
  | _, _, _, _, .cons q t, r => by
    cases r with
    | cons r1 r2 =>
      obtain ⟨h1, h2, h3, h4⟩ := each_of t r2
      exact ⟨.cons q h1, .cons ⟨_, r1⟩ h2, by simpa using h3, by simpa using h4⟩
theorem each_vals : ∀ {us : List Value} {bs : List VP}, PySem.W.EachIs (fun (u : Value) (b : VP) => RelV b.1 u) us bs → Vals (bs.map (·.1)) us
  | _, _, .nil => .nil
  | _, _, .cons h t => .cons h (each_vals t)
theorem cr_sortedD {X : Cx} (hu : X.A.units + 67 < cLine) : CallR X (.builtin "sorted") (rSortedD X.K) := by
  intro pins s σ H vs us Q I r h
  obtain ⟨a, xs, ds, rfl, hs, dp, hal, hk, hd, q⟩ := h
  obtain ⟨its, rv, hl, hsz⟩ := I.list hs
  rw [Vals.ref1 r]
  obtain ⟨as, ra⟩ := Dp.readsAll I ds xs _ dp rv
  obtain ⟨e1, e2, e3, e4⟩ := each_of rv ra
  have hlen : (xs.zip ds).length ≤ sizeLine := by rw [e4, ← rv.length]; exact hsz
  refine PySem.W.sorted_data (enc := fun b : VP => b.2) hl.isList e1 e2 (by rw [show (List.map (fun b : VP => b.2) (xs.zip ds)) = ds from e3]; exact hal) (by rw [show (List.map (fun b : VP => b.2) (xs.zip ds)) = ds from e3]; exact hk) hlen (fun b hb => ?_) fun out h1 h2 => ?_
  · have : b.2 ∈ ds := by rw [← e3]; exact List.mem_map.mpr ⟨b, hb, rfl⟩
    have := hd _ this
    omega
  · obtain ⟨ep, he'⟩ := PyProof.Rows.sortedAll_at s.heap its out.toArray
    have hl2 : (((xs.zip ds).mergeSort (PySem.W.dataLe false fun b => b.2)).map (·.1)).length ≤ sizeLine := by rw [List.length_map, List.length_mergeSort]; exact hlen
    exact ⟨.ref _, upd H (s.heap.objs.size + 1) (.lst _), I.laid (t' := s.toks) (fun _ _ => PyProof.Rows.sortedAll_old) (Nat.le_succ _) ⟨hl2, out, ep, each_vals h2, he'⟩, rfl, q _ (I.hok.fresh (Nat.le_succ _))⟩
/-- all are texts, numbers or truth values; or all are tuples with an item at least -/
def sortableD (ds : List D) : Bool := ds.all (fun d => match d with | .tup (_ :: _) => true | _ => false) || ds.all (fun d => match d with | .int _ => true | .str _ => true | .bl _ => true | _ => false)
def alikesD (ds : List D) : Bool := ds.all fun d => ds.all fun e => PySem.W.alike (toP d) (toP e)
def sortD (ds : List D) : List D := ds.mergeSort (PySem.W.dataLe false toP)
def gSorted : GA := fun st xs => match xs with
  | [x] => match lstD st x with
    | some ds => if (ds.all (fun d => SeqAt.shaped (toP d)) && (alikesD ds && sortableD ds)) = true then some (.lst (sortD ds)) else none
    | none => none
  | _ => none
theorem toPs_map : ∀ {ds : List D}, toPs ds = ds.map toP
  | [] => rfl
  | d :: ds => by simp [toPs, toPs_map]
theorem canLayAll_of : ∀ {ds : List D}, (∀ d ∈ ds, (toP d).canLay0 = true) → PyData.canLayAll0 (toPs ds) = true
  | [], _ => by simp [toPs, PyData.canLayAll0]
  | d :: ds, h => by
    have h1 : PyData.canLayAll0 (toPs ds) = true := canLayAll_of fun e he => h e (List.mem_cons_of_mem _ he)
    have h2 := h d List.mem_cons_self
    simp only [toPs, PyData.canLayAll0, Bool.and_eq_true]
    exact ⟨h2, h1⟩
theorem rds_zip {K : PySem.W.Frag} {mg : MG} {μ : Wd} {H : Hp} : ∀ {ds : List D} {vs : List V}, RDs K mg μ H ds vs → ∀ p ∈ vs.zip ds, RD K mg μ H p.2 p.1
  | [], vs, h, p, hp => by simp only [RDs] at h; subst h; simp at hp
  | d :: ds, vs, h, p, hp => by
    simp only [RDs] at h
    obtain ⟨v, r, rfl, h2, h3⟩ := h
    rcases List.mem_cons.mp (by simpa using hp) with rfl | hp
    · exact h2
    · exact rds_zip h3 p hp
theorem rds_of_zip {K : PySem.W.Frag} {mg : MG} {μ : Wd} {H : Hp} : ∀ {ps : List (V × D)}, (∀ p ∈ ps, RD K mg μ H p.2 p.1) → RDs K mg μ H (ps.map (·.2)) (ps.map (·.1))
  | [], _ => by simp [RDs]
  | p :: ps, h => RDs.cons (h p (by simp)) (rds_of_zip fun q hq => h q (by simp [hq]))
theorem cb_sorted {K : PySem.W.Frag} {mg : MG} : CbA K mg (rSortedD K) gSorted := fun μ H st xs vs z Q s r e q => by
  unfold gSorted at e
  split at e
  · split at e
    · next ds h1 =>
      split at e
      · next c =>
        cases e
        simp only [Bool.and_eq_true, List.all_eq_true] at c
        obtain ⟨c1, c2, c3⟩ := c
        obtain ⟨v, rfl, rv⟩ := r.one
        obtain ⟨a, ws, rfl, hs, hl, rr⟩ := lst_of s rv h1
        have hlay : ∀ d ∈ ds, (toP d).canLay0 = true := fun d hd => SeqAt.canLay_of_shaped (c1 d hd)
        have hlw : ds.length = ws.length := RDs.length rr
        refine ⟨a, ws, toPs ds, rfl, .of hs, dps_of s rr (canLayAll_of hlay), ?_, ?_, ?_, fun p hp => ?_⟩
        · intro d hd e he
          rw [toPs_map] at hd he
          obtain ⟨d', hd', rfl⟩ := List.mem_map.mp hd
          obtain ⟨e', he', rfl⟩ := List.mem_map.mp he
          simp only [alikesD, List.all_eq_true] at c2
          exact c2 d' hd' e' he'
        · simp only [sortableD, Bool.or_eq_true, List.all_eq_true] at c3
          rcases c3 with c3 | c3
          · refine .inl fun d hd => ?_
            rw [toPs_map] at hd
            obtain ⟨d', hd', rfl⟩ := List.mem_map.mp hd
            have := c3 d' hd'
            split at this
            · exact ⟨_, _, by simp only [toP, toPs]; rfl⟩
            · cases this
          · refine .inr fun d hd => ?_
            rw [toPs_map] at hd
            obtain ⟨d', hd', rfl⟩ := List.mem_map.mp hd
            have := c3 d' hd'
            split at this <;> first | cases this; done | exact ⟨by simp [toP], by simp [toP]⟩
        · intro d hd
          rw [toPs_map] at hd
          obtain ⟨d', hd', rfl⟩ := List.mem_map.mp hd
          have := c1 d' hd'
          simp only [SeqAt.shaped, Bool.and_eq_true, decide_eq_true_eq] at this
          exact this.2
        · have hz : ws.zip (toPs ds) = (ws.zip ds).map fun p => (p.1, toP p.2) := by rw [toPs_map, List.zip_map_right]; rfl
          have h2 : ((ws.zip (toPs ds)).mergeSort (PySem.W.dataLe false fun b => b.2)).map (·.1) = ((ws.zip ds).mergeSort (PySem.W.dataLe false fun b => toP b.2)).map (·.1) := by
            rw [hz, ← List.map_mergeSort (r := PySem.W.dataLe false fun b : V × D => toP b.2) (s := PySem.W.dataLe false fun b : VP => b.2) (f := fun b : V × D => (b.1, toP b.2)) (fun _ _ _ _ => rfl), List.map_map]; rfl
          have h3 : sortD ds = ((ws.zip ds).mergeSort (PySem.W.dataLe false fun b => toP b.2)).map (·.2) := by
            rw [List.map_mergeSort (r := PySem.W.dataLe false fun b : V × D => toP b.2) (s := PySem.W.dataLe false toP) (f := fun b : V × D => b.2) (fun _ _ _ _ => rfl)]
            have : List.map (·.2) (ws.zip ds) = ds := List.map_snd_zip (by omega)
            rw [this]; rfl
          rw [h2]; rw [h3] at q
          have h4 := rds_of_zip (K := K) (mg := mg) (μ := μ) (H := H) (ps := (ws.zip ds).mergeSort (PySem.W.dataLe false fun b => toP b.2)) fun p hp => rds_zip rr p (List.mem_mergeSort.mp hp)
          obtain ⟨a2, r2⟩ := Aft.lst s hp (by rw [← h3]; unfold sortD; rw [List.length_mergeSort]; exact hl) h4
          exact q _ _ _ a2 r2
      · cases e
    · cases e
  · cases e
section
variable {X : Cx} {W : WX} {e : Expr} {es : List Expr} {fe : EF} {fr : AF} {pos p p2 : Pos} {x : Str}
theorem Room.units67 {k : Nat} {A : Around} (r : Room k A) : A.units + 67 < cLine := by have := r.un; omega
theorem x_sorted {k : Nat} (hr : Room k X.A) (hm : X.mg "sorted" = none) (ha : AX X W [e] fr) (hgl : Gl X "sorted" := by rfl) (he : starEach [e] X.env = (false, eval e X.env) :: starEach [] X.env := by rfl) : EX X W (.Call (.Name "sorted" p) [e] [] pos) (eCB gSorted fr) :=
  ex_callB (cr_sortedD (Room.units67 hr)) cb_sorted hm (by decide +kernel) ha hgl (by decide) (by decide) he rfl
/-! ### f(*y) -/
theorem pe_callGS {CX : CXT} {k : Nat} {f : Addr} {fd : FuncData} {ps : List Str} {sp : Sp} {E : St → XK} {te : TE} (F : FnG X.prog X.w X.K X.mg X.base CX k f fd ps sp) (hr : Room k X.A) (gd : X.A.guards = some []) (hg : Gl X x) (hm : X.mg x = some (.ref f)) (hk : PySem.W.keepIn X.K (.ref f) = true) (hb : Binds X.K fd ps []) (hx : ∀ σ, PassesAt CX X σ (E σ))
    (he : PE X e te) (hdb : (x == ("__debug__" : Str)) = false := by decide) (hst : starEach [.Starred e p2] X.env = [(true, eval e X.env)] := by rfl) :
    PE X (.Call (.Name x p) [.Starred e p2] [] pos) (fun σ H Q => te σ H fun y H1 => ∃ a xs, y = V.ref a ∧ (SqT X.K H1 a xs ∨ SqL X.K H1 a xs) ∧ sp xs H1 Q (E σ)) := by
  refine ⟨fun pins s σ H Q I h => ?_⟩
  refine wpAny_Call_Name_kw (ld_glob I hg hm ?_ hdb)
  refine PySem.W.callWith_S (h₀ := X.base) I.ok.mod.kin hk (thn (he.run pins s σ H _ I h) fun v s1 ⟨y, H1, I1, ry, a, xs, ey, hxs, q⟩ => ?_) hst
  subst ey
  obtain rfl : v = Value.ref a := ry
  refine StX.star_any I1 hxs fun us s2 I2 rv => ⟨I2.kIn, ?_⟩
  exact runG F hr gd hb (.nil) (hx σ) I2 rv (by rw [List.append_nil]; exact q)
def eCallS (den : Den) (fe : EF) : EF := fun ρ st => (fe ρ st).bind fun x s1 => match seqD s1 x with
  | some ds => den ds s1
  | none => .no
theorem ex_callS {k n : Nat} {den : Den} (D : DefOk X.prog X.w X.K X.mg X.base x k n den) (hr : Room k X.A) (gd : X.A.guards = some []) (tk : Takes X W) (he : EX X W e fe) (hgl : Gl X x := by rfl) (hdb : (x == ("__debug__" : Str)) = false := by decide)
    (hst : starEach [.Starred e p2] X.env = [(true, eval e X.env)] := by rfl) :
    EX X W (.Call (.Name x p) [.Starred e p2] [] pos) (eCallS (lenOk n den) fe) := by
  obtain ⟨f, fd, ps, hm, hk, hb, F⟩ := D.ex
  refine (pe_callGS (F := F) hr gd hgl hm hk hb (fun σ => passAt tk σ) he hdb hst).imp fun σ H Q ⟨μ, ρ, st, r, q⟩ => ⟨μ, ρ, st, r, q.bind fun z s1 v H1 μ1 _ a1 rx p1 => ?_⟩
  split at p1
  · next ds h1 =>
    obtain ⟨a, ws, rfl, hs, hl, rr⟩ := seq_of a1.sto rx h1
    refine ⟨a, ws, rfl, hs.symm, ?_⟩
    unfold lenOk at p1
    split at p1
    · next hl =>
      refine ⟨μ1, s1, ds, a1.sto, RAs.of rr, hl, ?_⟩
      cases q : den ds s1 with
      | ok d s2 => rw [q] at p1; exact p1
      | er y s2 => rw [q] at p1; exact p1
      | no => rw [q] at p1; exact p1
    · exact p1.elim
  · exact p1.elim
end
@[simp] theorem eCallS_q {den : Den} {fe : EF} {ρ : Rho} {st : Sto} : eCallS den fe ρ st = (fe ρ st).bind fun x s1 => match seqD s1 x with
  | some ds => den ds s1
  | none => .no := rfl
end Fn

set_option Elab.async false
set_option linter.all false
set_option autoImplicit false
set_option maxRecDepth 100000
set_option maxHeartbeats 4000000
namespace Lw
open PySem PySem.Spec PyProof.Rows L2 Fn
abbrev D := Fn.D
abbrev St := L2.St
/-! ### the text and what its defs are worth -/
def top (i : Nat) : Stmt := PySem.Challenge.pw_hoursheld_k13_houses_and_plans.main.body.getD i (.Pass ⟨0, 0, 0, 0⟩)
def kt_LENGTHS : List (Str × Int) := [("rest", 2), ("most", 4), ("least", 4), ("row", 3), ("behind", 4), ("kinds", 4), ("account", 4), ("not", 2)]
abbrev s_is_letter : Stmt := top 20
theorem sc_is_letter : FnScope ["text"] ["text"] (defScope s_is_letter) := ⟨rfl, rfl, rfl, by decide +kernel, rfl, by decide +kernel, by decide +kernel⟩
def b_is_letter : SF :=
  (sRet (eAnd (eCmp gEq (eCB gLen (aCons (eVar 0) aNil)) (eC (.int 1))) (eCmp gIn (eVar 0) (eC (.str "abcdefghijklmnopqrstuvwxyz")))))
def d_is_letter : Den := denOf 1 false b_is_letter
abbrev s_is_calendar : Stmt := top 21
theorem sc_is_calendar : FnScope ["calendar", "kind"] ["calendar"] (defScope s_is_calendar) := ⟨rfl, rfl, rfl, by decide +kernel, rfl, by decide +kernel, by decide +kernel⟩
abbrev c1_is_calendar : EF :=
  (eLc false (iSeq (eVar 0)) (.nm 1) tYesF (eCall (lenOk 1 d_is_letter) (aCons (eVar 1) aNil)) [1])
def b_is_calendar : SF :=
  (sRet (eAnd (eChain gLe gLe (eC (.int 1)) (eCB gLen (aCons (eVar 0) aNil)) (eC (.int 14))) (eCB gAll (aCons c1_is_calendar aNil))))
def d_is_calendar : Den := denOf 2 false b_is_calendar
abbrev s_is_duty : Stmt := top 23
theorem sc_is_duty : FnScope ["duty", "begin", "length", "pause", "sorts", "ascending", "one", "other", "sort"] ["duty"] (defScope s_is_duty) := ⟨rfl, rfl, rfl, by decide +kernel, rfl, by decide +kernel, by decide +kernel⟩
abbrev c1_is_duty : EF :=
  (eLc false (iZip2 (aCons (eVar 4) (aCons (eSl (eVar 4) (pSome (eC (.int 1))) pNone) aNil))) (.tp [.nm 6, .nm 7]) tYesF (eCmp gLt (eVar 6) (eVar 7)) [6, 7])
abbrev c2_is_duty : EF :=
  (eLc false (iSeq (eVar 4)) (.nm 8) tYesF (eCall (lenOk 1 d_is_letter) (aCons (eVar 8) aNil)) [8])
def b_is_duty : SF :=
  (sSeq (sAsg (.tp [.nm 1, .nm 2, .nm 3, .nm 4]) (eVar 0))
    (sSeq (sIf (tOrF (tNotF (tChn gLe gLt (eC (.int 0)) (eVar 1) (eC (.int 24)))) (tOrF (tNotF (tChn gLe gLe (eC (.int 1)) (eVar 2) (eC (.int 24)))) (tNotF (tChn gLe gLt (eC (.int 0)) (eVar 3) (eVar 2))))) (sRet (eC (.bl false))) sNext)
    (sSeq (sAsg (.nm 5) (eCB gAll (aCons c1_is_duty aNil)))
    (sRet (eAnd (eVar 5) (eCB gAll (aCons c2_is_duty aNil)))))))
def d_is_duty : Den := denOf 9 false b_is_duty
abbrev s_is_duties : Stmt := top 24
theorem sc_is_duties : FnScope ["duties", "duty"] ["duties"] (defScope s_is_duties) := ⟨rfl, rfl, rfl, by decide +kernel, rfl, by decide +kernel, by decide +kernel⟩
abbrev c1_is_duties : EF :=
  (eLc false (iSeq (eVar 0)) (.nm 1) tYesF (eCall (lenOk 1 d_is_duty) (aCons (eVar 1) aNil)) [1])
def b_is_duties : SF :=
  (sRet (eAnd (eChain gLe gLe (eC (.int 1)) (eCB gLen (aCons (eVar 0) aNil)) (eC (.int 7))) (eCB gAll (aCons c1_is_duties aNil))))
def d_is_duties : Den := denOf 2 false b_is_duties
abbrev s_is_sort : Stmt := top 29
theorem sc_is_sort : FnScope ["sort"] ["sort"] (defScope s_is_sort) := ⟨rfl, rfl, rfl, by decide +kernel, rfl, by decide +kernel, by decide +kernel⟩
def b_is_sort : SF :=
  (sRet (eOr (eCmp gEq (eVar 0) (eC (.str ""))) (eCall (lenOk 1 d_is_letter) (aCons (eVar 0) aNil))))
def d_is_sort : Den := denOf 1 false b_is_sort
abbrev s_is_measure : Stmt := top 31
theorem sc_is_measure : FnScope ["measure"] ["measure"] (defScope s_is_measure) := ⟨rfl, rfl, rfl, by decide +kernel, rfl, by decide +kernel, by decide +kernel⟩
def b_is_measure : SF :=
  (sRet (eAnd (eCmp gIn (eOp2 gIx (eVar 0) (eC (.int 0))) (eTup (aCons (eC (.str "hours")) (aCons (eC (.str "days")) aNil)))) (eCall (lenOk 1 d_is_sort) (aCons (eOp2 gIx (eVar 0) (eC (.int 1))) aNil))))
def d_is_measure : Den := denOf 1 false b_is_measure
abbrev s_is_window : Stmt := top 48
theorem sc_is_window : FnScope ["rule", "_", "measure", "n", "k"] ["rule"] (defScope s_is_window) := ⟨rfl, rfl, rfl, by decide +kernel, rfl, by decide +kernel, by decide +kernel⟩
def b_is_window : SF :=
  (sSeq (sAsg (.tp [.nm 1, .nm 2, .nm 3, .nm 4]) (eVar 0))
    (sRet (eAnd (eCall (lenOk 1 d_is_measure) (aCons (eVar 2) aNil)) (eAnd (eChain gLe gLe (eC (.int 1)) (eVar 3) (eC (.int 14))) (eChain gLe gLe (eC (.int 0)) (eVar 4) (eC (.int 400)))))))
def d_is_window : Den := denOf 5 false b_is_window
abbrev s_is_kinds : Stmt := top 49
theorem sc_is_kinds : FnScope ["calendar", "rule", "_", "kind", "n", "k"] ["calendar", "rule"] (defScope s_is_kinds) := ⟨rfl, rfl, rfl, by decide +kernel, rfl, by decide +kernel, by decide +kernel⟩
def b_is_kinds : SF :=
  (sSeq (sAsg (.tp [.nm 2, .nm 3, .nm 4, .nm 5]) (eVar 1))
    (sRet (eAnd (eCmp gIn (eVar 3) (eVar 0)) (eAnd (eChain gLe gLe (eC (.int 1)) (eVar 4) (eC (.int 14))) (eChain gLe gLe (eC (.int 0)) (eVar 5) (eVar 4))))))
def d_is_kinds : Den := denOf 6 false b_is_kinds
abbrev s_is_account : Stmt := top 50
theorem sc_is_account : FnScope ["calendar", "rule", "_", "low", "high", "plan", "entry"] ["calendar", "rule"] (defScope s_is_account) := ⟨rfl, rfl, rfl, by decide +kernel, rfl, by decide +kernel, by decide +kernel⟩
abbrev c1_is_account : EF :=
  (eLc false (iSeq (eVar 5)) (.nm 6) tYesF (eChain gLe gLe (eC (.int 0)) (eVar 6) (eC (.int 24))) [6])
def b_is_account : SF :=
  (sSeq (sAsg (.tp [.nm 2, .nm 3, .nm 4, .nm 5]) (eVar 1))
    (sSeq (sIf (tOrF (tNotF (tChnN (eNeg (eC (.int 400))) [(gLe, (eVar 3)), (gLe, (eC (.int 0))), (gLe, (eVar 4)), (gLe, (eC (.int 400)))])) (tCm gNe (eCB gLen (aCons (eVar 5) aNil)) (eCB gLen (aCons (eVar 0) aNil)))) (sRet (eC (.bl false))) sNext)
    (sRet (eCB gAll (aCons c1_is_account aNil)))))
def d_is_account : Den := denOf 7 false b_is_account
abbrev s_is_not : Stmt := top 51
theorem sc_is_not : FnScope ["duties", "rule", "sets", "some", "ascending", "one", "other", "number"] ["duties", "rule"] (defScope s_is_not) := ⟨rfl, rfl, rfl, by decide +kernel, rfl, by decide +kernel, by decide +kernel⟩
abbrev c1_is_not : EF :=
  (eLc false (iZip2 (aCons (eVar 3) (aCons (eSl (eVar 3) (pSome (eC (.int 1))) pNone) aNil))) (.tp [.nm 5, .nm 6]) tYesF (eCmp gLt (eVar 5) (eVar 6)) [5, 6])
abbrev c2_is_not : EF :=
  (eLc false (iSeq (eVar 3)) (.nm 7) tYesF (eChain gLe gLe (eC (.int 0)) (eVar 7) (eCB gLen (aCons (eVar 0) aNil))) [7])
abbrev l1_is_not : SF :=
  (sSeq (sAsg (.nm 4) (eCB gAll (aCons c1_is_not aNil)))
    (sIf (tOrF (tNotF (tTru (eVar 3))) (tOrF (tNotF (tTru (eVar 4))) (tNotF (tTru (eCB gAll (aCons c2_is_not aNil)))))) (sRet (eC (.bl false))) sNext))
def b_is_not : SF :=
  (sSeq (sAsg (.nm 2) (eOp2 gIx (eVar 1) (eC (.int 1))))
    (sSeq (sIf (tNotF (tChn gLe gLe (eC (.int 1)) (eCB gLen (aCons (eVar 2) aNil)) (eC (.int 6)))) (sRet (eC (.bl false))) sNext)
    (sSeq (sFor (iSeq (eVar 2)) (.nm 3) l1_is_not)
    (sRet (eC (.bl true))))))
def d_is_not : Den := denOf 8 false b_is_not
abbrev s_fits : Stmt := top 52
theorem sc_fits : FnScope ["calendar", "duties", "rule", "word"] ["calendar", "duties", "rule"] (defScope s_fits) := ⟨rfl, rfl, rfl, by decide +kernel, rfl, by decide +kernel, by decide +kernel⟩
def b_fits : SF :=
  (sSeq (sAsg (.nm 3) (eOp2 gIx (eVar 2) (eC (.int 0))))
    (sSeq (sIf (tOrF (tCm (gKdIn true "LENGTHS" kt_LENGTHS) (eVar 3) (eC (.gl "LENGTHS"))) (tCm gNe (eCB gLen (aCons (eVar 2) aNil)) (eOp2 (gKdIx "LENGTHS" kt_LENGTHS) (eC (.gl "LENGTHS")) (eVar 3)))) (sRet (eC (.bl false))) sNext)
    (sSeq (sIf (tCm gEq (eVar 3) (eC (.str "rest"))) (sRet (eChain gLe gLe (eC (.int 0)) (eOp2 gIx (eVar 2) (eC (.int 1))) (eC (.int 72)))) sNext)
    (sSeq (sIf (tCm gIn (eVar 3) (eTup (aCons (eC (.str "most")) (aCons (eC (.str "least")) aNil)))) (sRet (eCall (lenOk 1 d_is_window) (aCons (eVar 2) aNil))) sNext)
    (sSeq (sIf (tCm gEq (eVar 3) (eC (.str "row"))) (sRet (eAnd (eCall (lenOk 1 d_is_sort) (aCons (eOp2 gIx (eVar 2) (eC (.int 1))) aNil)) (eChain gLe gLe (eC (.int 0)) (eOp2 gIx (eVar 2) (eC (.int 2))) (eC (.int 14))))) sNext)
    (sSeq (sIf (tCm gEq (eVar 3) (eC (.str "behind"))) (sRet (eAnd (eCall (lenOk 1 d_is_sort) (aCons (eOp2 gIx (eVar 2) (eC (.int 1))) aNil)) (eAnd (eChain gLe gLe (eC (.int 1)) (eOp2 gIx (eVar 2) (eC (.int 2))) (eC (.int 14))) (eChain gLe gLe (eC (.int 1)) (eOp2 gIx (eVar 2) (eC (.int 3))) (eC (.int 14)))))) sNext)
    (sSeq (sIf (tCm gEq (eVar 3) (eC (.str "kinds"))) (sRet (eCall (lenOk 2 d_is_kinds) (aCons (eVar 0) (aCons (eVar 2) aNil)))) sNext)
    (sRet (eIf (tCm gEq (eVar 3) (eC (.str "account"))) (eCall (lenOk 2 d_is_account) (aCons (eVar 0) (aCons (eVar 2) aNil))) (eCall (lenOk 2 d_is_not) (aCons (eVar 1) (aCons (eVar 2) aNil))))))))))))
def d_fits : Den := denOf 4 false b_fits
abbrev s_is_book : Stmt := top 66
theorem sc_is_book : FnScope ["calendar", "duties", "rules", "rule"] ["calendar", "duties", "rules"] (defScope s_is_book) := ⟨rfl, rfl, rfl, by decide +kernel, rfl, by decide +kernel, by decide +kernel⟩
abbrev c1_is_book : EF :=
  (eLc false (iSeq (eVar 2)) (.nm 3) tYesF (eCall (lenOk 3 d_fits) (aCons (eVar 0) (aCons (eVar 1) (aCons (eVar 3) aNil)))) [3])
def b_is_book : SF :=
  (sSeq (sIf (tOrF (tNotF (tTru (eCall (lenOk 1 d_is_calendar) (aCons (eVar 0) aNil)))) (tOrF (tNotF (tTru (eCall (lenOk 1 d_is_duties) (aCons (eVar 1) aNil)))) (tCm gGt (eCB gLen (aCons (eVar 2) aNil)) (eC (.int 6))))) (sRet (eC (.bl false))) sNext)
    (sRet (eCB gAll (aCons c1_is_book aNil))))
def d_is_book : Den := denOf 4 false b_is_book
abbrev s_is_entry : Stmt := top 76
theorem sc_is_entry : FnScope ["entry", "sort", "low", "high"] ["entry"] (defScope s_is_entry) := ⟨rfl, rfl, rfl, by decide +kernel, rfl, by decide +kernel, by decide +kernel⟩
abbrev c1_is_entry : EF :=
  (eLc false (iSeq (eVar 0)) (.tp [.nm 1, .nm 2, .nm 3]) tYesF (eAnd (eCall (lenOk 1 d_is_sort) (aCons (eVar 1) aNil)) (eChnN (eC (.int 0)) [(gLe, (eVar 2)), (gLe, (eVar 3)), (gLe, (eC (.int 6)))])) [1, 2, 3])
def b_is_entry : SF :=
  (sSeq (sIf (tCm gGt (eCB gLen (aCons (eVar 0) aNil)) (eC (.int 4))) (sRet (eC (.bl false))) sNext)
    (sRet (eCB gAll (aCons c1_is_entry aNil))))
def d_is_entry : Den := denOf 4 false b_is_entry
abbrev s_is_demand : Stmt := top 77
theorem sc_is_demand : FnScope ["book", "demand", "entry"] ["book", "demand"] (defScope s_is_demand) := ⟨rfl, rfl, rfl, by decide +kernel, rfl, by decide +kernel, by decide +kernel⟩
abbrev c1_is_demand : EF :=
  (eLc false (iSeq (eVar 1)) (.nm 2) tYesF (eCall (lenOk 1 d_is_entry) (aCons (eVar 2) aNil)) [2])
def b_is_demand : SF :=
  (sRet (eAnd (eCmp gEq (eCB gLen (aCons (eVar 1) aNil)) (eCB gLen (aCons (eOp2 gIx (eVar 0) (eC (.int 0))) aNil))) (eCB gAll (aCons c1_is_demand aNil))))
def d_is_demand : Den := denOf 3 false b_is_demand
abbrev s_is_crew : Stmt := top 78
theorem sc_is_crew : FnScope ["persons"] ["persons"] (defScope s_is_crew) := ⟨rfl, rfl, rfl, by decide +kernel, rfl, by decide +kernel, by decide +kernel⟩
def b_is_crew : SF :=
  (sRet (eChain gLe gLe (eC (.int 1)) (eVar 0) (eC (.int 6))))
def d_is_crew : Den := denOf 1 false b_is_crew
abbrev s_is_house : Stmt := top 79
theorem sc_is_house : FnScope ["book", "persons", "demand"] ["book", "persons", "demand"] (defScope s_is_house) := ⟨rfl, rfl, rfl, by decide +kernel, rfl, by decide +kernel, by decide +kernel⟩
def b_is_house : SF :=
  (sRet (eAnd (eCallS (lenOk 3 d_is_book) (eVar 0)) (eAnd (eCall (lenOk 1 d_is_crew) (aCons (eVar 1) aNil)) (eCall (lenOk 2 d_is_demand) (aCons (eVar 0) (aCons (eVar 2) aNil))))))
def d_is_house : Den := denOf 3 false b_is_house
abbrev s__law_number : Stmt := top 90
theorem sc__law_number : FnScope ["cell"] ["cell"] (defScope s__law_number) := ⟨rfl, rfl, rfl, by decide +kernel, rfl, by decide +kernel, by decide +kernel⟩
def b__law_number : SF :=
  (sSeq (sIf (tCm gLt (eVar 0) (eC (.int 0))) (sRet (eOp2 gSub (eC (.int 0)) (eVar 0))) sNext)
    (sRet (eVar 0)))
def d__law_number : Den := denOf 1 false b__law_number
abbrev s__law_draws : Stmt := top 91
theorem sc__law_draws : FnScope ["script", "draws", "cell", "rest", "k", "once", "twice"] ["script"] (defScope s__law_draws) := ⟨rfl, rfl, rfl, by decide +kernel, rfl, by decide +kernel, by decide +kernel⟩
abbrev l1__law_draws : SF :=
  (sSeq (sIf (tCm gEq (eVar 3) (eC (.int 0))) sBreak sNext)
    (sSeq (sExpr (eMt gAppend (eVar 1) (aCons (eOp2 gMod (eCB gInt (aCons (eVar 3) aNil)) (eC (.int 1000))) aNil)))
    (sAsg (.nm 3) (eOp2 gDiv (eVar 3) (eC (.int 1000))))))
abbrev l2__law_draws : SF :=
  (sSeq (sAsg (.nm 3) (eCall (lenOk 1 d__law_number) (aCons (eVar 2) aNil)))
    (sIf (tCm gGe (eVar 3) (eC (.int 1000000000000000000))) (sFor (iRange1 (aCons (eC (.int 60)) aNil)) (.nm 4) l1__law_draws) (sSeq (sAsg (.nm 5) (eOp2 gMod (eCB gInt (aCons (eOp2 gAdd (eOp2 gMul (eVar 3) (eC (.int 48271))) (eC (.int 11))) aNil)) (eC (.int 2147483647))))
    (sSeq (sAsg (.nm 6) (eOp2 gMod (eCB gInt (aCons (eOp2 gAdd (eOp2 gMul (eVar 5) (eC (.int 69621))) (eVar 3)) aNil)) (eC (.int 2147483629))))
    (sExpr (eMt gExtend (eVar 1) (aCons (eLst (aCons (eOp2 gMod (eCB gInt (aCons (eVar 3) aNil)) (eC (.int 1000))) (aCons (eOp2 gMod (eCB gInt (aCons (eVar 5) aNil)) (eC (.int 1000))) (aCons (eOp2 gMod (eCB gInt (aCons (eVar 6) aNil)) (eC (.int 1000))) aNil)))) aNil)))))))
def b__law_draws : SF :=
  (sSeq (sAsg (.nm 1) (eLstM aNil))
    (sSeq (sFor (iSeq (eVar 0)) (.nm 2) l2__law_draws)
    (sSeq (sExpr (eMt gReverse (eVar 1) aNil))
    (sRet (eVar 1)))))
def d__law_draws : Den := denOf 7 true b__law_draws
abbrev s__law_flat : Stmt := top 92
theorem sc__law_flat : FnScope ["rows", "found", "row"] ["rows"] (defScope s__law_flat) := ⟨rfl, rfl, rfl, by decide +kernel, rfl, by decide +kernel, by decide +kernel⟩
abbrev l1__law_flat : SF :=
  (sExpr (eMt gExtend (eVar 1) (aCons (eVar 2) aNil)))
def b__law_flat : SF :=
  (sSeq (sAsg (.nm 1) (eLstM aNil))
    (sSeq (sFor (iSeq (eVar 0)) (.nm 2) l1__law_flat)
    (sRet (eVar 1))))
def d__law_flat : Den := denOf 3 false b__law_flat
abbrev s__law_next : Stmt := top 93
theorem sc__law_next : FnScope ["draws"] ["draws"] (defScope s__law_next) := ⟨rfl, rfl, rfl, by decide +kernel, rfl, by decide +kernel, by decide +kernel⟩
def b__law_next : SF :=
  (sSeq (sIf (tTru (eVar 0)) (sRet (eMt gPop (eVar 0) aNil)) sNext)
    (sRet (eC (.int 0))))
def d__law_next : Den := denOf 1 false b__law_next
abbrev s__law_more : Stmt := top 94
theorem sc__law_more : FnScope ["draws", "many", "seed", "more", "k"] ["draws", "many"] (defScope s__law_more) := ⟨rfl, rfl, rfl, by decide +kernel, rfl, by decide +kernel, by decide +kernel⟩
abbrev l1__law_more : SF :=
  (sSeq (sAsg (.nm 2) (eOp2 gMod (eCB gInt (aCons (eOp2 gAdd (eOp2 gMul (eVar 2) (eC (.int 48271))) (eC (.int 12345))) aNil)) (eC (.int 2147483647))))
    (sExpr (eMt gAppend (eVar 3) (aCons (eOp2 gMod (eCB gInt (aCons (eOp2 gDiv (eVar 2) (eC (.int 7))) aNil)) (eC (.int 1000))) aNil))))
def b__law_more : SF :=
  (sSeq (sAsg (.nm 2) (eOp2 gAdd (eOp2 gAdd (eOp2 gMul (eC (.int 1000)) (eCall (lenOk 1 d__law_next) (aCons (eVar 0) aNil))) (eCall (lenOk 1 d__law_next) (aCons (eVar 0) aNil))) (eC (.int 1))))
    (sSeq (sAsg (.nm 3) (eLstM aNil))
    (sSeq (sFor (iRange1 (aCons (eVar 1) aNil)) (.nm 4) l1__law_more)
    (sRet (eCatM (eVar 3) (eVar 0))))))
def d__law_more : Den := denOf 5 true b__law_more
abbrev s__law_pick : Stmt := top 95
theorem sc__law_pick : FnScope ["draws", "some"] ["draws", "some"] (defScope s__law_pick) := ⟨rfl, rfl, rfl, by decide +kernel, rfl, by decide +kernel, by decide +kernel⟩
def b__law_pick : SF :=
  (sRet (eOp2 gIx (eVar 1) (eOp2 gMod (eCB gInt (aCons (eCall (lenOk 1 d__law_next) (aCons (eVar 0) aNil)) aNil)) (eCB gLen (aCons (eVar 1) aNil)))))
def d__law_pick : Den := denOf 2 false b__law_pick
abbrev s__law_begin : Stmt := top 100
theorem sc__law_begin : FnScope ["rule"] ["rule"] (defScope s__law_begin) := ⟨rfl, rfl, rfl, by decide +kernel, rfl, by decide +kernel, by decide +kernel⟩
def b__law_begin : SF :=
  (sSeq (sIf (tCm gEq (eOp2 gIx (eVar 0) (eC (.int 0))) (eC (.str "rest"))) (sRet (eOp2 gIx (eVar 0) (eC (.int 1)))) sNext)
    (sSeq (sIf (tCm gEq (eOp2 gIx (eVar 0) (eC (.int 0))) (eC (.str "most"))) (sRet (eOp2 gMul (eTup (aCons (eC (.int 0)) aNil)) (eOp2 gSub (eOp2 gIx (eVar 0) (eC (.int 2))) (eC (.int 1))))) sNext)
    (sSeq (sIf (tCm gEq (eOp2 gIx (eVar 0) (eC (.int 0))) (eC (.str "behind"))) (sRet (eTup (aCons (eC (.int 0)) (aCons (eC (.int 0)) aNil)))) sNext)
    (sRet (eIf (tCm gIn (eOp2 gIx (eVar 0) (eC (.int 0))) (eLst (aCons (eC (.str "least")) (aCons (eC (.str "kinds")) (aCons (eC (.str "not")) aNil))))) (eTup aNil) (eC (.int 0)))))))
def d__law_begin : Den := denOf 1 false b__law_begin
abbrev s__law_rules : Stmt := top 105
theorem sc__law_rules : FnScope ["book"] ["book"] (defScope s__law_rules) := ⟨rfl, rfl, rfl, by decide +kernel, rfl, by decide +kernel, by decide +kernel⟩
def b__law_rules : SF :=
  (sRet (eOp2 gAdd (eTup (aCons (eTup (aCons (eC (.str "rest")) (aCons (eC (.int 0)) aNil))) aNil)) (eOp2 gIx (eVar 0) (eC (.int 2)))))
def d__law_rules : Den := denOf 1 false b__law_rules
abbrev s__law_first : Stmt := top 106
theorem sc__law_first : FnScope ["book", "rule"] ["book"] (defScope s__law_first) := ⟨rfl, rfl, rfl, by decide +kernel, rfl, by decide +kernel, by decide +kernel⟩
abbrev c1__law_first : EF :=
  (eLc false (iSeq (eCall (lenOk 1 d__law_rules) (aCons (eVar 0) aNil))) (.nm 1) tYesF (eCall (lenOk 1 d__law_begin) (aCons (eVar 1) aNil)) [1])
def b__law_first : SF :=
  (sRet (eOp2 gAdd (eTup (aCons (eC (.int 0)) aNil)) (eCB gTuple (aCons c1__law_first aNil))))
def d__law_first : Den := denOf 2 false b__law_first
abbrev s__law_worth : Stmt := top 97
theorem sc__law_worth : FnScope ["duties", "number"] ["duties", "number"] (defScope s__law_worth) := ⟨rfl, rfl, rfl, by decide +kernel, rfl, by decide +kernel, by decide +kernel⟩
def b__law_worth : SF :=
  (sRet (eIf (tCm gGt (eVar 1) (eC (.int 0))) (eOp2 gSub (eOp2 gIx (eOp2 gIx (eVar 0) (eOp2 gSub (eVar 1) (eC (.int 1)))) (eC (.int 1))) (eOp2 gIx (eOp2 gIx (eVar 0) (eOp2 gSub (eVar 1) (eC (.int 1)))) (eC (.int 2)))) (eC (.int 0))))
def d__law_worth : Den := denOf 2 false b__law_worth
abbrev s__law_has : Stmt := top 98
theorem sc__law_has : FnScope ["duties", "number", "sort"] ["duties", "number", "sort"] (defScope s__law_has) := ⟨rfl, rfl, rfl, by decide +kernel, rfl, by decide +kernel, by decide +kernel⟩
def b__law_has : SF :=
  (sRet (eAnd (eCmp gGt (eVar 1) (eC (.int 0))) (eOr (eCmp gEq (eVar 2) (eC (.str ""))) (eCmp gIn (eVar 2) (eOp2 gIx (eOp2 gIx (eVar 0) (eOp2 gSub (eVar 1) (eC (.int 1)))) (eC (.int 3)))))))
def d__law_has : Den := denOf 3 false b__law_has
abbrev s__law_free : Stmt := top 102
theorem sc__law_free : FnScope ["duties", "rule", "part", "number", "count", "due"] ["duties", "rule", "part", "number"] (defScope s__law_free) := ⟨rfl, rfl, rfl, by decide +kernel, rfl, by decide +kernel, by decide +kernel⟩
def b__law_free : SF :=
  (sSeq (sAsg (.tp [.nm 4, .nm 5]) (eVar 2))
    (sSeq (sIf (tCm gGt (eVar 5) (eC (.int 0))) (sRet (eIf (tCm gEq (eVar 3) (eC (.int 0))) (eTup (aCons (eC (.int 0)) (aCons (eOp2 gSub (eVar 5) (eC (.int 1))) aNil))) (eC .non))) sNext)
    (sSeq (sIf (tTru (eCall (lenOk 3 d__law_has) (aCons (eVar 0) (aCons (eVar 3) (aCons (eOp2 gIx (eVar 1) (eC (.int 1))) aNil))))) (sRet (eTup (aCons (eCB gMin2 (aCons (eOp2 gIx (eVar 1) (eC (.int 2))) (aCons (eOp2 gAdd (eVar 4) (eC (.int 1))) aNil))) (aCons (eC (.int 0)) aNil)))) sNext)
    (sSeq (sIf (tCm gLt (eVar 4) (eOp2 gIx (eVar 1) (eC (.int 2)))) (sRet (eTup (aCons (eC (.int 0)) (aCons (eC (.int 0)) aNil)))) sNext)
    (sRet (eIf (tCm gEq (eVar 3) (eC (.int 0))) (eTup (aCons (eC (.int 0)) (aCons (eOp2 gSub (eOp2 gIx (eVar 1) (eC (.int 3))) (eC (.int 1))) aNil))) (eC .non)))))))
def d__law_free : Den := denOf 6 false b__law_free
abbrev s__law_value : Stmt := top 99
theorem sc__law_value : FnScope ["duties", "measure", "number"] ["duties", "measure", "number"] (defScope s__law_value) := ⟨rfl, rfl, rfl, by decide +kernel, rfl, by decide +kernel, by decide +kernel⟩
def b__law_value : SF :=
  (sSeq (sIf (tNotF (tTru (eCall (lenOk 3 d__law_has) (aCons (eVar 0) (aCons (eVar 2) (aCons (eOp2 gIx (eVar 1) (eC (.int 1))) aNil)))))) (sRet (eC (.int 0))) sNext)
    (sRet (eIf (tCm gEq (eOp2 gIx (eVar 1) (eC (.int 0))) (eC (.str "hours"))) (eCall (lenOk 2 d__law_worth) (aCons (eVar 0) (aCons (eVar 2) aNil))) (eC (.int 1)))))
def d__law_value : Den := denOf 3 false b__law_value
abbrev s__law_last : Stmt := top 101
theorem sc__law_last : FnScope ["row", "many"] ["row", "many"] (defScope s__law_last) := ⟨rfl, rfl, rfl, by decide +kernel, rfl, by decide +kernel, by decide +kernel⟩
def b__law_last : SF :=
  (sRet (eSl (eVar 0) (pSome (eCB gMax2 (aCons (eC (.int 0)) (aCons (eOp2 gSub (eCB gLen (aCons (eVar 0) aNil)) (eVar 1)) aNil)))) pNone))
def d__law_last : Den := denOf 2 false b__law_last
abbrev s__law_window : Stmt := top 103
theorem sc__law_window : FnScope ["book", "rule", "part", "phase", "number", "row"] ["book", "rule", "part", "phase", "number"] (defScope s__law_window) := ⟨rfl, rfl, rfl, by decide +kernel, rfl, by decide +kernel, by decide +kernel⟩
def b__law_window : SF :=
  (sSeq (sIf (tCm gEq (eOp2 gIx (eVar 1) (eC (.int 0))) (eC (.str "kinds"))) (sSeq (sIf (tCm gNe (eOp2 gIx (eOp2 gIx (eVar 0) (eC (.int 0))) (eVar 3)) (eOp2 gIx (eVar 1) (eC (.int 1)))) (sRet (eVar 2)) sNext)
    (sAsg (.nm 5) (eOp2 gAdd (eVar 2) (eTup (aCons (eCB gInt (aCons (eCmp gEq (eVar 4) (eC (.int 0))) aNil)) aNil))))) (sAsg (.nm 5) (eOp2 gAdd (eVar 2) (eTup (aCons (eCall (lenOk 3 d__law_value) (aCons (eOp2 gIx (eVar 0) (eC (.int 1))) (aCons (eOp2 gIx (eVar 1) (eC (.int 1))) (aCons (eVar 4) aNil)))) aNil)))))
    (sSeq (sIf (tOrF (tAndF (tCm gEq (eOp2 gIx (eVar 1) (eC (.int 0))) (eC (.str "most"))) (tCm gGt (eCB gSumA (aCons (eVar 5) aNil)) (eOp2 gIx (eVar 1) (eC (.int 3))))) (tAndF (tCm gNe (eOp2 gIx (eVar 1) (eC (.int 0))) (eC (.str "most"))) (tAndF (tCm gEq (eCB gLen (aCons (eVar 5) aNil)) (eOp2 gIx (eVar 1) (eC (.int 2)))) (tCm gLt (eCB gSumA (aCons (eVar 5) aNil)) (eOp2 gIx (eVar 1) (eC (.int 3))))))) (sRet (eC .non)) sNext)
    (sRet (eCall (lenOk 2 d__law_last) (aCons (eVar 5) (aCons (eOp2 gSub (eOp2 gIx (eVar 1) (eC (.int 2))) (eC (.int 1))) aNil))))))
def d__law_window : Den := denOf 6 false b__law_window
abbrev s__law_part : Stmt := top 104
theorem sc__law_part : FnScope ["book", "rule", "part", "phase", "number", "duties", "begin", "length", "left", "found", "at"] ["book", "rule", "part", "phase", "number"] (defScope s__law_part) := ⟨rfl, rfl, rfl, by decide +kernel, rfl, by decide +kernel, by decide +kernel⟩
abbrev c1__law_part : EF :=
  (eLc false (iSeq (eOp2 gAdd (eTup (aCons (eC (.int 0)) aNil)) (eVar 2))) (.nm 10) (tCm gIn (eVar 4) (eOp2 gIx (eOp2 gIx (eVar 1) (eC (.int 1))) (eVar 10))) (eOp2 gAdd (eVar 10) (eC (.int 1))) [10])
def b__law_part : SF :=
  (sSeq (sAsg (.nm 5) (eOp2 gIx (eVar 0) (eC (.int 1))))
    (sSeq (sIf (tCm gEq (eOp2 gIx (eVar 1) (eC (.int 0))) (eC (.str "rest"))) (sSeq (sIf (tCm gEq (eVar 4) (eC (.int 0))) (sRet (eCB gMin2 (aCons (eOp2 gIx (eVar 1) (eC (.int 1))) (aCons (eOp2 gAdd (eVar 2) (eC (.int 24))) aNil)))) sNext)
    (sSeq (sPar 6 7 (aCons (eOp2 gIx (eOp2 gIx (eVar 5) (eOp2 gSub (eVar 4) (eC (.int 1)))) (eC (.int 0))) (aCons (eOp2 gIx (eOp2 gIx (eVar 5) (eOp2 gSub (eVar 4) (eC (.int 1)))) (eC (.int 1))) aNil)))
    (sRet (eIf (tCm gGe (eOp2 gAdd (eVar 2) (eVar 6)) (eOp2 gIx (eVar 1) (eC (.int 1)))) (eCB gMin2 (aCons (eOp2 gIx (eVar 1) (eC (.int 1))) (aCons (eOp2 gSub (eOp2 gSub (eC (.int 24)) (eVar 6)) (eVar 7)) aNil))) (eC .non))))) sNext)
    (sSeq (sIf (tCm gIn (eOp2 gIx (eVar 1) (eC (.int 0))) (eLst (aCons (eC (.str "most")) (aCons (eC (.str "least")) (aCons (eC (.str "kinds")) aNil))))) (sRet (eCall (lenOk 5 d__law_window) (aCons (eVar 0) (aCons (eVar 1) (aCons (eVar 2) (aCons (eVar 3) (aCons (eVar 4) aNil))))))) sNext)
    (sSeq (sIf (tCm gEq (eOp2 gIx (eVar 1) (eC (.int 0))) (eC (.str "row"))) (sSeq (sIf (tNotF (tTru (eCall (lenOk 3 d__law_has) (aCons (eVar 5) (aCons (eVar 4) (aCons (eOp2 gIx (eVar 1) (eC (.int 1))) aNil)))))) (sRet (eC (.int 0))) sNext)
    (sRet (eIf (tCm gLt (eVar 2) (eOp2 gIx (eVar 1) (eC (.int 2)))) (eOp2 gAdd (eVar 2) (eC (.int 1))) (eC .non)))) sNext)
    (sSeq (sIf (tCm gEq (eOp2 gIx (eVar 1) (eC (.int 0))) (eC (.str "behind"))) (sRet (eCall (lenOk 4 d__law_free) (aCons (eVar 5) (aCons (eVar 1) (aCons (eVar 2) (aCons (eVar 4) aNil)))))) sNext)
    (sSeq (sIf (tCm gEq (eOp2 gIx (eVar 1) (eC (.int 0))) (eC (.str "account"))) (sSeq (sAsg (.nm 8) (eOp2 gSub (eOp2 gAdd (eVar 2) (eCall (lenOk 2 d__law_worth) (aCons (eVar 5) (aCons (eVar 4) aNil)))) (eOp2 gIx (eOp2 gIx (eVar 1) (eC (.int 3))) (eVar 3))))
    (sRet (eIf (tChn gLe gLe (eOp2 gIx (eVar 1) (eC (.int 1))) (eVar 8) (eOp2 gIx (eVar 1) (eC (.int 2)))) (eVar 8) (eC .non)))) sNext)
    (sSeq (sAsg (.nm 9) (eCB gTuple (aCons c1__law_part aNil)))
    (sRet (eIf (tCm gIn (eCB gLen (aCons (eOp2 gIx (eVar 1) (eC (.int 1))) aNil)) (eVar 9)) (eC .non) (eVar 9))))))))))
def d__law_part : Den := denOf 11 false b__law_part
abbrev s__law_step : Stmt := top 107
theorem sc__law_step : FnScope ["book", "here", "number", "rules", "parts", "k"] ["book", "here", "number"] (defScope s__law_step) := ⟨rfl, rfl, rfl, by decide +kernel, rfl, by decide +kernel, by decide +kernel⟩
abbrev c1__law_step : EF :=
  (eLc false (iRange1 (aCons (eCB gLen (aCons (eVar 3) aNil)) aNil)) (.nm 5) tYesF (eCall (lenOk 5 d__law_part) (aCons (eVar 0) (aCons (eOp2 gIx (eVar 3) (eVar 5)) (aCons (eOp2 gIx (eVar 1) (eOp2 gAdd (eVar 5) (eC (.int 1)))) (aCons (eOp2 gIx (eVar 1) (eC (.int 0))) (aCons (eVar 2) aNil)))))) [5])
def b__law_step : SF :=
  (sSeq (sAsg (.nm 3) (eCall (lenOk 1 d__law_rules) (aCons (eVar 0) aNil)))
    (sSeq (sAsg (.nm 4) c1__law_step)
    (sRet (eIf (tCm (gNoIn false) (eC .non) (eVar 4)) (eC .non) (eOp2 gAdd (eTup (aCons (eOp2 gMod (eCB gInt (aCons (eOp2 gAdd (eOp2 gIx (eVar 1) (eC (.int 0))) (eC (.int 1))) aNil)) (eCB gLen (aCons (eOp2 gIx (eVar 0) (eC (.int 0))) aNil))) aNil)) (eCB gTuple (aCons (eVar 4) aNil)))))))
def d__law_step : Den := denOf 6 false b__law_step
abbrev s__law_moves : Stmt := top 108
theorem sc__law_moves : FnScope ["book", "here", "number"] ["book", "here"] (defScope s__law_moves) := ⟨rfl, rfl, rfl, by decide +kernel, rfl, by decide +kernel, by decide +kernel⟩
abbrev c1__law_moves : EF :=
  (eLc false (iRange1 (aCons (eOp2 gAdd (eCB gLen (aCons (eOp2 gIx (eVar 0) (eC (.int 1))) aNil)) (eC (.int 1))) aNil)) (.nm 2) (tCm gIsNot (eCall (lenOk 3 d__law_step) (aCons (eVar 0) (aCons (eVar 1) (aCons (eVar 2) aNil)))) (eC .non)) (eVar 2) [2])
def b__law_moves : SF :=
  (sRet c1__law_moves)
def d__law_moves : Den := denOf 3 false b__law_moves
abbrev s__law_duty : Stmt := top 110
theorem sc__law_duty : FnScope ["draws", "begin", "length"] ["draws"] (defScope s__law_duty) := ⟨rfl, rfl, rfl, by decide +kernel, rfl, by decide +kernel, by decide +kernel⟩
def b__law_duty : SF :=
  (sSeq (sPar 1 2 (aCons (eCall (lenOk 2 d__law_pick) (aCons (eVar 0) (aCons (eLst (aCons (eC (.int 6)) (aCons (eC (.int 14)) (aCons (eC (.int 22)) (aCons (eC (.int 0)) (aCons (eC (.int 8)) (aCons (eC (.int 23)) aNil))))))) aNil))) (aCons (eCall (lenOk 2 d__law_pick) (aCons (eVar 0) (aCons (eLst (aCons (eC (.int 8)) (aCons (eC (.int 8)) (aCons (eC (.int 8)) (aCons (eC (.int 4)) (aCons (eC (.int 12)) (aCons (eC (.int 24)) (aCons (eC (.int 1)) aNil)))))))) aNil))) aNil)))
    (sRet (eTup (aCons (eVar 1) (aCons (eVar 2) (aCons (eOp2 gMod (eCB gInt (aCons (eCall (lenOk 1 d__law_next) (aCons (eVar 0) aNil)) aNil)) (eCB gMin2 (aCons (eC (.int 3)) (aCons (eVar 2) aNil)))) (aCons (eCall (lenOk 2 d__law_pick) (aCons (eVar 0) (aCons (eLst (aCons (eC (.str "")) (aCons (eC (.str "e")) (aCons (eC (.str "n")) (aCons (eC (.str "en")) aNil))))) aNil))) aNil)))))))
def d__law_duty : Den := denOf 3 false b__law_duty
abbrev s__law_measure : Stmt := top 111
theorem sc__law_measure : FnScope ["draws"] ["draws"] (defScope s__law_measure) := ⟨rfl, rfl, rfl, by decide +kernel, rfl, by decide +kernel, by decide +kernel⟩
def b__law_measure : SF :=
  (sRet (eTup (aCons (eCall (lenOk 2 d__law_pick) (aCons (eVar 0) (aCons (eLst (aCons (eC (.str "hours")) (aCons (eC (.str "days")) aNil))) aNil))) (aCons (eCall (lenOk 2 d__law_pick) (aCons (eVar 0) (aCons (eLst (aCons (eC (.str "")) (aCons (eC (.str "")) (aCons (eC (.str "n")) (aCons (eC (.str "e")) (aCons (eC (.str "z")) aNil)))))) aNil))) aNil))))
def d__law_measure : Den := denOf 1 false b__law_measure
abbrev s__law_rule : Stmt := top 112
theorem sc__law_rule : FnScope ["draws", "calendar", "many", "kind", "measure", "n", "top", "plan", "k", "sets", "some", "number"] ["draws", "calendar", "many"] (defScope s__law_rule) := ⟨rfl, rfl, rfl, by decide +kernel, rfl, by decide +kernel, by decide +kernel⟩
abbrev c1__law_rule : EF :=
  (eLc false (iSeq (eVar 1)) (.nm 8) tYesF (eCall (lenOk 2 d__law_pick) (aCons (eVar 0) (aCons (eLst (aCons (eC (.int 0)) (aCons (eC (.int 4)) (aCons (eC (.int 8)) (aCons (eC (.int 5)) aNil))))) aNil))) [8])
abbrev c2__law_rule : EF :=
  (eLc false (iRange1 (aCons (eOp2 gAdd (eVar 2) (eC (.int 1))) aNil)) (.nm 11) (tCm gEq (eOp2 gMod (eCB gInt (aCons (eCall (lenOk 1 d__law_next) (aCons (eVar 0) aNil)) aNil)) (eC (.int 2))) (eC (.int 0))) (eVar 11) [11])
abbrev l1__law_rule : SF :=
  (sSeq (sAsg (.nm 10) (eCB gTuple (aCons c2__law_rule aNil)))
    (sExpr (eMt gAppend (eVar 9) (aCons (eIf (tTru (eVar 10)) (eVar 10) (eTup (aCons (eOp2 gMod (eCB gInt (aCons (eCall (lenOk 1 d__law_next) (aCons (eVar 0) aNil)) aNil)) (eOp2 gAdd (eVar 2) (eC (.int 1)))) aNil))) aNil))))
def b__law_rule : SF :=
  (sSeq (sAsg (.nm 3) (eOp2 gMod (eCB gInt (aCons (eCall (lenOk 1 d__law_next) (aCons (eVar 0) aNil)) aNil)) (eC (.int 8))))
    (sSeq (sIf (tCm gEq (eVar 3) (eC (.int 0))) (sRet (eTup (aCons (eC (.str "rest")) (aCons (eCall (lenOk 2 d__law_pick) (aCons (eVar 0) (aCons (eLst (aCons (eC (.int 11)) (aCons (eC (.int 16)) (aCons (eC (.int 0)) (aCons (eC (.int 24)) (aCons (eC (.int 36)) aNil)))))) aNil))) aNil)))) sNext)
    (sSeq (sIf (tCm gLt (eVar 3) (eC (.int 3))) (sSeq (sPar 4 5 (aCons (eCall (lenOk 1 d__law_measure) (aCons (eVar 0) aNil)) (aCons (eOp2 gAdd (eC (.int 1)) (eOp2 gMod (eCB gInt (aCons (eCall (lenOk 1 d__law_next) (aCons (eVar 0) aNil)) aNil)) (eC (.int 3)))) aNil)))
    (sSeq (sAsg (.nm 6) (eOp2 gIx (eLst (aCons (eC (.int 24)) (aCons (eC (.int 3)) aNil))) (eCB gInt (aCons (eCmp gEq (eOp2 gIx (eVar 4) (eC (.int 0))) (eC (.str "days"))) aNil))))
    (sRet (eTup (aCons (eOp2 gIx (eLst (aCons (eC (.str "most")) (aCons (eC (.str "least")) aNil))) (eOp2 gSub (eVar 3) (eC (.int 1)))) (aCons (eVar 4) (aCons (eVar 5) (aCons (eOp2 gMod (eCB gInt (aCons (eCall (lenOk 1 d__law_next) (aCons (eVar 0) aNil)) aNil)) (eOp2 gAdd (eOp2 gMul (eVar 6) (eOp2 gSub (eC (.int 3)) (eVar 3))) (eC (.int 3)))) aNil)))))))) sNext)
    (sSeq (sIf (tCm gEq (eVar 3) (eC (.int 3))) (sRet (eTup (aCons (eC (.str "row")) (aCons (eCall (lenOk 2 d__law_pick) (aCons (eVar 0) (aCons (eLst (aCons (eC (.str "")) (aCons (eC (.str "")) (aCons (eC (.str "n")) (aCons (eC (.str "e")) aNil))))) aNil))) (aCons (eOp2 gMod (eCB gInt (aCons (eCall (lenOk 1 d__law_next) (aCons (eVar 0) aNil)) aNil)) (eC (.int 4))) aNil))))) sNext)
    (sSeq (sIf (tCm gEq (eVar 3) (eC (.int 4))) (sRet (eTup (aCons (eC (.str "behind")) (aCons (eCall (lenOk 2 d__law_pick) (aCons (eVar 0) (aCons (eLst (aCons (eC (.str "")) (aCons (eC (.str "n")) (aCons (eC (.str "e")) aNil)))) aNil))) (aCons (eOp2 gAdd (eC (.int 1)) (eOp2 gMod (eCB gInt (aCons (eCall (lenOk 1 d__law_next) (aCons (eVar 0) aNil)) aNil)) (eC (.int 3)))) (aCons (eOp2 gAdd (eC (.int 1)) (eOp2 gMod (eCB gInt (aCons (eCall (lenOk 1 d__law_next) (aCons (eVar 0) aNil)) aNil)) (eC (.int 3)))) aNil)))))) sNext)
    (sSeq (sIf (tCm gEq (eVar 3) (eC (.int 5))) (sSeq (sAsg (.nm 5) (eOp2 gAdd (eC (.int 1)) (eOp2 gMod (eCB gInt (aCons (eCall (lenOk 1 d__law_next) (aCons (eVar 0) aNil)) aNil)) (eC (.int 3)))))
    (sRet (eTup (aCons (eC (.str "kinds")) (aCons (eCall (lenOk 2 d__law_pick) (aCons (eVar 0) (aCons (eVar 1) aNil))) (aCons (eVar 5) (aCons (eOp2 gMod (eCB gInt (aCons (eCall (lenOk 1 d__law_next) (aCons (eVar 0) aNil)) aNil)) (eOp2 gAdd (eVar 5) (eC (.int 1)))) aNil))))))) sNext)
    (sSeq (sIf (tCm gEq (eVar 3) (eC (.int 6))) (sSeq (sAsg (.nm 7) (eCB gTuple (aCons c1__law_rule aNil)))
    (sRet (eTup (aCons (eC (.str "account")) (aCons (eOp2 gSub (eC (.int 0)) (eCall (lenOk 2 d__law_pick) (aCons (eVar 0) (aCons (eLst (aCons (eC (.int 0)) (aCons (eC (.int 4)) (aCons (eC (.int 8)) (aCons (eC (.int 12)) aNil))))) aNil)))) (aCons (eCall (lenOk 2 d__law_pick) (aCons (eVar 0) (aCons (eLst (aCons (eC (.int 0)) (aCons (eC (.int 8)) (aCons (eC (.int 12)) (aCons (eC (.int 16)) aNil))))) aNil))) (aCons (eVar 7) aNil))))))) sNext)
    (sSeq (sAsg (.nm 9) (eLstM aNil))
    (sSeq (sFor (iRange1 (aCons (eOp2 gAdd (eC (.int 1)) (eOp2 gMod (eCB gInt (aCons (eCall (lenOk 1 d__law_next) (aCons (eVar 0) aNil)) aNil)) (eC (.int 3)))) aNil)) (.nm 8) l1__law_rule)
    (sRet (eTup (aCons (eC (.str "not")) (aCons (eCB gTuple (aCons (eVar 9) aNil)) aNil)))))))))))))
def d__law_rule : Den := denOf 12 false b__law_rule
abbrev s__law_any_book : Stmt := top 113
theorem sc__law_any_book : FnScope ["draws", "calendar", "duties", "rules", "k"] ["draws"] (defScope s__law_any_book) := ⟨rfl, rfl, rfl, by decide +kernel, rfl, by decide +kernel, by decide +kernel⟩
abbrev c1__law_any_book : EF :=
  (eLc false (iRange1 (aCons (eOp2 gAdd (eC (.int 1)) (eOp2 gMod (eCB gInt (aCons (eCall (lenOk 1 d__law_next) (aCons (eVar 0) aNil)) aNil)) (eC (.int 3)))) aNil)) (.nm 4) tYesF (eCall (lenOk 1 d__law_duty) (aCons (eVar 0) aNil)) [4])
abbrev c2__law_any_book : EF :=
  (eLc false (iRange1 (aCons (eOp2 gMod (eCB gInt (aCons (eCall (lenOk 1 d__law_next) (aCons (eVar 0) aNil)) aNil)) (eC (.int 4))) aNil)) (.nm 4) tYesF (eCall (lenOk 3 d__law_rule) (aCons (eVar 0) (aCons (eVar 1) (aCons (eCB gLen (aCons (eVar 2) aNil)) aNil)))) [4])
def b__law_any_book : SF :=
  (sSeq (sAsg (.nm 1) (eCall (lenOk 2 d__law_pick) (aCons (eVar 0) (aCons (eLst (aCons (eTup (aCons (eC (.str "a")) aNil)) (aCons (eTup (aCons (eC (.str "a")) aNil)) (aCons (eTup (aCons (eC (.str "a")) (aCons (eC (.str "b")) aNil))) (aCons (eTup (aCons (eC (.str "a")) (aCons (eC (.str "a")) (aCons (eC (.str "b")) aNil)))) (aCons (eTup (aCons (eC (.str "b")) (aCons (eC (.str "a")) aNil))) aNil)))))) aNil))))
    (sSeq (sAsg (.nm 2) (eCB gTuple (aCons c1__law_any_book aNil)))
    (sSeq (sAsg (.nm 3) (eCB gTuple (aCons c2__law_any_book aNil)))
    (sRet (eTup (aCons (eVar 1) (aCons (eVar 2) (aCons (eVar 3) aNil))))))))
def d__law_any_book : Den := denOf 5 false b__law_any_book
abbrev s__law_entry : Stmt := top 114
theorem sc__law_entry : FnScope ["draws", "persons", "found", "k", "low"] ["draws", "persons"] (defScope s__law_entry) := ⟨rfl, rfl, rfl, by decide +kernel, rfl, by decide +kernel, by decide +kernel⟩
abbrev l1__law_entry : SF :=
  (sSeq (sAsg (.nm 4) (eOp2 gMod (eCB gInt (aCons (eCall (lenOk 1 d__law_next) (aCons (eVar 0) aNil)) aNil)) (eOp2 gAdd (eVar 1) (eC (.int 1)))))
    (sExpr (eMt gAppend (eVar 2) (aCons (eTup (aCons (eCall (lenOk 2 d__law_pick) (aCons (eVar 0) (aCons (eLst (aCons (eC (.str "")) (aCons (eC (.str "n")) (aCons (eC (.str "e")) (aCons (eC (.str "")) aNil))))) aNil))) (aCons (eVar 4) (aCons (eCB gMin2 (aCons (eC (.int 6)) (aCons (eOp2 gAdd (eVar 4) (eOp2 gMod (eCB gInt (aCons (eCall (lenOk 1 d__law_next) (aCons (eVar 0) aNil)) aNil)) (eC (.int 3)))) aNil))) aNil)))) aNil))))
def b__law_entry : SF :=
  (sSeq (sAsg (.nm 2) (eLstM aNil))
    (sSeq (sFor (iRange1 (aCons (eOp2 gMod (eCB gInt (aCons (eCall (lenOk 1 d__law_next) (aCons (eVar 0) aNil)) aNil)) (eC (.int 3))) aNil)) (.nm 3) l1__law_entry)
    (sRet (eCB gTuple (aCons (eVar 2) aNil)))))
def d__law_entry : Den := denOf 5 false b__law_entry
abbrev s__law_demand : Stmt := top 115
theorem sc__law_demand : FnScope ["draws", "book", "persons", "kind"] ["draws", "book", "persons"] (defScope s__law_demand) := ⟨rfl, rfl, rfl, by decide +kernel, rfl, by decide +kernel, by decide +kernel⟩
abbrev c1__law_demand : EF :=
  (eLc false (iSeq (eOp2 gIx (eVar 1) (eC (.int 0)))) (.nm 3) tYesF (eCall (lenOk 2 d__law_entry) (aCons (eVar 0) (aCons (eVar 2) aNil))) [3])
def b__law_demand : SF :=
  (sRet (eCB gTuple (aCons c1__law_demand aNil)))
def d__law_demand : Den := denOf 4 false b__law_demand
abbrev s__law_met : Stmt := top 116
theorem sc__law_met : FnScope ["duties", "entry", "day", "sort", "low", "high", "number"] ["duties", "entry", "day"] (defScope s__law_met) := ⟨rfl, rfl, rfl, by decide +kernel, rfl, by decide +kernel, by decide +kernel⟩
abbrev c1__law_met : EF :=
  (eLc false (iSeq (eVar 2)) (.nm 6) (tTru (eCall (lenOk 3 d__law_has) (aCons (eVar 0) (aCons (eVar 6) (aCons (eVar 3) aNil))))) (eVar 6) [6])
abbrev c2__law_met : EF :=
  (eLc false (iSeq (eVar 1)) (.tp [.nm 3, .nm 4, .nm 5]) tYesF (eChain gLe gLe (eVar 4) (eCB gLen (aCons c1__law_met aNil)) (eVar 5)) [3, 4, 5])
def b__law_met : SF :=
  (sRet (eCB gAll (aCons c2__law_met aNil)))
def d__law_met : Den := denOf 7 false b__law_met
abbrev s__law_behind : Stmt := top 109
theorem sc__law_behind : FnScope ["book", "here", "roster", "number"] ["book", "here", "roster"] (defScope s__law_behind) := ⟨rfl, rfl, rfl, by decide +kernel, rfl, by decide +kernel, by decide +kernel⟩
abbrev l1__law_behind : SF :=
  (sAsg (.nm 1) (eIf (tCm gIsNot (eVar 1) (eC .non)) (eCall (lenOk 3 d__law_step) (aCons (eVar 0) (aCons (eVar 1) (aCons (eVar 3) aNil)))) (eC .non)))
def b__law_behind : SF :=
  (sSeq (sFor (iSeq (eVar 2)) (.nm 3) l1__law_behind)
    (sRet (eVar 1)))
def d__law_behind : Den := denOf 4 false b__law_behind
abbrev s__law_standings : Stmt := top 117
theorem sc__law_standings : FnScope ["house", "plan", "book", "persons", "demand", "found", "day", "person", "row"] ["house", "plan"] (defScope s__law_standings) := ⟨rfl, rfl, rfl, by decide +kernel, rfl, by decide +kernel, by decide +kernel⟩
abbrev c1__law_standings : EF :=
  (eLc false (iRange1 (aCons (eCB gLen (aCons (eVar 1) aNil)) aNil)) (.nm 6) tYesF (eCall (lenOk 3 d__law_met) (aCons (eOp2 gIx (eVar 2) (eC (.int 1))) (aCons (eOp2 gIx (eVar 4) (eOp2 gMod (eCB gInt (aCons (eVar 6) aNil)) (eCB gLen (aCons (eOp2 gIx (eVar 2) (eC (.int 0))) aNil)))) (aCons (eOp2 gIx (eVar 1) (eVar 6)) aNil)))) [6])
abbrev c2__law_standings : EF :=
  (eLc false (iSeq (eVar 1)) (.nm 8) tYesF (eOp2 gIx (eVar 8) (eVar 7)) [8])
abbrev c3__law_standings : EF :=
  (eLc false (iRange1 (aCons (eVar 3) aNil)) (.nm 7) tYesF (eCall (lenOk 3 d__law_behind) (aCons (eVar 2) (aCons (eCall (lenOk 1 d__law_first) (aCons (eVar 2) aNil)) (aCons c2__law_standings aNil)))) [7])
def b__law_standings : SF :=
  (sSeq (sAsg (.tp [.nm 2, .nm 3, .nm 4]) (eVar 0))
    (sSeq (sIf (tNotF (tTru (eCB gAll (aCons c1__law_standings aNil)))) (sRet (eC .non)) sNext)
    (sSeq (sAsg (.nm 5) c3__law_standings)
    (sRet (eIf (tCm (gNoIn false) (eC .non) (eVar 5)) (eC .non) (eCB gTuple (aCons (eCB gSorted (aCons (eVar 5) aNil)) aNil)))))))
def d__law_standings : Den := denOf 9 false b__law_standings
abbrev s_check_calendar : Stmt := top 22
theorem sc_check_calendar : FnScope ["calendar"] ["calendar"] (defScope s_check_calendar) := ⟨rfl, rfl, rfl, by decide +kernel, rfl, by decide +kernel, by decide +kernel⟩
def b_check_calendar : SF :=
  (sIf (tNotF (tTru (eCall (lenOk 1 d_is_calendar) (aCons (eVar 0) aNil)))) (sRaise "NotCalendar") sNext)
def d_check_calendar : Den := denOf 1 false b_check_calendar
abbrev s_check_duties : Stmt := top 25
theorem sc_check_duties : FnScope ["duties"] ["duties"] (defScope s_check_duties) := ⟨rfl, rfl, rfl, by decide +kernel, rfl, by decide +kernel, by decide +kernel⟩
def b_check_duties : SF :=
  (sIf (tNotF (tTru (eCall (lenOk 1 d_is_duties) (aCons (eVar 0) aNil)))) (sRaise "NotDuties") sNext)
def d_check_duties : Den := denOf 1 false b_check_duties
abbrev s_check_book : Stmt := top 67
theorem sc_check_book : FnScope ["book", "calendar", "duties", "rules", "rule"] ["book"] (defScope s_check_book) := ⟨rfl, rfl, rfl, by decide +kernel, rfl, by decide +kernel, by decide +kernel⟩
abbrev c1_check_book : EF :=
  (eLc false (iSeq (eVar 3)) (.nm 4) tYesF (eCall (lenOk 3 d_fits) (aCons (eVar 1) (aCons (eVar 2) (aCons (eVar 4) aNil)))) [4])
def b_check_book : SF :=
  (sSeq (sAsg (.tp [.nm 1, .nm 2, .nm 3]) (eVar 0))
    (sSeq (sExpr (eCall (lenOk 1 d_check_calendar) (aCons (eVar 1) aNil)))
    (sSeq (sExpr (eCall (lenOk 1 d_check_duties) (aCons (eVar 2) aNil)))
    (sSeq (sIf (tNotF (tTru (eCB gAll (aCons c1_check_book aNil)))) (sRaise "NotRule") sNext)
    (sIf (tCm gGt (eCB gLen (aCons (eVar 3) aNil)) (eC (.int 6))) (sRaise "BadNumber") sNext)))))
def d_check_book : Den := denOf 5 false b_check_book
abbrev s_check_house : Stmt := top 80
theorem sc_check_house : FnScope ["house", "book", "persons", "demand"] ["house"] (defScope s_check_house) := ⟨rfl, rfl, rfl, by decide +kernel, rfl, by decide +kernel, by decide +kernel⟩
def b_check_house : SF :=
  (sSeq (sAsg (.tp [.nm 1, .nm 2, .nm 3]) (eVar 0))
    (sSeq (sExpr (eCall (lenOk 1 d_check_book) (aCons (eVar 1) aNil)))
    (sSeq (sIf (tNotF (tTru (eCall (lenOk 1 d_is_crew) (aCons (eVar 2) aNil)))) (sRaise "BadNumber") sNext)
    (sIf (tNotF (tTru (eCall (lenOk 2 d_is_demand) (aCons (eVar 1) (aCons (eVar 3) aNil))))) (sRaise "NotDemand") sNext))))
def d_check_house : Den := denOf 4 false b_check_house
abbrev s_is_row : Stmt := top 33
theorem sc_is_row : FnScope ["duties", "roster", "number"] ["duties", "roster"] (defScope s_is_row) := ⟨rfl, rfl, rfl, by decide +kernel, rfl, by decide +kernel, by decide +kernel⟩
abbrev c1_is_row : EF :=
  (eLc false (iSeq (eVar 1)) (.nm 2) tYesF (eChain gLe gLe (eC (.int 0)) (eVar 2) (eCB gLen (aCons (eVar 0) aNil))) [2])
def b_is_row : SF :=
  (sRet (eCB gAll (aCons c1_is_row aNil)))
def d_is_row : Den := denOf 3 false b_is_row
abbrev s_is_day : Stmt := top 81
theorem sc_is_day : FnScope ["house", "day"] ["house", "day"] (defScope s_is_day) := ⟨rfl, rfl, rfl, by decide +kernel, rfl, by decide +kernel, by decide +kernel⟩
def b_is_day : SF :=
  (sRet (eAnd (eCmp gEq (eCB gLen (aCons (eVar 1) aNil)) (eOp2 gIx (eVar 0) (eC (.int 1)))) (eCall (lenOk 2 d_is_row) (aCons (eOp2 gIx (eOp2 gIx (eVar 0) (eC (.int 0))) (eC (.int 1))) (aCons (eVar 1) aNil)))))
def d_is_day : Den := denOf 2 false b_is_day
abbrev s_is_of : Stmt := top 30
theorem sc_is_of : FnScope ["duties", "number", "sort"] ["duties", "number", "sort"] (defScope s_is_of) := ⟨rfl, rfl, rfl, by decide +kernel, rfl, by decide +kernel, by decide +kernel⟩
def b_is_of : SF :=
  (sRet (eAnd (eCmp gNe (eVar 1) (eC (.int 0))) (eOr (eCmp gEq (eVar 2) (eC (.str ""))) (eCmp gIn (eVar 2) (eOp2 gIx (eOp2 gIx (eVar 0) (eOp2 gSub (eVar 1) (eC (.int 1)))) (eC (.int 3)))))))
def d_is_of : Den := denOf 3 false b_is_of
abbrev s_met : Stmt := top 82
theorem sc_met : FnScope ["house", "phase", "day", "duties", "sort", "low", "high", "number"] ["house", "phase", "day"] (defScope s_met) := ⟨rfl, rfl, rfl, by decide +kernel, rfl, by decide +kernel, by decide +kernel⟩
abbrev c1_met : EF :=
  (eLc false (iSeq (eVar 2)) (.nm 7) (tTru (eCall (lenOk 3 d_is_of) (aCons (eVar 3) (aCons (eVar 7) (aCons (eVar 4) aNil))))) (eVar 7) [7])
abbrev l1_met : SF :=
  (sIf (tNotF (tChn gLe gLe (eVar 5) (eCB gLen (aCons c1_met aNil)) (eVar 6))) (sRet (eC (.bl false))) sNext)
def b_met : SF :=
  (sSeq (sAsg (.nm 3) (eOp2 gIx (eOp2 gIx (eVar 0) (eC (.int 0))) (eC (.int 1))))
    (sSeq (sFor (iSeq (eOp2 gIx (eOp2 gIx (eVar 0) (eC (.int 2))) (eVar 1))) (.tp [.nm 4, .nm 5, .nm 6]) l1_met)
    (sRet (eC (.bl true)))))
def d_met : Den := denOf 8 false b_met
abbrev s_meets : Stmt := top 83
theorem sc_meets : FnScope ["house", "phase", "day"] ["house", "phase", "day"] (defScope s_meets) := ⟨rfl, rfl, rfl, by decide +kernel, rfl, by decide +kernel, by decide +kernel⟩
def b_meets : SF :=
  (sSeq (sExpr (eCall (lenOk 1 d_check_house) (aCons (eVar 0) aNil)))
    (sSeq (sIf (tNotF (tTru (eCall (lenOk 2 d_is_day) (aCons (eVar 0) (aCons (eVar 2) aNil))))) (sRaise "NotRoster") sNext)
    (sSeq (sIf (tNotF (tChn gLe gLt (eC (.int 0)) (eVar 1) (eCB gLen (aCons (eOp2 gIx (eOp2 gIx (eVar 0) (eC (.int 0))) (eC (.int 0))) aNil)))) (sRaise "BadNumber") sNext)
    (sRet (eCall (lenOk 3 d_met) (aCons (eVar 0) (aCons (eVar 1) (aCons (eVar 2) aNil))))))))
def d_meets : Den := denOf 3 false b_meets
abbrev s_check_plan : Stmt := top 84
theorem sc_check_plan : FnScope ["house", "plan", "day"] ["house", "plan"] (defScope s_check_plan) := ⟨rfl, rfl, rfl, by decide +kernel, rfl, by decide +kernel, by decide +kernel⟩
abbrev c1_check_plan : EF :=
  (eLc false (iSeq (eVar 1)) (.nm 2) tYesF (eCall (lenOk 2 d_is_day) (aCons (eVar 0) (aCons (eVar 2) aNil))) [2])
def b_check_plan : SF :=
  (sSeq (sExpr (eCall (lenOk 1 d_check_house) (aCons (eVar 0) aNil)))
    (sIf (tNotF (tTru (eCB gAll (aCons c1_check_plan aNil)))) (sRaise "NotRoster") sNext))
def d_check_plan : Den := denOf 3 false b_check_plan
abbrev s_start_of : Stmt := top 53
theorem sc_start_of : FnScope ["rule", "word"] ["rule"] (defScope s_start_of) := ⟨rfl, rfl, rfl, by decide +kernel, rfl, by decide +kernel, by decide +kernel⟩
def b_start_of : SF :=
  (sSeq (sAsg (.nm 1) (eOp2 gIx (eVar 0) (eC (.int 0))))
    (sSeq (sIf (tCm gEq (eVar 1) (eC (.str "rest"))) (sRet (eOp2 gIx (eVar 0) (eC (.int 1)))) sNext)
    (sSeq (sIf (tCm gEq (eVar 1) (eC (.str "most"))) (sRet (eOp2 gMul (eTup (aCons (eC (.int 0)) aNil)) (eOp2 gSub (eOp2 gIx (eVar 0) (eC (.int 2))) (eC (.int 1))))) sNext)
    (sSeq (sIf (tCm gIn (eVar 1) (eTup (aCons (eC (.str "row")) (aCons (eC (.str "account")) aNil)))) (sRet (eC (.int 0))) sNext)
    (sRet (eIf (tCm gEq (eVar 1) (eC (.str "behind"))) (eTup (aCons (eC (.int 0)) (aCons (eC (.int 0)) aNil))) (eTup aNil)))))))
def d_start_of : Den := denOf 2 false b_start_of
abbrev s_all_rules : Stmt := top 68
theorem sc_all_rules : FnScope ["book"] ["book"] (defScope s_all_rules) := ⟨rfl, rfl, rfl, by decide +kernel, rfl, by decide +kernel, by decide +kernel⟩
def b_all_rules : SF :=
  (sRet (eTup (aCons (eC (.tup [.str "rest", .int 0])) (aStar (eOp2 gIx (eVar 0) (eC (.int 2))) aNil))))
def d_all_rules : Den := denOf 1 false b_all_rules
abbrev s_start : Stmt := top 69
theorem sc_start : FnScope ["book", "rule"] ["book"] (defScope s_start) := ⟨rfl, rfl, rfl, by decide +kernel, rfl, by decide +kernel, by decide +kernel⟩
abbrev c1_start : EF :=
  (eLc false (iSeq (eCall (lenOk 1 d_all_rules) (aCons (eVar 0) aNil))) (.nm 1) tYesF (eCall (lenOk 1 d_start_of) (aCons (eVar 1) aNil)) [1])
def b_start : SF :=
  (sRet (eTup (aCons (eC (.int 0)) (aStar c1_start aNil))))
def d_start : Den := denOf 2 false b_start
abbrev s_begins : Stmt := top 27
theorem sc_begins : FnScope ["duties", "number"] ["duties", "number"] (defScope s_begins) := ⟨rfl, rfl, rfl, by decide +kernel, rfl, by decide +kernel, by decide +kernel⟩
def b_begins : SF :=
  (sRet (eOp2 gIx (eOp2 gIx (eVar 0) (eOp2 gSub (eVar 1) (eC (.int 1)))) (eC (.int 0))))
def d_begins : Den := denOf 2 false b_begins
abbrev s_ends : Stmt := top 28
theorem sc_ends : FnScope ["duties", "number"] ["duties", "number"] (defScope s_ends) := ⟨rfl, rfl, rfl, by decide +kernel, rfl, by decide +kernel, by decide +kernel⟩
def b_ends : SF :=
  (sRet (eOp2 gAdd (eOp2 gIx (eOp2 gIx (eVar 0) (eOp2 gSub (eVar 1) (eC (.int 1)))) (eC (.int 0))) (eOp2 gIx (eOp2 gIx (eVar 0) (eOp2 gSub (eVar 1) (eC (.int 1)))) (eC (.int 1)))))
def d_ends : Den := denOf 2 false b_ends
abbrev s_behind_rest : Stmt := top 55
theorem sc_behind_rest : FnScope ["duties", "rule", "standing", "number"] ["duties", "rule", "standing", "number"] (defScope s_behind_rest) := ⟨rfl, rfl, rfl, by decide +kernel, rfl, by decide +kernel, by decide +kernel⟩
def b_behind_rest : SF :=
  (sSeq (sIf (tCm gEq (eVar 3) (eC (.int 0))) (sRet (eCB gMin2 (aCons (eOp2 gIx (eVar 1) (eC (.int 1))) (aCons (eOp2 gAdd (eVar 2) (eC (.int 24))) aNil)))) sNext)
    (sSeq (sIf (tCm gLt (eOp2 gAdd (eVar 2) (eCall (lenOk 2 d_begins) (aCons (eVar 0) (aCons (eVar 3) aNil)))) (eOp2 gIx (eVar 1) (eC (.int 1)))) (sRet (eC .non)) sNext)
    (sRet (eCB gMin2 (aCons (eOp2 gIx (eVar 1) (eC (.int 1))) (aCons (eOp2 gSub (eC (.int 24)) (eCall (lenOk 2 d_ends) (aCons (eVar 0) (aCons (eVar 3) aNil)))) aNil))))))
def d_behind_rest : Den := denOf 4 false b_behind_rest
abbrev s_worth_of : Stmt := top 26
theorem sc_worth_of : FnScope ["duties", "number"] ["duties", "number"] (defScope s_worth_of) := ⟨rfl, rfl, rfl, by decide +kernel, rfl, by decide +kernel, by decide +kernel⟩
def b_worth_of : SF :=
  (sRet (eIf (tCm gEq (eVar 1) (eC (.int 0))) (eC (.int 0)) (eOp2 gSub (eOp2 gIx (eOp2 gIx (eVar 0) (eOp2 gSub (eVar 1) (eC (.int 1)))) (eC (.int 1))) (eOp2 gIx (eOp2 gIx (eVar 0) (eOp2 gSub (eVar 1) (eC (.int 1)))) (eC (.int 2))))))
def d_worth_of : Den := denOf 2 false b_worth_of
abbrev s_measure_of : Stmt := top 32
theorem sc_measure_of : FnScope ["duties", "measure", "number"] ["duties", "measure", "number"] (defScope s_measure_of) := ⟨rfl, rfl, rfl, by decide +kernel, rfl, by decide +kernel, by decide +kernel⟩
def b_measure_of : SF :=
  (sSeq (sIf (tNotF (tTru (eCall (lenOk 3 d_is_of) (aCons (eVar 0) (aCons (eVar 2) (aCons (eOp2 gIx (eVar 1) (eC (.int 1))) aNil)))))) (sRet (eC (.int 0))) sNext)
    (sRet (eIf (tCm gEq (eOp2 gIx (eVar 1) (eC (.int 0))) (eC (.str "days"))) (eC (.int 1)) (eCall (lenOk 2 d_worth_of) (aCons (eVar 0) (aCons (eVar 2) aNil))))))
def d_measure_of : Den := denOf 3 false b_measure_of
abbrev s_shifted : Stmt := top 54
theorem sc_shifted : FnScope ["standing", "entry", "most", "longer"] ["standing", "entry", "most"] (defScope s_shifted) := ⟨rfl, rfl, rfl, by decide +kernel, rfl, by decide +kernel, by decide +kernel⟩
def b_shifted : SF :=
  (sSeq (sAsg (.nm 3) (eTup (aStar (eVar 0) (aCons (eVar 1) aNil))))
    (sRet (eIf (tCm gGt (eCB gLen (aCons (eVar 3) aNil)) (eVar 2)) (eSl (eVar 3) (pSome (eOp2 gSub (eCB gLen (aCons (eVar 3) aNil)) (eVar 2))) pNone) (eVar 3))))
def d_shifted : Den := denOf 4 false b_shifted
abbrev s_behind_window : Stmt := top 56
theorem sc_behind_window : FnScope ["duties", "rule", "standing", "number", "word", "measure", "n", "k", "entry", "whole"] ["duties", "rule", "standing", "number"] (defScope s_behind_window) := ⟨rfl, rfl, rfl, by decide +kernel, rfl, by decide +kernel, by decide +kernel⟩
def b_behind_window : SF :=
  (sSeq (sAsg (.tp [.nm 4, .nm 5, .nm 6, .nm 7]) (eVar 1))
    (sSeq (sAsg (.nm 8) (eCall (lenOk 3 d_measure_of) (aCons (eVar 0) (aCons (eVar 5) (aCons (eVar 3) aNil)))))
    (sSeq (sAsg (.nm 9) (eOp2 gAdd (eCB gSumA (aCons (eVar 2) aNil)) (eVar 8)))
    (sSeq (sIf (tOrF (tAndF (tCm gEq (eVar 4) (eC (.str "most"))) (tCm gGt (eVar 9) (eVar 7))) (tAndF (tCm gEq (eVar 4) (eC (.str "least"))) (tAndF (tCm gEq (eCB gLen (aCons (eVar 2) aNil)) (eOp2 gSub (eVar 6) (eC (.int 1)))) (tCm gLt (eVar 9) (eVar 7))))) (sRet (eC .non)) sNext)
    (sRet (eCall (lenOk 3 d_shifted) (aCons (eVar 2) (aCons (eVar 8) (aCons (eOp2 gSub (eVar 6) (eC (.int 1))) aNil)))))))))
def d_behind_window : Den := denOf 10 false b_behind_window
abbrev s_behind_row : Stmt := top 57
theorem sc_behind_row : FnScope ["duties", "rule", "standing", "number"] ["duties", "rule", "standing", "number"] (defScope s_behind_row) := ⟨rfl, rfl, rfl, by decide +kernel, rfl, by decide +kernel, by decide +kernel⟩
def b_behind_row : SF :=
  (sSeq (sIf (tNotF (tTru (eCall (lenOk 3 d_is_of) (aCons (eVar 0) (aCons (eVar 3) (aCons (eOp2 gIx (eVar 1) (eC (.int 1))) aNil)))))) (sRet (eC (.int 0))) sNext)
    (sRet (eIf (tCm gLt (eVar 2) (eOp2 gIx (eVar 1) (eC (.int 2)))) (eOp2 gAdd (eVar 2) (eC (.int 1))) (eC .non))))
def d_behind_row : Den := denOf 4 false b_behind_row
abbrev s_behind_free : Stmt := top 58
theorem sc_behind_free : FnScope ["duties", "rule", "standing", "number", "_", "sort", "k", "m", "count", "due"] ["duties", "rule", "standing", "number"] (defScope s_behind_free) := ⟨rfl, rfl, rfl, by decide +kernel, rfl, by decide +kernel, by decide +kernel⟩
def b_behind_free : SF :=
  (sSeq (sAsg (.tp [.nm 4, .nm 5, .nm 6, .nm 7]) (eVar 1))
    (sSeq (sAsg (.tp [.nm 8, .nm 9]) (eVar 2))
    (sSeq (sIf (tCm gGt (eVar 9) (eC (.int 0))) (sRet (eIf (tCm gEq (eVar 3) (eC (.int 0))) (eTup (aCons (eC (.int 0)) (aCons (eOp2 gSub (eVar 9) (eC (.int 1))) aNil))) (eC .non))) sNext)
    (sSeq (sIf (tTru (eCall (lenOk 3 d_is_of) (aCons (eVar 0) (aCons (eVar 3) (aCons (eVar 5) aNil))))) (sRet (eTup (aCons (eCB gMin2 (aCons (eVar 6) (aCons (eOp2 gAdd (eVar 8) (eC (.int 1))) aNil))) (aCons (eC (.int 0)) aNil)))) sNext)
    (sSeq (sIf (tCm gLt (eVar 8) (eVar 6)) (sRet (eTup (aCons (eC (.int 0)) (aCons (eC (.int 0)) aNil)))) sNext)
    (sRet (eIf (tCm gEq (eVar 3) (eC (.int 0))) (eTup (aCons (eC (.int 0)) (aCons (eOp2 gSub (eVar 7) (eC (.int 1))) aNil))) (eC .non))))))))
def d_behind_free : Den := denOf 10 false b_behind_free
abbrev s_behind_kinds : Stmt := top 59
theorem sc_behind_kinds : FnScope ["calendar", "rule", "standing", "phase", "number", "_", "kind", "n", "k", "entry"] ["calendar", "rule", "standing", "phase", "number"] (defScope s_behind_kinds) := ⟨rfl, rfl, rfl, by decide +kernel, rfl, by decide +kernel, by decide +kernel⟩
def b_behind_kinds : SF :=
  (sSeq (sAsg (.tp [.nm 5, .nm 6, .nm 7, .nm 8]) (eVar 1))
    (sSeq (sIf (tCm gNe (eOp2 gIx (eVar 0) (eVar 3)) (eVar 6)) (sRet (eVar 2)) sNext)
    (sSeq (sAsg (.nm 9) (eCB gInt (aCons (eCmp gEq (eVar 4) (eC (.int 0))) aNil)))
    (sSeq (sIf (tAndF (tCm gEq (eCB gLen (aCons (eVar 2) aNil)) (eOp2 gSub (eVar 7) (eC (.int 1)))) (tCm gLt (eOp2 gAdd (eCB gSumA (aCons (eVar 2) aNil)) (eVar 9)) (eVar 8))) (sRet (eC .non)) sNext)
    (sRet (eCall (lenOk 3 d_shifted) (aCons (eVar 2) (aCons (eVar 9) (aCons (eOp2 gSub (eVar 7) (eC (.int 1))) aNil)))))))))
def d_behind_kinds : Den := denOf 10 false b_behind_kinds
abbrev s_behind_account : Stmt := top 60
theorem sc_behind_account : FnScope ["duties", "rule", "standing", "phase", "number", "_", "low", "high", "plan", "account"] ["duties", "rule", "standing", "phase", "number"] (defScope s_behind_account) := ⟨rfl, rfl, rfl, by decide +kernel, rfl, by decide +kernel, by decide +kernel⟩
def b_behind_account : SF :=
  (sSeq (sAsg (.tp [.nm 5, .nm 6, .nm 7, .nm 8]) (eVar 1))
    (sSeq (sAsg (.nm 9) (eOp2 gSub (eOp2 gAdd (eVar 2) (eCall (lenOk 2 d_worth_of) (aCons (eVar 0) (aCons (eVar 4) aNil)))) (eOp2 gIx (eVar 8) (eVar 3))))
    (sRet (eIf (tChn gLe gLe (eVar 6) (eVar 9) (eVar 7)) (eVar 9) (eC .non)))))
def d_behind_account : Den := denOf 10 false b_behind_account
abbrev s_behind_not : Stmt := top 61
theorem sc_behind_not : FnScope ["rule", "standing", "number", "sets", "found", "at"] ["rule", "standing", "number"] (defScope s_behind_not) := ⟨rfl, rfl, rfl, by decide +kernel, rfl, by decide +kernel, by decide +kernel⟩
abbrev c1_behind_not : EF :=
  (eLc false (iSeq (eTup (aCons (eC (.int 0)) (aStar (eVar 1) aNil)))) (.nm 5) (tCm gIn (eVar 2) (eOp2 gIx (eVar 3) (eVar 5))) (eOp2 gAdd (eVar 5) (eC (.int 1))) [5])
def b_behind_not : SF :=
  (sSeq (sAsg (.nm 3) (eOp2 gIx (eVar 0) (eC (.int 1))))
    (sSeq (sAsg (.nm 4) c1_behind_not)
    (sRet (eIf (tCm gIn (eCB gLen (aCons (eVar 3) aNil)) (eVar 4)) (eC .non) (eCB gTuple (aCons (eVar 4) aNil))))))
def d_behind_not : Den := denOf 6 false b_behind_not
abbrev s_stood : Stmt := top 62
theorem sc_stood : FnScope ["calendar", "duties", "rule", "standing", "phase", "number", "word"] ["calendar", "duties", "rule", "standing", "phase", "number"] (defScope s_stood) := ⟨rfl, rfl, rfl, by decide +kernel, rfl, by decide +kernel, by decide +kernel⟩
def b_stood : SF :=
  (sSeq (sAsg (.nm 6) (eOp2 gIx (eVar 2) (eC (.int 0))))
    (sSeq (sIf (tCm gEq (eVar 6) (eC (.str "rest"))) (sRet (eCall (lenOk 4 d_behind_rest) (aCons (eVar 1) (aCons (eVar 2) (aCons (eVar 3) (aCons (eVar 5) aNil)))))) sNext)
    (sSeq (sIf (tCm gIn (eVar 6) (eTup (aCons (eC (.str "most")) (aCons (eC (.str "least")) aNil)))) (sRet (eCall (lenOk 4 d_behind_window) (aCons (eVar 1) (aCons (eVar 2) (aCons (eVar 3) (aCons (eVar 5) aNil)))))) sNext)
    (sSeq (sIf (tCm gEq (eVar 6) (eC (.str "row"))) (sRet (eCall (lenOk 4 d_behind_row) (aCons (eVar 1) (aCons (eVar 2) (aCons (eVar 3) (aCons (eVar 5) aNil)))))) sNext)
    (sSeq (sIf (tCm gEq (eVar 6) (eC (.str "behind"))) (sRet (eCall (lenOk 4 d_behind_free) (aCons (eVar 1) (aCons (eVar 2) (aCons (eVar 3) (aCons (eVar 5) aNil)))))) sNext)
    (sSeq (sIf (tCm gEq (eVar 6) (eC (.str "kinds"))) (sRet (eCall (lenOk 5 d_behind_kinds) (aCons (eVar 0) (aCons (eVar 2) (aCons (eVar 3) (aCons (eVar 4) (aCons (eVar 5) aNil))))))) sNext)
    (sSeq (sIf (tCm gEq (eVar 6) (eC (.str "account"))) (sRet (eCall (lenOk 5 d_behind_account) (aCons (eVar 1) (aCons (eVar 2) (aCons (eVar 3) (aCons (eVar 4) (aCons (eVar 5) aNil))))))) sNext)
    (sRet (eCall (lenOk 3 d_behind_not) (aCons (eVar 2) (aCons (eVar 3) (aCons (eVar 5) aNil))))))))))))
def d_stood : Den := denOf 7 false b_stood
abbrev s_parts_behind : Stmt := top 70
theorem sc_parts_behind : FnScope ["book", "standing", "number", "calendar", "duties", "_", "phase", "rule", "part"] ["book", "standing", "number"] (defScope s_parts_behind) := ⟨rfl, rfl, rfl, by decide +kernel, rfl, by decide +kernel, by decide +kernel⟩
abbrev c1_parts_behind : EF :=
  (eLc false (iZip2 (aCons (eCall (lenOk 1 d_all_rules) (aCons (eVar 0) aNil)) (aCons (eSl (eVar 1) (pSome (eC (.int 1))) pNone) aNil))) (.tp [.nm 7, .nm 8]) tYesF (eCall (lenOk 6 d_stood) (aCons (eVar 3) (aCons (eVar 4) (aCons (eVar 7) (aCons (eVar 8) (aCons (eVar 6) (aCons (eVar 2) aNil))))))) [7, 8])
def b_parts_behind : SF :=
  (sSeq (sAsg (.tp [.nm 3, .nm 4, .nm 5]) (eVar 0))
    (sSeq (sAsg (.nm 6) (eOp2 gIx (eVar 1) (eC (.int 0))))
    (sRet c1_parts_behind)))
def d_parts_behind : Den := denOf 9 false b_parts_behind
abbrev s_behind : Stmt := top 71
theorem sc_behind : FnScope ["book", "standing", "number", "parts"] ["book", "standing", "number"] (defScope s_behind) := ⟨rfl, rfl, rfl, by decide +kernel, rfl, by decide +kernel, by decide +kernel⟩
def b_behind : SF :=
  (sSeq (sAsg (.nm 3) (eCall (lenOk 3 d_parts_behind) (aCons (eVar 0) (aCons (eVar 1) (aCons (eVar 2) aNil)))))
    (sRet (eIf (tCm (gNoIn false) (eC .non) (eVar 3)) (eC .non) (eTup (aCons (eOp2 gMod (eOp2 gAdd (eOp2 gIx (eVar 1) (eC (.int 0))) (eC (.int 1))) (eCB gLen (aCons (eOp2 gIx (eVar 0) (eC (.int 0))) aNil))) (aStar (eVar 3) aNil))))))
def d_behind : Den := denOf 4 false b_behind
abbrev s_behind_all : Stmt := top 72
theorem sc_behind_all : FnScope ["book", "standing", "roster", "number"] ["book", "standing", "roster"] (defScope s_behind_all) := ⟨rfl, rfl, rfl, by decide +kernel, rfl, by decide +kernel, by decide +kernel⟩
abbrev l1_behind_all : SF :=
  (sSeq (sAsg (.nm 1) (eCall (lenOk 3 d_behind) (aCons (eVar 0) (aCons (eVar 1) (aCons (eVar 3) aNil)))))
    (sIf (tCm gIs (eVar 1) (eC .non)) (sRet (eC .non)) sNext))
def b_behind_all : SF :=
  (sSeq (sFor (iSeq (eVar 2)) (.nm 3) l1_behind_all)
    (sRet (eVar 1)))
def d_behind_all : Den := denOf 4 false b_behind_all
abbrev s_standings_of : Stmt := top 85
theorem sc_standings_of : FnScope ["house", "plan", "book", "phases", "found", "day", "row", "person"] ["house", "plan"] (defScope s_standings_of) := ⟨rfl, rfl, rfl, by decide +kernel, rfl, by decide +kernel, by decide +kernel⟩
abbrev c1_standings_of : EF :=
  (eLc false (iEnum (aCons (eVar 1) aNil)) (.tp [.nm 5, .nm 6]) tYesF (eCall (lenOk 3 d_met) (aCons (eVar 0) (aCons (eOp2 gMod (eVar 5) (eVar 3)) (aCons (eVar 6) aNil)))) [5, 6])
abbrev c2_standings_of : EF :=
  (eLc false (iSeq (eVar 1)) (.nm 6) tYesF (eOp2 gIx (eVar 6) (eVar 7)) [6])
abbrev c3_standings_of : EF :=
  (eLc false (iRange1 (aCons (eOp2 gIx (eVar 0) (eC (.int 1))) aNil)) (.nm 7) tYesF (eCall (lenOk 3 d_behind_all) (aCons (eVar 2) (aCons (eCall (lenOk 1 d_start) (aCons (eVar 2) aNil)) (aCons c2_standings_of aNil)))) [7])
def b_standings_of : SF :=
  (sSeq (sAsg (.nm 2) (eOp2 gIx (eVar 0) (eC (.int 0))))
    (sSeq (sAsg (.nm 3) (eCB gLen (aCons (eOp2 gIx (eVar 2) (eC (.int 0))) aNil)))
    (sSeq (sIf (tNotF (tTru (eCB gAll (aCons c1_standings_of aNil)))) (sRet (eC .non)) sNext)
    (sSeq (sAsg (.nm 4) c3_standings_of)
    (sRet (eIf (tCm (gNoIn false) (eC .non) (eVar 4)) (eC .non) (eVar 4)))))))
def d_standings_of : Den := denOf 8 false b_standings_of
abbrev s_is_right_plan : Stmt := top 86
theorem sc_is_right_plan : FnScope ["house", "plan"] ["house", "plan"] (defScope s_is_right_plan) := ⟨rfl, rfl, rfl, by decide +kernel, rfl, by decide +kernel, by decide +kernel⟩
def b_is_right_plan : SF :=
  (sSeq (sExpr (eCall (lenOk 2 d_check_plan) (aCons (eVar 0) (aCons (eVar 1) aNil))))
    (sRet (eCmp gIsNot (eCall (lenOk 2 d_standings_of) (aCons (eVar 0) (aCons (eVar 1) aNil))) (eC .non))))
def d_is_right_plan : Den := denOf 2 false b_is_right_plan
abbrev s_right_standings : Stmt := top 87
theorem sc_right_standings : FnScope ["house", "plan", "found"] ["house", "plan"] (defScope s_right_standings) := ⟨rfl, rfl, rfl, by decide +kernel, rfl, by decide +kernel, by decide +kernel⟩
def b_right_standings : SF :=
  (sSeq (sExpr (eCall (lenOk 2 d_check_plan) (aCons (eVar 0) (aCons (eVar 1) aNil))))
    (sSeq (sAsg (.nm 2) (eCall (lenOk 2 d_standings_of) (aCons (eVar 0) (aCons (eVar 1) aNil))))
    (sSeq (sIf (tCm gIs (eVar 2) (eC .non)) (sRaise "NoAnswer") sNext)
    (sRet (eVar 2)))))
def d_right_standings : Den := denOf 3 false b_right_standings
abbrev s_joint_of : Stmt := top 88
theorem sc_joint_of : FnScope ["house", "plan"] ["house", "plan"] (defScope s_joint_of) := ⟨rfl, rfl, rfl, by decide +kernel, rfl, by decide +kernel, by decide +kernel⟩
def b_joint_of : SF :=
  (sRet (eCB gTuple (aCons (eCB gSorted (aCons (eCall (lenOk 2 d_right_standings) (aCons (eVar 0) (aCons (eVar 1) aNil))) aNil)) aNil)))
def d_joint_of : Den := denOf 2 false b_joint_of
abbrev s__law_kind : Stmt := top 96
theorem sc__law_kind : FnScope ["error", "names", "found"] ["error"] (defScope s__law_kind) := ⟨rfl, rfl, rfl, by decide +kernel, rfl, by decide +kernel, by decide +kernel⟩
def b__law_kind (a : Addr) (cls : Str) : SF :=
  (sSeq (sAsg (.nm 1) (eLst (aCons (eC (.str "calendar")) (aCons (eC (.str "duties")) (aCons (eC (.str "rule")) (aCons (eC (.str "roster")) (aCons (eC (.str "demand")) (aCons (eC (.str "program")) (aCons (eC (.str "paper")) (aCons (eC (.str "number")) (aCons (eC (.str "none")) (aCons (eC (.str "large")) aNil))))))))))))
    (sSeq (sAsg (.nm 2) (eLst (aCons (eIsx a (cls == "NotCalendar") 0) (aCons (eIsx a (cls == "NotDuties") 0) (aCons (eIsx a (cls == "NotRule") 0) (aCons (eIsx a (cls == "NotRoster") 0) aNil))))))
    (sSeq (sAsg (.nm 2) (eOp2 gAdd (eVar 2) (eLst (aCons (eIsx a (cls == "NotDemand") 0) (aCons (eIsx a (cls == "NotProgram") 0) (aCons (eIsx a (cls == "NotPaper") 0) (aCons (eIsx a (cls == "BadNumber") 0) aNil)))))))
    (sSeq (sAsg (.nm 2) (eOp2 gAdd (eVar 2) (eLst (aCons (eIsx a (cls == "NoAnswer") 0) (aCons (eIsx a (cls == "TooLarge") 0) aNil)))))
    (sRet (eIf (tCm gEq (eMt gCount (eVar 2) (aCons (eC (.bl true)) aNil)) (eC (.int 1))) (eOp2 gAdd (eC (.str "!")) (eOp2 gIx (eVar 1) (eMt gIndex (eVar 2) (aCons (eC (.bl true)) aNil)))) (eC (.str "!other"))))))))
def d__law_kind (a : Addr) (cls : Str) : Den := denOf 3 false fun ρ s => match b__law_kind a cls ρ s with
  | .er _ _ _ => .no
  | o => o
def tb_is_right_plan_joint_of : List (Str × Nat × Den) := [("is_right_plan", 2, d_is_right_plan), ("joint_of", 2, d_joint_of)]
abbrev s__law_asked : Stmt := top 118
theorem sc__law_asked : FnScope ["way", "house", "one", "other", "error"] ["way", "house", "one", "other"] (defScope s__law_asked) := ⟨rfl, rfl, rfl, by decide +kernel, rfl, by decide +kernel, by decide +kernel⟩
def b__law_asked : SF :=
  (sTryKind 4 kindSub kindD (sRet (eIf (tCm gLt (eVar 0) (eC (.int 2))) (eCallV tb_is_right_plan_joint_of (eOp2 gIx (eLst (aCons (eC (.gl "is_right_plan")) (aCons (eC (.gl "joint_of")) aNil))) (eVar 0)) (aCons (eVar 1) (aCons (eVar 2) aNil))) (eCall (lenOk 3 d_meets) (aCons (eVar 1) (aCons (eVar 2) (aCons (eVar 3) aNil)))))))
def d__law_asked : Den := denOf 5 false b__law_asked
abbrev s_law : Stmt := top 119
theorem sc_law : FnScope ["script", "draws", "book", "many", "persons", "house", "turn", "plan", "rosters", "day", "some", "row", "phase", "due", "demand", "wrong", "bad", "told", "days", "here", "k", "way", "one", "n"] ["script"] (defScope s_law) := ⟨rfl, rfl, rfl, by decide +kernel, rfl, by decide +kernel, by decide +kernel⟩
abbrev c1_law : EF :=
  (eLc false (iSeq (eVar 8)) (.nm 19) tYesF (eIf (tCm gIsNot (eVar 19) (eC .non)) (eCall (lenOk 2 d__law_moves) (aCons (eVar 2) (aCons (eVar 19) aNil))) (eLst (aCons (eC (.int 0)) aNil))) [19])
abbrev c2_law : EF :=
  (eLc false (iRange1 (aCons (eVar 4) aNil)) (.nm 20) tYesF (eIf (tAndF (tTru (eOp2 gIx (eVar 10) (eVar 20))) (tCm gGt (eOp2 gMod (eCB gInt (aCons (eCall (lenOk 1 d__law_next) (aCons (eVar 1) aNil)) aNil)) (eC (.int 9))) (eC (.int 0)))) (eCall (lenOk 2 d__law_pick) (aCons (eVar 1) (aCons (eOp2 gIx (eVar 10) (eVar 20)) aNil))) (eOp2 gMod (eCB gInt (aCons (eCall (lenOk 1 d__law_next) (aCons (eVar 1) aNil)) aNil)) (eOp2 gAdd (eVar 3) (eC (.int 1))))) [20])
abbrev c3_law : EF :=
  (eLc false (iRange1 (aCons (eVar 4) aNil)) (.nm 20) tYesF (eIf (tCm gIsNot (eOp2 gIx (eVar 8) (eVar 20)) (eC .non)) (eCall (lenOk 3 d__law_step) (aCons (eVar 2) (aCons (eOp2 gIx (eVar 8) (eVar 20)) (aCons (eOp2 gIx (eVar 11) (eVar 20)) aNil)))) (eC .non)) [20])
abbrev l1_law : SF :=
  (sSeq (sAsg (.nm 10) c1_law)
    (sSeq (sAsg (.nm 11) (eCB gTuple (aCons c2_law aNil)))
    (sSeq (sAsg (.nm 12) (eOp2 gMod (eCB gInt (aCons (eVar 9) aNil)) (eCB gLen (aCons (eOp2 gIx (eVar 2) (eC (.int 0))) aNil))))
    (sSeq (sIf (tCm gNe (eCB gRepr (aCons (eCall (lenOk 4 d__law_asked) (aCons (eC (.int 2)) (aCons (eVar 5) (aCons (eVar 12) (aCons (eVar 11) aNil))))) aNil)) (eCB gRepr (aCons (eCall (lenOk 3 d__law_met) (aCons (eOp2 gIx (eVar 2) (eC (.int 1))) (aCons (eOp2 gIx (eOp2 gIx (eVar 5) (eC (.int 2))) (eVar 12)) (aCons (eVar 11) aNil)))) aNil))) (sRet (eC (.bl false))) sNext)
    (sSeq (sAsg (.nm 8) c3_law)
    (sExpr (eMt gAppend (eVar 7) (aCons (eVar 11) aNil))))))))
abbrev c4_law : EF :=
  (eLc false (iRange1 (aCons (eC (.int 2)) aNil)) (.nm 21) tYesF (eCall (lenOk 4 d__law_asked) (aCons (eVar 21) (aCons (eVar 5) (aCons (eCB gTuple (aCons (eVar 7) aNil)) (aCons (eC .non) aNil))))) [21])
abbrev l2_law : SF :=
  (sSeq (sAsg (.nm 7) (eLstM aNil))
    (sSeq (sAsg (.nm 8) (eOp2 gMul (eLst (aCons (eCall (lenOk 1 d__law_first) (aCons (eVar 2) aNil)) aNil)) (eVar 4)))
    (sSeq (sFor (iRange1 (aCons (eOp2 gMod (eCB gInt (aCons (eCall (lenOk 1 d__law_next) (aCons (eVar 1) aNil)) aNil)) (eC (.int 6))) aNil)) (.nm 9) l1_law)
    (sSeq (sAsg (.nm 13) (eCall (lenOk 2 d__law_standings) (aCons (eVar 5) (aCons (eCB gTuple (aCons (eVar 7) aNil)) aNil))))
    (sIf (tCm gNe (eCB gRepr (aCons c4_law aNil)) (eCB gRepr (aCons (eLst (aCons (eCmp gIsNot (eVar 13) (eC .non)) (aCons (eIf (tCm gIs (eVar 13) (eC .non)) (eC (.str "!none")) (eVar 13)) aNil))) aNil))) (sRet (eC (.bl false))) sNext)))))
abbrev c5_law : EF :=
  (eLc false (iSeq (eVar 15)) (.nm 22) tYesF (eCall (lenOk 3 d_is_house) (aCons (eVar 2) (aCons (eVar 4) (aCons (eVar 22) aNil)))) [22])
abbrev c6_law : EF :=
  (eLc false (iSeq (eLst (aCons (eC (.int 0)) (aCons (eC (.int 7)) aNil)))) (.nm 23) tYesF (eCall (lenOk 3 d_is_house) (aCons (eVar 2) (aCons (eVar 23) (aCons (eVar 14) aNil)))) [23])
abbrev c7_law : EF :=
  (eLc false (iRange1 (aCons (eC (.int 2)) aNil)) (.nm 21) tYesF (eCall (lenOk 4 d__law_asked) (aCons (eVar 21) (aCons (eTup (aCons (eTup (aCons (eTup aNil) (aCons (eTup aNil) (aCons (eTup aNil) aNil)))) (aCons (eC (.int 0)) (aCons (eVar 16) aNil)))) (aCons (eTup (aCons (eTup (aCons (eC (.int 9)) aNil)) aNil)) (aCons (eC .non) aNil))))) [21])
abbrev c8_law : EF :=
  (eLc false (iRange1 (aCons (eC (.int 2)) aNil)) (.nm 21) tYesF (eCall (lenOk 4 d__law_asked) (aCons (eVar 21) (aCons (eTup (aCons (eVar 2) (aCons (eC (.int 0)) (aCons (eVar 16) aNil)))) (aCons (eTup (aCons (eTup (aCons (eC (.int 9)) aNil)) aNil)) (aCons (eC .non) aNil))))) [21])
abbrev c9_law : EF :=
  (eLc false (iRange1 (aCons (eC (.int 2)) aNil)) (.nm 21) tYesF (eCall (lenOk 4 d__law_asked) (aCons (eVar 21) (aCons (eTup (aCons (eVar 2) (aCons (eVar 4) (aCons (eVar 16) aNil)))) (aCons (eTup (aCons (eTup (aCons (eC (.int 9)) aNil)) aNil)) (aCons (eC .non) aNil))))) [21])
abbrev c10_law : EF :=
  (eLc false (iSeq (eVar 18)) (.nm 22) tYesF (eCall (lenOk 4 d__law_asked) (aCons (eVar 21) (aCons (eVar 5) (aCons (eTup (aCons (eVar 22) aNil)) (aCons (eC .non) aNil))))) [22])
abbrev c11_law : EF :=
  (eLc false (iRange1 (aCons (eC (.int 2)) aNil)) (.nm 21) tYesF c10_law [21])
def b_law : SF :=
  (sSeq (sAsg (.nm 1) (eCall (lenOk 1 d__law_draws) (aCons (eVar 0) aNil)))
    (sSeq (sAsg (.nm 1) (eCall (lenOk 2 d__law_more) (aCons (eVar 1) (aCons (eC (.int 160)) aNil))))
    (sSeq (sAsg (.nm 2) (eCall (lenOk 1 d__law_any_book) (aCons (eVar 1) aNil)))
    (sSeq (sAsg (.nm 3) (eCB gLen (aCons (eOp2 gIx (eVar 2) (eC (.int 1))) aNil)))
    (sSeq (sAsg (.nm 4) (eOp2 gAdd (eC (.int 1)) (eOp2 gMod (eCB gInt (aCons (eCall (lenOk 1 d__law_next) (aCons (eVar 1) aNil)) aNil)) (eC (.int 4)))))
    (sSeq (sAsg (.nm 5) (eTup (aCons (eVar 2) (aCons (eVar 4) (aCons (eCall (lenOk 3 d__law_demand) (aCons (eVar 1) (aCons (eVar 2) (aCons (eVar 4) aNil)))) aNil)))))
    (sSeq (sIf (tCm gIsNot (eCall (lenOk 3 d_is_house) (aCons (eVar 2) (aCons (eVar 4) (aCons (eOp2 gIx (eVar 5) (eC (.int 2))) aNil)))) (eC (.bl true))) (sRet (eC (.bl false))) sNext)
    (sSeq (sFor (iRange1 (aCons (eC (.int 5)) aNil)) (.nm 6) l2_law)
    (sSeq (sAsg (.nm 14) (eOp2 gIx (eVar 5) (eC (.int 2))))
    (sSeq (sAsg (.nm 15) (eLst (aCons (eOp2 gAdd (eTup (aCons (eTup (aCons (eTup (aCons (eC (.str "")) (aCons (eNeg (eC (.int 1))) (aCons (eC (.int 1)) aNil)))) aNil)) aNil)) (eSl (eVar 14) (pSome (eC (.int 1))) pNone)) (aCons (eOp2 gAdd (eTup (aCons (eTup (aCons (eTup (aCons (eC (.str "")) (aCons (eC (.int 2)) (aCons (eC (.int 1)) aNil)))) aNil)) aNil)) (eSl (eVar 14) (pSome (eC (.int 1))) pNone)) (aCons (eOp2 gAdd (eTup (aCons (eTup (aCons (eTup (aCons (eC (.str "")) (aCons (eC (.int 0)) (aCons (eC (.int 7)) aNil)))) aNil)) aNil)) (eSl (eVar 14) (pSome (eC (.int 1))) pNone)) (aCons (eOp2 gAdd (eTup (aCons (eTup (aCons (eTup (aCons (eC (.str "ab")) (aCons (eC (.int 0)) (aCons (eC (.int 1)) aNil)))) aNil)) aNil)) (eSl (eVar 14) (pSome (eC (.int 1))) pNone)) aNil))))))
    (sSeq (sAsg (.nm 15) (eOp2 gAdd (eVar 15) (eLst (aCons (eOp2 gAdd (eVar 14) (eTup (aCons (eTup aNil) aNil))) (aCons (eSl (eVar 14) (pSome (eC (.int 1))) pNone) (aCons (eOp2 gAdd (eTup (aCons (eOp2 gMul (eTup (aCons (eTup (aCons (eC (.str "")) (aCons (eC (.int 0)) (aCons (eC (.int 1)) aNil)))) aNil)) (eC (.int 5))) aNil)) (eSl (eVar 14) (pSome (eC (.int 1))) pNone)) aNil))))))
    (sSeq (sIf (tOrF (tCm gNe (eOp2 gAdd c5_law c6_law) (eOp2 gMul (eLst (aCons (eC (.bl false)) aNil)) (eC (.int 9)))) (tCm gIsNot (eCall (lenOk 3 d_is_house) (aCons (eVar 2) (aCons (eC (.int 6)) (aCons (eOp2 gMul (eTup (aCons (eOp2 gMul (eTup (aCons (eTup (aCons (eC (.str "")) (aCons (eC (.int 0)) (aCons (eC (.int 6)) aNil)))) aNil)) (eC (.int 4))) aNil)) (eCB gLen (aCons (eOp2 gIx (eVar 2) (eC (.int 0))) aNil))) aNil)))) (eC (.bl true)))) (sRet (eC (.bl false))) sNext)
    (sSeq (sAsg (.nm 16) (eCall (lenOk 2 d__law_pick) (aCons (eVar 1) (aCons (eVar 15) aNil))))
    (sSeq (sAsg (.nm 17) (eOp2 gAdd c7_law c8_law))
    (sSeq (sAsg (.nm 17) (eOp2 gAdd (eVar 17) c9_law))
    (sSeq (sAsg (.nm 18) (eLst (aCons (eOp2 gMul (eTup (aCons (eOp2 gAdd (eVar 3) (eC (.int 1))) aNil)) (eVar 4)) (aCons (eOp2 gMul (eTup (aCons (eC (.int 0)) aNil)) (eOp2 gAdd (eVar 4) (eC (.int 1)))) (aCons (eOp2 gMul (eTup (aCons (eNeg (eC (.int 1))) aNil)) (eVar 4)) aNil)))))
    (sSeq (sAsg (.nm 17) (eOp2 gAdd (eVar 17) (eCall (lenOk 1 d__law_flat) (aCons c11_law aNil))))
    (sSeq (sIf (tCm gNe (eVar 17) (eOp2 gAdd (eOp2 gAdd (eOp2 gAdd (eOp2 gMul (eLst (aCons (eC (.str "!calendar")) aNil)) (eC (.int 2))) (eOp2 gMul (eLst (aCons (eC (.str "!number")) aNil)) (eC (.int 2)))) (eOp2 gMul (eLst (aCons (eC (.str "!demand")) aNil)) (eC (.int 2)))) (eOp2 gMul (eLst (aCons (eC (.str "!roster")) aNil)) (eC (.int 6))))) (sRet (eC (.bl false))) sNext)
    (sRet (eCmp gEq (eLst (aCons (eCall (lenOk 4 d__law_asked) (aCons (eC (.int 2)) (aCons (eVar 5) (aCons (eC (.int 9)) (aCons (eOp2 gMul (eTup (aCons (eC (.int 0)) aNil)) (eOp2 gAdd (eVar 4) (eC (.int 1)))) aNil))))) (aCons (eCall (lenOk 4 d__law_asked) (aCons (eC (.int 2)) (aCons (eVar 5) (aCons (eCB gLen (aCons (eOp2 gIx (eVar 2) (eC (.int 0))) aNil)) (aCons (eOp2 gMul (eTup (aCons (eC (.int 0)) aNil)) (eVar 4)) aNil))))) (aCons (eCall (lenOk 4 d__law_asked) (aCons (eC (.int 2)) (aCons (eVar 5) (aCons (eNeg (eC (.int 1))) (aCons (eOp2 gMul (eTup (aCons (eC (.int 0)) aNil)) (eVar 4)) aNil))))) aNil)))) (eLst (aCons (eC (.str "!roster")) (aCons (eC (.str "!number")) (aCons (eC (.str "!number")) aNil))))))))))))))))))))))))
def d_law : Den := denOf 24 false b_law
/-- what the top leaves -/
structure Txt (w : World) (K : PySem.W.Frag) (mg : MG) : Prop where
  f_is_letter : ∃ f fd, Fun K "is_letter" "is_letter" s_is_letter f fd ∧ mg "is_letter" = some (.ref f)
  f_is_calendar : ∃ f fd, Fun K "is_calendar" "is_calendar" s_is_calendar f fd ∧ mg "is_calendar" = some (.ref f)
  f_is_duty : ∃ f fd, Fun K "is_duty" "is_duty" s_is_duty f fd ∧ mg "is_duty" = some (.ref f)
  f_is_duties : ∃ f fd, Fun K "is_duties" "is_duties" s_is_duties f fd ∧ mg "is_duties" = some (.ref f)
  f_is_sort : ∃ f fd, Fun K "is_sort" "is_sort" s_is_sort f fd ∧ mg "is_sort" = some (.ref f)
  f_is_measure : ∃ f fd, Fun K "is_measure" "is_measure" s_is_measure f fd ∧ mg "is_measure" = some (.ref f)
  f_is_window : ∃ f fd, Fun K "is_window" "is_window" s_is_window f fd ∧ mg "is_window" = some (.ref f)
  f_is_kinds : ∃ f fd, Fun K "is_kinds" "is_kinds" s_is_kinds f fd ∧ mg "is_kinds" = some (.ref f)
  f_is_account : ∃ f fd, Fun K "is_account" "is_account" s_is_account f fd ∧ mg "is_account" = some (.ref f)
  f_is_not : ∃ f fd, Fun K "is_not" "is_not" s_is_not f fd ∧ mg "is_not" = some (.ref f)
  f_fits : ∃ f fd, Fun K "fits" "fits" s_fits f fd ∧ mg "fits" = some (.ref f)
  f_is_book : ∃ f fd, Fun K "is_book" "is_book" s_is_book f fd ∧ mg "is_book" = some (.ref f)
  f_is_entry : ∃ f fd, Fun K "is_entry" "is_entry" s_is_entry f fd ∧ mg "is_entry" = some (.ref f)
  f_is_demand : ∃ f fd, Fun K "is_demand" "is_demand" s_is_demand f fd ∧ mg "is_demand" = some (.ref f)
  f_is_crew : ∃ f fd, Fun K "is_crew" "is_crew" s_is_crew f fd ∧ mg "is_crew" = some (.ref f)
  f_is_house : ∃ f fd, Fun K "is_house" "is_house" s_is_house f fd ∧ mg "is_house" = some (.ref f)
  f__law_number : ∃ f fd, Fun K "_law_number" "_law_number" s__law_number f fd ∧ mg "_law_number" = some (.ref f)
  f__law_draws : ∃ f fd, Fun K "_law_draws" "_law_draws" s__law_draws f fd ∧ mg "_law_draws" = some (.ref f)
  f__law_flat : ∃ f fd, Fun K "_law_flat" "_law_flat" s__law_flat f fd ∧ mg "_law_flat" = some (.ref f)
  f__law_next : ∃ f fd, Fun K "_law_next" "_law_next" s__law_next f fd ∧ mg "_law_next" = some (.ref f)
  f__law_more : ∃ f fd, Fun K "_law_more" "_law_more" s__law_more f fd ∧ mg "_law_more" = some (.ref f)
  f__law_pick : ∃ f fd, Fun K "_law_pick" "_law_pick" s__law_pick f fd ∧ mg "_law_pick" = some (.ref f)
  f__law_begin : ∃ f fd, Fun K "_law_begin" "_law_begin" s__law_begin f fd ∧ mg "_law_begin" = some (.ref f)
  f__law_rules : ∃ f fd, Fun K "_law_rules" "_law_rules" s__law_rules f fd ∧ mg "_law_rules" = some (.ref f)
  f__law_first : ∃ f fd, Fun K "_law_first" "_law_first" s__law_first f fd ∧ mg "_law_first" = some (.ref f)
  f__law_worth : ∃ f fd, Fun K "_law_worth" "_law_worth" s__law_worth f fd ∧ mg "_law_worth" = some (.ref f)
  f__law_has : ∃ f fd, Fun K "_law_has" "_law_has" s__law_has f fd ∧ mg "_law_has" = some (.ref f)
  f__law_free : ∃ f fd, Fun K "_law_free" "_law_free" s__law_free f fd ∧ mg "_law_free" = some (.ref f)
  f__law_value : ∃ f fd, Fun K "_law_value" "_law_value" s__law_value f fd ∧ mg "_law_value" = some (.ref f)
  f__law_last : ∃ f fd, Fun K "_law_last" "_law_last" s__law_last f fd ∧ mg "_law_last" = some (.ref f)
  f__law_window : ∃ f fd, Fun K "_law_window" "_law_window" s__law_window f fd ∧ mg "_law_window" = some (.ref f)
  f__law_part : ∃ f fd, Fun K "_law_part" "_law_part" s__law_part f fd ∧ mg "_law_part" = some (.ref f)
  f__law_step : ∃ f fd, Fun K "_law_step" "_law_step" s__law_step f fd ∧ mg "_law_step" = some (.ref f)
  f__law_moves : ∃ f fd, Fun K "_law_moves" "_law_moves" s__law_moves f fd ∧ mg "_law_moves" = some (.ref f)
  f__law_duty : ∃ f fd, Fun K "_law_duty" "_law_duty" s__law_duty f fd ∧ mg "_law_duty" = some (.ref f)
  f__law_measure : ∃ f fd, Fun K "_law_measure" "_law_measure" s__law_measure f fd ∧ mg "_law_measure" = some (.ref f)
  f__law_rule : ∃ f fd, Fun K "_law_rule" "_law_rule" s__law_rule f fd ∧ mg "_law_rule" = some (.ref f)
  f__law_any_book : ∃ f fd, Fun K "_law_any_book" "_law_any_book" s__law_any_book f fd ∧ mg "_law_any_book" = some (.ref f)
  f__law_entry : ∃ f fd, Fun K "_law_entry" "_law_entry" s__law_entry f fd ∧ mg "_law_entry" = some (.ref f)
  f__law_demand : ∃ f fd, Fun K "_law_demand" "_law_demand" s__law_demand f fd ∧ mg "_law_demand" = some (.ref f)
  f__law_met : ∃ f fd, Fun K "_law_met" "_law_met" s__law_met f fd ∧ mg "_law_met" = some (.ref f)
  f__law_behind : ∃ f fd, Fun K "_law_behind" "_law_behind" s__law_behind f fd ∧ mg "_law_behind" = some (.ref f)
  f__law_standings : ∃ f fd, Fun K "_law_standings" "_law_standings" s__law_standings f fd ∧ mg "_law_standings" = some (.ref f)
  f_check_calendar : ∃ f fd, Fun K "check_calendar" "check_calendar" s_check_calendar f fd ∧ mg "check_calendar" = some (.ref f)
  f_check_duties : ∃ f fd, Fun K "check_duties" "check_duties" s_check_duties f fd ∧ mg "check_duties" = some (.ref f)
  f_check_book : ∃ f fd, Fun K "check_book" "check_book" s_check_book f fd ∧ mg "check_book" = some (.ref f)
  f_check_house : ∃ f fd, Fun K "check_house" "check_house" s_check_house f fd ∧ mg "check_house" = some (.ref f)
  f_is_row : ∃ f fd, Fun K "is_row" "is_row" s_is_row f fd ∧ mg "is_row" = some (.ref f)
  f_is_day : ∃ f fd, Fun K "is_day" "is_day" s_is_day f fd ∧ mg "is_day" = some (.ref f)
  f_is_of : ∃ f fd, Fun K "is_of" "is_of" s_is_of f fd ∧ mg "is_of" = some (.ref f)
  f_met : ∃ f fd, Fun K "met" "met" s_met f fd ∧ mg "met" = some (.ref f)
  f_meets : ∃ f fd, Fun K "meets" "meets" s_meets f fd ∧ mg "meets" = some (.ref f)
  f_check_plan : ∃ f fd, Fun K "check_plan" "check_plan" s_check_plan f fd ∧ mg "check_plan" = some (.ref f)
  f_start_of : ∃ f fd, Fun K "start_of" "start_of" s_start_of f fd ∧ mg "start_of" = some (.ref f)
  f_all_rules : ∃ f fd, Fun K "all_rules" "all_rules" s_all_rules f fd ∧ mg "all_rules" = some (.ref f)
  f_start : ∃ f fd, Fun K "start" "start" s_start f fd ∧ mg "start" = some (.ref f)
  f_begins : ∃ f fd, Fun K "begins" "begins" s_begins f fd ∧ mg "begins" = some (.ref f)
  f_ends : ∃ f fd, Fun K "ends" "ends" s_ends f fd ∧ mg "ends" = some (.ref f)
  f_behind_rest : ∃ f fd, Fun K "behind_rest" "behind_rest" s_behind_rest f fd ∧ mg "behind_rest" = some (.ref f)
  f_worth_of : ∃ f fd, Fun K "worth_of" "worth_of" s_worth_of f fd ∧ mg "worth_of" = some (.ref f)
  f_measure_of : ∃ f fd, Fun K "measure_of" "measure_of" s_measure_of f fd ∧ mg "measure_of" = some (.ref f)
  f_shifted : ∃ f fd, Fun K "shifted" "shifted" s_shifted f fd ∧ mg "shifted" = some (.ref f)
  f_behind_window : ∃ f fd, Fun K "behind_window" "behind_window" s_behind_window f fd ∧ mg "behind_window" = some (.ref f)
  f_behind_row : ∃ f fd, Fun K "behind_row" "behind_row" s_behind_row f fd ∧ mg "behind_row" = some (.ref f)
  f_behind_free : ∃ f fd, Fun K "behind_free" "behind_free" s_behind_free f fd ∧ mg "behind_free" = some (.ref f)
  f_behind_kinds : ∃ f fd, Fun K "behind_kinds" "behind_kinds" s_behind_kinds f fd ∧ mg "behind_kinds" = some (.ref f)
  f_behind_account : ∃ f fd, Fun K "behind_account" "behind_account" s_behind_account f fd ∧ mg "behind_account" = some (.ref f)
  f_behind_not : ∃ f fd, Fun K "behind_not" "behind_not" s_behind_not f fd ∧ mg "behind_not" = some (.ref f)
  f_stood : ∃ f fd, Fun K "stood" "stood" s_stood f fd ∧ mg "stood" = some (.ref f)
  f_parts_behind : ∃ f fd, Fun K "parts_behind" "parts_behind" s_parts_behind f fd ∧ mg "parts_behind" = some (.ref f)
  f_behind : ∃ f fd, Fun K "behind" "behind" s_behind f fd ∧ mg "behind" = some (.ref f)
  f_behind_all : ∃ f fd, Fun K "behind_all" "behind_all" s_behind_all f fd ∧ mg "behind_all" = some (.ref f)
  f_standings_of : ∃ f fd, Fun K "standings_of" "standings_of" s_standings_of f fd ∧ mg "standings_of" = some (.ref f)
  f_is_right_plan : ∃ f fd, Fun K "is_right_plan" "is_right_plan" s_is_right_plan f fd ∧ mg "is_right_plan" = some (.ref f)
  f_right_standings : ∃ f fd, Fun K "right_standings" "right_standings" s_right_standings f fd ∧ mg "right_standings" = some (.ref f)
  f_joint_of : ∃ f fd, Fun K "joint_of" "joint_of" s_joint_of f fd ∧ mg "joint_of" = some (.ref f)
  f__law_kind : ∃ f fd, Fun K "_law_kind" "_law_kind" s__law_kind f fd ∧ mg "_law_kind" = some (.ref f)
  f__law_asked : ∃ f fd, Fun K "_law_asked" "_law_asked" s__law_asked f fd ∧ mg "_law_asked" = some (.ref f)
  f_law : ∃ f fd, Fun K "law" "law" s_law f fd ∧ mg "law" = some (.ref f)
  g_is_right_plan : ∃ a, mg "is_right_plan" = some (.ref a)
  g_joint_of : ∃ a, mg "joint_of" = some (.ref a)
  b_all : mg "all" = none
  b_enumerate : mg "enumerate" = none
  b_int : mg "int" = none
  b_isinstance : mg "isinstance" = none
  b_len : mg "len" = none
  b_max : mg "max" = none
  b_min : mg "min" = none
  b_range : mg "range" = none
  b_repr : mg "repr" = none
  b_sorted : mg "sorted" = none
  b_sum : mg "sum" = none
  b_tuple : mg "tuple" = none
  b_zip : mg "zip" = none
  t_LENGTHS : DTab K mg w "LENGTHS" kt_LENGTHS
  q_NO_OVERLAP : GTup K mg "NO_OVERLAP" (.tup [.str "rest", .int 0])
  c_ACCOUNT : ∃ t, mg "ACCOUNT" = some (.str "account" t)
  c_BEHIND : ∃ t, mg "BEHIND" = some (.str "behind" t)
  c_FREE : ∃ t, mg "FREE" = some (.int 0 t)
  c_HOURS : ∃ t, mg "HOURS" = some (.int 24 t)
  c_KINDS : ∃ t, mg "KINDS" = some (.str "kinds" t)
  c_LEAST : ∃ t, mg "LEAST" = some (.str "least" t)
  c_LETTERS : ∃ t, mg "LETTERS" = some (.str "abcdefghijklmnopqrstuvwxyz" t)
  c_MOST : ∃ t, mg "MOST" = some (.str "most" t)
  c_MOST_DAYS : ∃ t, mg "MOST_DAYS" = some (.int 14 t)
  c_MOST_DUTIES : ∃ t, mg "MOST_DUTIES" = some (.int 7 t)
  c_MOST_PERSONS : ∃ t, mg "MOST_PERSONS" = some (.int 6 t)
  c_MOST_PHASES : ∃ t, mg "MOST_PHASES" = some (.int 14 t)
  c_MOST_REST : ∃ t, mg "MOST_REST" = some (.int 72 t)
  c_MOST_RULES : ∃ t, mg "MOST_RULES" = some (.int 6 t)
  c_MOST_SETS : ∃ t, mg "MOST_SETS" = some (.int 6 t)
  c_MOST_SUM : ∃ t, mg "MOST_SUM" = some (.int 400 t)
  c_MOST_TRIPLES : ∃ t, mg "MOST_TRIPLES" = some (.int 4 t)
  c_OF_DAYS : ∃ t, mg "OF_DAYS" = some (.str "days" t)
  c_OF_HOURS : ∃ t, mg "OF_HOURS" = some (.str "hours" t)
  c_REST : ∃ t, mg "REST" = some (.str "rest" t)
  c_ROW : ∃ t, mg "ROW" = some (.str "row" t)
  e_BadNumber : ExcOk K mg "BadNumber"
  e_NoAnswer : ExcOk K mg "NoAnswer"
  e_NotCalendar : ExcOk K mg "NotCalendar"
  e_NotDemand : ExcOk K mg "NotDemand"
  e_NotDuties : ExcOk K mg "NotDuties"
  e_NotRoster : ExcOk K mg "NotRoster"
  e_NotRule : ExcOk K mg "NotRule"
  excC : ∀ cls C, kindGood cls = true → mg cls = some (.ref C) → ExcC K C
  kit : ∀ cls C, kindGood cls = true → mg cls = some (.ref C) → ∀ c, kindGood c = true → PySem.W.kitOne K (.ref C) (.ref (He.ga K c)) = some (cls == c)
  gx : ∀ c, kindGood c = true → mg c = some (.ref (He.ga K c))
  cs : ∃ CS, mg "HoursError" = some (.ref CS) ∧ ∀ cls C b, kindSub cls = some b → mg cls = some (.ref C) → PySem.W.exmOne K (.ref C) (.ref CS) = some b
theorem kind_is : ∀ a cls d st, kindD cls = some d → kindGood cls = true ∧ d__law_kind a cls [.ptr a] st = .ok d st := by
  intro a cls d st h
  have key : ∀ q ∈ kindNames, kindGood q.1 = true ∧ d__law_kind a q.1 [.ptr a] st = .ok (.str ("!" ++ q.2)) st := by
    intro q hq
    refine ⟨List.any_eq_true.mpr ⟨q, hq, by simp⟩, ?_⟩
    have ix : ∀ (b : Bool) (ρ : Rho) (s : Sto), ρ[0]? = some (some (.ptr a)) → eIsx a b 0 ρ s = .ok (.bl b) s := by
      intro b ρ s e
      simp [eIsx, e]
    simp only [kindNames, List.mem_cons, List.not_mem_nil, or_false] at hq
    rcases hq with rfl | rfl | rfl | rfl | rfl | rfl | rfl | rfl | rfl | rfl <;>
    · simp (decide := true) [d__law_kind, b__law_kind, ix, sizeLine_eq, toV, toVs, eqV, firstV, L2.atI, L2.ixN]
  obtain ⟨w, hw, rfl⟩ := Option.map_eq_some_iff.mp h
  have := key _ (lookup_mem' hw)
  exact this
section
variable {P : Program} {w : World} {K : PySem.W.Frag} {mg : MG} {base : Heap}
theorem ok_is_letter (T : Txt w K mg) : DefOk P w K mg base "is_letter" 1 1 d_is_letter := by
  obtain ⟨f, fd, F, hm⟩ := T.f_is_letter
  exact def_of false F sc_is_letter hm (F.binds fun _ _ _ _ _ _ us hl => match us, hl with | [_], _ => rfl) fun cdv A outer s H E c =>
    (sxs_one (sx_ret (ex_and (x_eq c.room (x_len T.b_len (ax_cons (xv 0 (.inl rfl)) ax_nil)) ex_int) (ex_one (x_in (xv 0 (.inl rfl)) (x_gs T.c_LETTERS))))))
theorem ok_is_calendar (T : Txt w K mg) : DefOk P w K mg base "is_calendar" 2 1 d_is_calendar := by
  obtain ⟨f, fd, F, hm⟩ := T.f_is_calendar
  exact def_of false F sc_is_calendar hm (F.binds fun _ _ _ _ _ _ us hl => match us, hl with | [_], _ => rfl) fun cdv A outer s H E c =>
    (sxs_one (sx_ret (ex_and (x_lele ex_int (x_len T.b_len (ax_cons (xv 0 (.inl rfl)) ax_nil)) (x_gi T.c_MOST_PHASES)) (ex_one (x_all c.calm T.b_all (ax_cons (ex_lc false c.calm sc_is_calendar.nd (ix_seq (xv 0 (.inl rfl))) (blkOk_by (own := [("kind", 1)]) (by rfl)) (by rfl) (fun _ _ _ _ _ => (gx_nm (by exact sc_is_calendar.nd) rfl (.inl rfl))) (fun _ _ _ _ _ => if_nil) (fun _ _ _ _ _ => (ex_call (ok_is_letter T) (Room.mono c.room (by decide)) c.gd takes0 (ax_cons (xv 1 (.inl rfl)) ax_nil)))) ax_nil))))))
theorem ok_is_duty (T : Txt w K mg) : DefOk P w K mg base "is_duty" 2 1 d_is_duty := by
  obtain ⟨f, fd, F, hm⟩ := T.f_is_duty
  exact def_of false F sc_is_duty hm (F.binds fun _ _ _ _ _ _ us hl => match us, hl with | [_], _ => rfl) fun cdv A outer s H E c =>
    (sxs_cons (sx_asg (xv 0 (.inl rfl)) (gx_tp c.calm (gxs_cons (gx_nm sc_is_duty.nd rfl (.inl rfl)) (gxs_cons (gx_nm sc_is_duty.nd rfl (.inl rfl)) (gxs_cons (gx_nm sc_is_duty.nd rfl (.inl rfl)) (gxs_cons (gx_nm sc_is_duty.nd rfl (.inl rfl)) gxs_nil))))))
    (sxs_cons (sx_if (WXX.tx (wx_or (tx_not (t_lelt c.room ex_int (xv 1 (.inl rfl)) (x_gi T.c_HOURS))) (wx_or (tx_not (t_lele ex_int (xv 2 (.inl rfl)) (x_gi T.c_HOURS))) (wx_or1 (tx_not (t_lelt c.room ex_int (xv 3 (.inl rfl)) (xv 2 (.inl rfl)))))))) (sxs_one (sx_ret ex_bl)) sxs_nil)
    (sxs_cons (sx_asg (x_all c.calm T.b_all (ax_cons (ex_lc false c.calm sc_is_duty.nd (ix_zip T.b_zip (ax_cons (xv 4 (.inl rfl)) (ax_cons (ex_slice (xv 4 (.inl rfl)) (px_some ex_int) px_none) ax_nil))) (blkOk_by (own := [("one", 6), ("other", 7)]) (by rfl)) (by rfl) (fun _ _ _ _ _ => (gx_tp (by exact c.calm) (gxs_cons (gx_nm (by exact sc_is_duty.nd) rfl (.inl rfl)) (gxs_cons (gx_nm (by exact sc_is_duty.nd) rfl (.inl rfl)) gxs_nil)))) (fun _ _ _ _ _ => if_nil) (fun _ _ _ _ _ => (x_lt c.room (xv 6 (.inl rfl)) (xv 7 (.inl rfl))))) ax_nil)) (gx_nm sc_is_duty.nd rfl (.inl rfl)))
    (sxs_one (sx_ret (ex_and (xv 5 (.inl rfl)) (ex_one (x_all c.calm T.b_all (ax_cons (ex_lc false c.calm sc_is_duty.nd (ix_seq (xv 4 (.inl rfl))) (blkOk_by (own := [("sort", 8)]) (by rfl)) (by rfl) (fun _ _ _ _ _ => (gx_nm (by exact sc_is_duty.nd) rfl (.inl rfl))) (fun _ _ _ _ _ => if_nil) (fun _ _ _ _ _ => (ex_call (ok_is_letter T) (Room.mono c.room (by decide)) c.gd takes0 (ax_cons (xv 8 (.inl rfl)) ax_nil)))) ax_nil)))))))))
theorem ok_is_duties (T : Txt w K mg) : DefOk P w K mg base "is_duties" 3 1 d_is_duties := by
  obtain ⟨f, fd, F, hm⟩ := T.f_is_duties
  exact def_of false F sc_is_duties hm (F.binds fun _ _ _ _ _ _ us hl => match us, hl with | [_], _ => rfl) fun cdv A outer s H E c =>
    (sxs_one (sx_ret (ex_and (x_lele ex_int (x_len T.b_len (ax_cons (xv 0 (.inl rfl)) ax_nil)) (x_gi T.c_MOST_DUTIES)) (ex_one (x_all c.calm T.b_all (ax_cons (ex_lc false c.calm sc_is_duties.nd (ix_seq (xv 0 (.inl rfl))) (blkOk_by (own := [("duty", 1)]) (by rfl)) (by rfl) (fun _ _ _ _ _ => (gx_nm (by exact sc_is_duties.nd) rfl (.inl rfl))) (fun _ _ _ _ _ => if_nil) (fun _ _ _ _ _ => (ex_call (ok_is_duty T) (Room.mono c.room (by decide)) c.gd takes0 (ax_cons (xv 1 (.inl rfl)) ax_nil)))) ax_nil))))))
theorem ok_is_sort (T : Txt w K mg) : DefOk P w K mg base "is_sort" 2 1 d_is_sort := by
  obtain ⟨f, fd, F, hm⟩ := T.f_is_sort
  exact def_of false F sc_is_sort hm (F.binds fun _ _ _ _ _ _ us hl => match us, hl with | [_], _ => rfl) fun cdv A outer s H E c =>
    (sxs_one (sx_ret (ex_or (x_eq c.room (xv 0 (.inl rfl)) ex_str) (ex_one (ex_call (ok_is_letter T) (Room.mono c.room (by decide)) c.gd c.tk (ax_cons (xv 0 (.inl rfl)) ax_nil))))))
theorem ok_is_measure (T : Txt w K mg) : DefOk P w K mg base "is_measure" 3 1 d_is_measure := by
  obtain ⟨f, fd, F, hm⟩ := T.f_is_measure
  exact def_of false F sc_is_measure hm (F.binds fun _ _ _ _ _ _ us hl => match us, hl with | [_], _ => rfl) fun cdv A outer s H E c =>
    (sxs_one (sx_ret (ex_and (x_in (ex_ix (xv 0 (.inl rfl)) ex_int) (ex_tup (ax_cons (x_gs T.c_OF_HOURS) (ax_cons (x_gs T.c_OF_DAYS) ax_nil)))) (ex_one (ex_call (ok_is_sort T) (Room.mono c.room (by decide)) c.gd c.tk (ax_cons (ex_ix (xv 0 (.inl rfl)) ex_int) ax_nil))))))
theorem ok_is_window (T : Txt w K mg) : DefOk P w K mg base "is_window" 4 1 d_is_window := by
  obtain ⟨f, fd, F, hm⟩ := T.f_is_window
  exact def_of false F sc_is_window hm (F.binds fun _ _ _ _ _ _ us hl => match us, hl with | [_], _ => rfl) fun cdv A outer s H E c =>
    (sxs_cons (sx_asg (xv 0 (.inl rfl)) (gx_tp c.calm (gxs_cons (gx_nm sc_is_window.nd rfl (.inl rfl)) (gxs_cons (gx_nm sc_is_window.nd rfl (.inl rfl)) (gxs_cons (gx_nm sc_is_window.nd rfl (.inl rfl)) (gxs_cons (gx_nm sc_is_window.nd rfl (.inl rfl)) gxs_nil))))))
    (sxs_one (sx_ret (ex_and (ex_call (ok_is_measure T) (Room.mono c.room (by decide)) c.gd c.tk (ax_cons (xv 2 (.inl rfl)) ax_nil)) (ex_and (x_lele ex_int (xv 3 (.inl rfl)) (x_gi T.c_MOST_DAYS)) (ex_one (x_lele ex_int (xv 4 (.inl rfl)) (x_gi T.c_MOST_SUM))))))))
theorem ok_is_kinds (T : Txt w K mg) : DefOk P w K mg base "is_kinds" 1 2 d_is_kinds := by
  obtain ⟨f, fd, F, hm⟩ := T.f_is_kinds
  exact def_of false F sc_is_kinds hm (F.binds fun _ _ _ _ _ _ us hl => match us, hl with | [_, _], _ => rfl) fun cdv A outer s H E c =>
    (sxs_cons (sx_asg (xv 1 (.inl rfl)) (gx_tp c.calm (gxs_cons (gx_nm sc_is_kinds.nd rfl (.inl rfl)) (gxs_cons (gx_nm sc_is_kinds.nd rfl (.inl rfl)) (gxs_cons (gx_nm sc_is_kinds.nd rfl (.inl rfl)) (gxs_cons (gx_nm sc_is_kinds.nd rfl (.inl rfl)) gxs_nil))))))
    (sxs_one (sx_ret (ex_and (x_in (xv 3 (.inl rfl)) (xv 0 (.inl rfl))) (ex_and (x_lele ex_int (xv 4 (.inl rfl)) (x_gi T.c_MOST_DAYS)) (ex_one (x_lele ex_int (xv 5 (.inl rfl)) (xv 4 (.inl rfl)))))))))
theorem ok_is_account (T : Txt w K mg) : DefOk P w K mg base "is_account" 1 2 d_is_account := by
  obtain ⟨f, fd, F, hm⟩ := T.f_is_account
  exact def_of false F sc_is_account hm (F.binds fun _ _ _ _ _ _ us hl => match us, hl with | [_, _], _ => rfl) fun cdv A outer s H E c =>
    (sxs_cons (sx_asg (xv 1 (.inl rfl)) (gx_tp c.calm (gxs_cons (gx_nm sc_is_account.nd rfl (.inl rfl)) (gxs_cons (gx_nm sc_is_account.nd rfl (.inl rfl)) (gxs_cons (gx_nm sc_is_account.nd rfl (.inl rfl)) (gxs_cons (gx_nm sc_is_account.nd rfl (.inl rfl)) gxs_nil))))))
    (sxs_cons (sx_if (WXX.tx (wx_or (tx_not (tx_chainN (x_neg (x_gi T.c_MOST_SUM)) (lk_le (xv 3 (.inl rfl))) (lk_le ex_int) (Lks.cons (lk_le (xv 4 (.inl rfl))) (Lks.cons (lk_le (x_gi T.c_MOST_SUM)) Lks.nil)))) (wx_or1 (t_ne c.room (x_len T.b_len (ax_cons (xv 5 (.inl rfl)) ax_nil)) (x_len T.b_len (ax_cons (xv 0 (.inl rfl)) ax_nil)))))) (sxs_one (sx_ret ex_bl)) sxs_nil)
    (sxs_one (sx_ret (x_all c.calm T.b_all (ax_cons (ex_lc false c.calm sc_is_account.nd (ix_seq (xv 5 (.inl rfl))) (blkOk_by (own := [("entry", 6)]) (by rfl)) (by rfl) (fun _ _ _ _ _ => (gx_nm (by exact sc_is_account.nd) rfl (.inl rfl))) (fun _ _ _ _ _ => if_nil) (fun _ _ _ _ _ => (x_lele ex_int (xv 6 (.inl rfl)) (x_gi T.c_HOURS)))) ax_nil))))))
theorem ok_is_not (T : Txt w K mg) : DefOk P w K mg base "is_not" 1 2 d_is_not := by
  obtain ⟨f, fd, F, hm⟩ := T.f_is_not
  exact def_of false F sc_is_not hm (F.binds fun _ _ _ _ _ _ us hl => match us, hl with | [_, _], _ => rfl) fun cdv A outer s H E c =>
    (sxs_cons (sx_asg (ex_ix (xv 1 (.inl rfl)) ex_int) (gx_nm sc_is_not.nd rfl (.inl rfl)))
    (sxs_cons (sx_if (tx_not (t_lele ex_int (x_len T.b_len (ax_cons (xv 2 (.inl rfl)) ax_nil)) (x_gi T.c_MOST_SETS))) (sxs_one (sx_ret ex_bl)) sxs_nil)
    (sxs_cons (sx_for c.po c.calm (ix_seq (xv 2 (.inl rfl))) (gx_nm sc_is_not.nd rfl (.inl rfl)) (sxs_cons (sx_asg (x_all c.calm T.b_all (ax_cons (ex_lc false c.calm sc_is_not.nd (ix_zip T.b_zip (ax_cons (xv 3 (.inl rfl)) (ax_cons (ex_slice (xv 3 (.inl rfl)) (px_some ex_int) px_none) ax_nil))) (blkOk_by (own := [("one", 5), ("other", 6)]) (by rfl)) (by rfl) (fun _ _ _ _ _ => (gx_tp (by exact c.calm) (gxs_cons (gx_nm (by exact sc_is_not.nd) rfl (.inl rfl)) (gxs_cons (gx_nm (by exact sc_is_not.nd) rfl (.inl rfl)) gxs_nil)))) (fun _ _ _ _ _ => if_nil) (fun _ _ _ _ _ => (x_lt c.room (xv 5 (.inl rfl)) (xv 6 (.inl rfl))))) ax_nil)) (gx_nm sc_is_not.nd rfl (.inl rfl)))
    (sxs_one (sx_if (WXX.tx (wx_or (tx_not (tx_tru (xv 3 (.inl rfl)))) (wx_or (tx_not (tx_tru (xv 4 (.inl rfl)))) (wx_or1 (tx_not (tx_tru (x_all c.calm T.b_all (ax_cons (ex_lc false c.calm sc_is_not.nd (ix_seq (xv 3 (.inl rfl))) (blkOk_by (own := [("number", 7)]) (by rfl)) (by rfl) (fun _ _ _ _ _ => (gx_nm (by exact sc_is_not.nd) rfl (.inl rfl))) (fun _ _ _ _ _ => if_nil) (fun _ _ _ _ _ => (x_lele (x_gi T.c_FREE) (xv 7 (.inl rfl)) (x_len T.b_len (ax_cons (xv 0 (.inr (.inl rfl))) ax_nil))))) ax_nil)))))))) (sxs_one (sx_ret ex_bl)) sxs_nil))))
    (sxs_one (sx_ret ex_bl)))))
theorem ok_fits (T : Txt w K mg) : DefOk P w K mg base "fits" 5 3 d_fits := by
  obtain ⟨f, fd, F, hm⟩ := T.f_fits
  exact def_of false F sc_fits hm (F.binds fun _ _ _ _ _ _ us hl => match us, hl with | [_, _, _], _ => rfl) fun cdv A outer s H E c =>
    (sxs_cons (sx_asg (ex_ix (xv 2 (.inl rfl)) ex_int) (gx_nm sc_fits.nd rfl (.inl rfl)))
    (sxs_cons (sx_if (WXX.tx (wx_or (t_kdNotIn T.t_LENGTHS (xv 3 (.inl rfl))) (wx_or1 (t_ne c.room (x_len T.b_len (ax_cons (xv 2 (.inl rfl)) ax_nil)) (x_kdIx T.t_LENGTHS (xv 3 (.inl rfl))))))) (sxs_one (sx_ret ex_bl)) sxs_nil)
    (sxs_cons (sx_if (t_eq c.room (xv 3 (.inl rfl)) (x_gs T.c_REST)) (sxs_one (sx_ret (x_lele ex_int (ex_ix (xv 2 (.inl rfl)) ex_int) (x_gi T.c_MOST_REST)))) sxs_nil)
    (sxs_cons (sx_if (t_in (xv 3 (.inl rfl)) (ex_tup (ax_cons (x_gs T.c_MOST) (ax_cons (x_gs T.c_LEAST) ax_nil)))) (sxs_one (sx_ret (ex_call (ok_is_window T) (Room.mono c.room (by decide)) c.gd c.tk (ax_cons (xv 2 (.inl rfl)) ax_nil)))) sxs_nil)
    (sxs_cons (sx_if (t_eq c.room (xv 3 (.inl rfl)) (x_gs T.c_ROW)) (sxs_one (sx_ret (ex_and (ex_call (ok_is_sort T) (Room.mono c.room (by decide)) c.gd c.tk (ax_cons (ex_ix (xv 2 (.inl rfl)) ex_int) ax_nil)) (ex_one (x_lele ex_int (ex_ix (xv 2 (.inl rfl)) ex_int) (x_gi T.c_MOST_DAYS)))))) sxs_nil)
    (sxs_cons (sx_if (t_eq c.room (xv 3 (.inl rfl)) (x_gs T.c_BEHIND)) (sxs_one (sx_ret (ex_and (ex_call (ok_is_sort T) (Room.mono c.room (by decide)) c.gd c.tk (ax_cons (ex_ix (xv 2 (.inl rfl)) ex_int) ax_nil)) (ex_and (x_lele ex_int (ex_ix (xv 2 (.inl rfl)) ex_int) (x_gi T.c_MOST_DAYS)) (ex_one (x_lele ex_int (ex_ix (xv 2 (.inl rfl)) ex_int) (x_gi T.c_MOST_DAYS))))))) sxs_nil)
    (sxs_cons (sx_if (t_eq c.room (xv 3 (.inl rfl)) (x_gs T.c_KINDS)) (sxs_one (sx_ret (ex_call (ok_is_kinds T) (Room.mono c.room (by decide)) c.gd c.tk (ax_cons (xv 0 (.inl rfl)) (ax_cons (xv 2 (.inl rfl)) ax_nil))))) sxs_nil)
    (sxs_one (sx_ret (ex_if (t_eq c.room (xv 3 (.inl rfl)) (x_gs T.c_ACCOUNT)) (ex_call (ok_is_account T) (Room.mono c.room (by decide)) c.gd c.tk (ax_cons (xv 0 (.inl rfl)) (ax_cons (xv 2 (.inl rfl)) ax_nil))) (ex_call (ok_is_not T) (Room.mono c.room (by decide)) c.gd c.tk (ax_cons (xv 1 (.inl rfl)) (ax_cons (xv 2 (.inl rfl)) ax_nil)))))))))))))
theorem ok_is_book (T : Txt w K mg) : DefOk P w K mg base "is_book" 6 3 d_is_book := by
  obtain ⟨f, fd, F, hm⟩ := T.f_is_book
  exact def_of false F sc_is_book hm (F.binds fun _ _ _ _ _ _ us hl => match us, hl with | [_, _, _], _ => rfl) fun cdv A outer s H E c =>
    (sxs_cons (sx_if (WXX.tx (wx_or (tx_not (tx_tru (ex_call (ok_is_calendar T) (Room.mono c.room (by decide)) c.gd c.tk (ax_cons (xv 0 (.inr (.inl rfl))) ax_nil)))) (wx_or (tx_not (tx_tru (ex_call (ok_is_duties T) (Room.mono c.room (by decide)) c.gd c.tk (ax_cons (xv 1 (.inr (.inl rfl))) ax_nil)))) (wx_or1 (t_gt (x_len T.b_len (ax_cons (xv 2 (.inl rfl)) ax_nil)) (x_gi T.c_MOST_RULES)))))) (sxs_one (sx_ret ex_bl)) sxs_nil)
    (sxs_one (sx_ret (x_all c.calm T.b_all (ax_cons (ex_lc false c.calm sc_is_book.nd (ix_seq (xv 2 (.inl rfl))) (blkOk_by (own := [("rule", 3)]) (by rfl)) (by rfl) (fun _ _ _ _ _ => (gx_nm (by exact sc_is_book.nd) rfl (.inl rfl))) (fun _ _ _ _ _ => if_nil) (fun _ _ _ _ _ => (ex_call (ok_fits T) (Room.mono c.room (by decide)) c.gd takes0 (ax_cons (xv 0 (.inr (.inl rfl))) (ax_cons (xv 1 (.inr (.inl rfl))) (ax_cons (xv 3 (.inl rfl)) ax_nil)))))) ax_nil)))))
theorem ok_is_entry (T : Txt w K mg) : DefOk P w K mg base "is_entry" 3 1 d_is_entry := by
  obtain ⟨f, fd, F, hm⟩ := T.f_is_entry
  exact def_of false F sc_is_entry hm (F.binds fun _ _ _ _ _ _ us hl => match us, hl with | [_], _ => rfl) fun cdv A outer s H E c =>
    (sxs_cons (sx_if (t_gt (x_len T.b_len (ax_cons (xv 0 (.inl rfl)) ax_nil)) (x_gi T.c_MOST_TRIPLES)) (sxs_one (sx_ret ex_bl)) sxs_nil)
    (sxs_one (sx_ret (x_all c.calm T.b_all (ax_cons (ex_lc false c.calm sc_is_entry.nd (ix_seq (xv 0 (.inl rfl))) (blkOk_by (own := [("sort", 1), ("low", 2), ("high", 3)]) (by rfl)) (by rfl) (fun _ _ _ _ _ => (gx_tp (by exact c.calm) (gxs_cons (gx_nm (by exact sc_is_entry.nd) rfl (.inl rfl)) (gxs_cons (gx_nm (by exact sc_is_entry.nd) rfl (.inl rfl)) (gxs_cons (gx_nm (by exact sc_is_entry.nd) rfl (.inl rfl)) gxs_nil))))) (fun _ _ _ _ _ => if_nil) (fun _ _ _ _ _ => (ex_and (ex_call (ok_is_sort T) (Room.mono c.room (by decide)) c.gd takes0 (ax_cons (xv 1 (.inl rfl)) ax_nil)) (ex_one (ex_chainN ex_int (lk_le (xv 2 (.inl rfl))) (lk_le (xv 3 (.inl rfl))) (Lks.cons (lk_le (x_gi T.c_MOST_PERSONS)) Lks.nil)))))) ax_nil)))))
theorem ok_is_demand (T : Txt w K mg) : DefOk P w K mg base "is_demand" 4 2 d_is_demand := by
  obtain ⟨f, fd, F, hm⟩ := T.f_is_demand
  exact def_of false F sc_is_demand hm (F.binds fun _ _ _ _ _ _ us hl => match us, hl with | [_, _], _ => rfl) fun cdv A outer s H E c =>
    (sxs_one (sx_ret (ex_and (x_eq c.room (x_len T.b_len (ax_cons (xv 1 (.inl rfl)) ax_nil)) (x_len T.b_len (ax_cons (ex_ix (xv 0 (.inl rfl)) ex_int) ax_nil))) (ex_one (x_all c.calm T.b_all (ax_cons (ex_lc false c.calm sc_is_demand.nd (ix_seq (xv 1 (.inl rfl))) (blkOk_by (own := [("entry", 2)]) (by rfl)) (by rfl) (fun _ _ _ _ _ => (gx_nm (by exact sc_is_demand.nd) rfl (.inl rfl))) (fun _ _ _ _ _ => if_nil) (fun _ _ _ _ _ => (ex_call (ok_is_entry T) (Room.mono c.room (by decide)) c.gd takes0 (ax_cons (xv 2 (.inl rfl)) ax_nil)))) ax_nil))))))
theorem ok_is_crew (T : Txt w K mg) : DefOk P w K mg base "is_crew" 1 1 d_is_crew := by
  obtain ⟨f, fd, F, hm⟩ := T.f_is_crew
  exact def_of false F sc_is_crew hm (F.binds fun _ _ _ _ _ _ us hl => match us, hl with | [_], _ => rfl) fun cdv A outer s H E c =>
    (sxs_one (sx_ret (x_lele ex_int (xv 0 (.inl rfl)) (x_gi T.c_MOST_PERSONS))))
theorem ok_is_house (T : Txt w K mg) : DefOk P w K mg base "is_house" 7 3 d_is_house := by
  obtain ⟨f, fd, F, hm⟩ := T.f_is_house
  exact def_of false F sc_is_house hm (F.binds fun _ _ _ _ _ _ us hl => match us, hl with | [_, _, _], _ => rfl) fun cdv A outer s H E c =>
    (sxs_one (sx_ret (ex_and (ex_callS (ok_is_book T) (Room.mono c.room (by decide)) c.gd c.tk (xv 0 (.inl rfl))) (ex_and (ex_call (ok_is_crew T) (Room.mono c.room (by decide)) c.gd c.tk (ax_cons (xv 1 (.inl rfl)) ax_nil)) (ex_one (ex_call (ok_is_demand T) (Room.mono c.room (by decide)) c.gd c.tk (ax_cons (xv 0 (.inl rfl)) (ax_cons (xv 2 (.inl rfl)) ax_nil))))))))
theorem ok__law_number (T : Txt w K mg) : DefOk P w K mg base "_law_number" 1 1 d__law_number := by
  obtain ⟨f, fd, F, hm⟩ := T.f__law_number
  exact def_of false F sc__law_number hm (F.binds fun _ _ _ _ _ _ us hl => match us, hl with | [_], _ => rfl) fun cdv A outer s H E c =>
    (sxs_cons (sx_if (t_lt c.room (xv 0 (.inl rfl)) ex_int) (sxs_one (sx_ret (x_sub ex_int (xv 0 (.inl rfl))))) sxs_nil)
    (sxs_one (sx_ret (xv 0 (.inl rfl)))))
theorem ok__law_draws (T : Txt w K mg) : DefOk P w K mg base "_law_draws" 2 1 d__law_draws := by
  obtain ⟨f, fd, F, hm⟩ := T.f__law_draws
  exact def_of true F sc__law_draws hm (F.binds fun _ _ _ _ _ _ us hl => match us, hl with | [_], _ => rfl) fun cdv A outer s H E c =>
    (sxs_cons (sx_asg (ex_lstM ax_nil) (gx_nm sc__law_draws.nd rfl (.inl rfl)))
    (sxs_cons (sx_for c.po c.calm (ix_seq (xv 0 (.inl rfl))) (gx_nm sc__law_draws.nd rfl (.inl rfl)) (sxs_cons (sx_asg (ex_call (ok__law_number T) (Room.mono c.room (by decide)) c.gd c.tk (ax_cons (xv 2 (.inl rfl)) ax_nil)) (gx_nm sc__law_draws.nd rfl (.inl rfl)))
    (sxs_one (sx_if (t_ge (xv 3 (.inl rfl)) ex_int) (sxs_one (sx_for c.po c.calm (ix_range1 T.b_range (ax_cons ex_int ax_nil)) (gx_nm sc__law_draws.nd rfl (.inl rfl)) (sxs_cons (sx_if (t_eq c.room (xv 3 (.inl rfl)) ex_int) (sxs_one sx_break) sxs_nil)
    (sxs_cons (sx_expr (x_append (xv 1 (.inl rfl)) (ax_cons (x_mod (x_int T.b_int (ax_cons (xv 3 (.inl rfl)) ax_nil)) ex_int) ax_nil)))
    (sxs_one (sx_asg (x_div (xv 3 (.inl rfl)) ex_int) (gx_nm sc__law_draws.nd rfl (.inl rfl)))))))) (sxs_cons (sx_asg (x_mod (x_int T.b_int (ax_cons (x_add (x_mul (xv 3 (.inl rfl)) ex_int) ex_int) ax_nil)) ex_int) (gx_nm sc__law_draws.nd rfl (.inl rfl)))
    (sxs_cons (sx_asg (x_mod (x_int T.b_int (ax_cons (x_add (x_mul (xv 5 (.inl rfl)) ex_int) (xv 3 (.inl rfl))) ax_nil)) ex_int) (gx_nm sc__law_draws.nd rfl (.inl rfl)))
    (sxs_one (sx_expr (x_extend (xv 1 (.inl rfl)) (ax_cons (ex_lst (ax_cons (x_mod (x_int T.b_int (ax_cons (xv 3 (.inl rfl)) ax_nil)) ex_int) (ax_cons (x_mod (x_int T.b_int (ax_cons (xv 5 (.inl rfl)) ax_nil)) ex_int) (ax_cons (x_mod (x_int T.b_int (ax_cons (xv 6 (.inl rfl)) ax_nil)) ex_int) ax_nil)))) ax_nil))))))))))
    (sxs_cons (sx_expr (x_reverse (xv 1 (.inl rfl))))
    (sxs_one (sx_ret (xv 1 (.inl rfl)))))))
theorem ok__law_flat (T : Txt w K mg) : DefOk P w K mg base "_law_flat" 1 1 d__law_flat := by
  obtain ⟨f, fd, F, hm⟩ := T.f__law_flat
  exact def_of false F sc__law_flat hm (F.binds fun _ _ _ _ _ _ us hl => match us, hl with | [_], _ => rfl) fun cdv A outer s H E c =>
    (sxs_cons (sx_asg (ex_lstM ax_nil) (gx_nm sc__law_flat.nd rfl (.inl rfl)))
    (sxs_cons (sx_for c.po c.calm (ix_seq (xv 0 (.inl rfl))) (gx_nm sc__law_flat.nd rfl (.inl rfl)) (sxs_one (sx_expr (x_extend (xv 1 (.inl rfl)) (ax_cons (xv 2 (.inl rfl)) ax_nil)))))
    (sxs_one (sx_ret (xv 1 (.inl rfl))))))
theorem ok__law_next (T : Txt w K mg) : DefOk P w K mg base "_law_next" 1 1 d__law_next := by
  obtain ⟨f, fd, F, hm⟩ := T.f__law_next
  exact def_of false F sc__law_next hm (F.binds fun _ _ _ _ _ _ us hl => match us, hl with | [_], _ => rfl) fun cdv A outer s H E c =>
    (sxs_cons (sx_if (tx_tru (xv 0 (.inl rfl))) (sxs_one (sx_ret (x_pop (xv 0 (.inl rfl))))) sxs_nil)
    (sxs_one (sx_ret ex_int)))
theorem ok__law_more (T : Txt w K mg) : DefOk P w K mg base "_law_more" 2 2 d__law_more := by
  obtain ⟨f, fd, F, hm⟩ := T.f__law_more
  exact def_of true F sc__law_more hm (F.binds fun _ _ _ _ _ _ us hl => match us, hl with | [_, _], _ => rfl) fun cdv A outer s H E c =>
    (sxs_cons (sx_asg (x_add (x_add (x_mul ex_int (ex_call (ok__law_next T) (Room.mono c.room (by decide)) c.gd c.tk (ax_cons (xv 0 (.inl rfl)) ax_nil))) (ex_call (ok__law_next T) (Room.mono c.room (by decide)) c.gd c.tk (ax_cons (xv 0 (.inl rfl)) ax_nil))) ex_int) (gx_nm sc__law_more.nd rfl (.inl rfl)))
    (sxs_cons (sx_asg (ex_lstM ax_nil) (gx_nm sc__law_more.nd rfl (.inl rfl)))
    (sxs_cons (sx_for c.po c.calm (ix_range1 T.b_range (ax_cons (xv 1 (.inl rfl)) ax_nil)) (gx_nm sc__law_more.nd rfl (.inl rfl)) (sxs_cons (sx_asg (x_mod (x_int T.b_int (ax_cons (x_add (x_mul (xv 2 (.inl rfl)) ex_int) ex_int) ax_nil)) ex_int) (gx_nm sc__law_more.nd rfl (.inl rfl)))
    (sxs_one (sx_expr (x_append (xv 3 (.inl rfl)) (ax_cons (x_mod (x_int T.b_int (ax_cons (x_div (xv 2 (.inl rfl)) ex_int) ax_nil)) ex_int) ax_nil))))))
    (sxs_one (sx_ret (x_catM (xv 3 (.inl rfl)) (xv 0 (.inl rfl))))))))
theorem ok__law_pick (T : Txt w K mg) : DefOk P w K mg base "_law_pick" 2 2 d__law_pick := by
  obtain ⟨f, fd, F, hm⟩ := T.f__law_pick
  exact def_of false F sc__law_pick hm (F.binds fun _ _ _ _ _ _ us hl => match us, hl with | [_, _], _ => rfl) fun cdv A outer s H E c =>
    (sxs_one (sx_ret (ex_ix (xv 1 (.inl rfl)) (x_mod (x_int T.b_int (ax_cons (ex_call (ok__law_next T) (Room.mono c.room (by decide)) c.gd c.tk (ax_cons (xv 0 (.inl rfl)) ax_nil)) ax_nil)) (x_len T.b_len (ax_cons (xv 1 (.inl rfl)) ax_nil))))))
theorem ok__law_begin (T : Txt w K mg) : DefOk P w K mg base "_law_begin" 1 1 d__law_begin := by
  obtain ⟨f, fd, F, hm⟩ := T.f__law_begin
  exact def_of false F sc__law_begin hm (F.binds fun _ _ _ _ _ _ us hl => match us, hl with | [_], _ => rfl) fun cdv A outer s H E c =>
    (sxs_cons (sx_if (t_eq c.room (ex_ix (xv 0 (.inl rfl)) ex_int) ex_str) (sxs_one (sx_ret (ex_ix (xv 0 (.inl rfl)) ex_int))) sxs_nil)
    (sxs_cons (sx_if (t_eq c.room (ex_ix (xv 0 (.inl rfl)) ex_int) ex_str) (sxs_one (sx_ret (x_mul (ex_tup (ax_cons ex_int ax_nil)) (x_sub (ex_ix (xv 0 (.inl rfl)) ex_int) ex_int)))) sxs_nil)
    (sxs_cons (sx_if (t_eq c.room (ex_ix (xv 0 (.inl rfl)) ex_int) ex_str) (sxs_one (sx_ret (ex_tup (ax_cons ex_int (ax_cons ex_int ax_nil))))) sxs_nil)
    (sxs_one (sx_ret (ex_if (t_in (ex_ix (xv 0 (.inl rfl)) ex_int) (ex_lst (ax_cons ex_str (ax_cons ex_str (ax_cons ex_str ax_nil))))) (ex_tup ax_nil) ex_int))))))
theorem ok__law_rules (T : Txt w K mg) : DefOk P w K mg base "_law_rules" 1 1 d__law_rules := by
  obtain ⟨f, fd, F, hm⟩ := T.f__law_rules
  exact def_of false F sc__law_rules hm (F.binds fun _ _ _ _ _ _ us hl => match us, hl with | [_], _ => rfl) fun cdv A outer s H E c =>
    (sxs_one (sx_ret (x_add (ex_tup (ax_cons (ex_tup (ax_cons ex_str (ax_cons ex_int ax_nil))) ax_nil)) (ex_ix (xv 0 (.inl rfl)) ex_int))))
theorem ok__law_first (T : Txt w K mg) : DefOk P w K mg base "_law_first" 2 1 d__law_first := by
  obtain ⟨f, fd, F, hm⟩ := T.f__law_first
  exact def_of false F sc__law_first hm (F.binds fun _ _ _ _ _ _ us hl => match us, hl with | [_], _ => rfl) fun cdv A outer s H E c =>
    (sxs_one (sx_ret (x_add (ex_tup (ax_cons ex_int ax_nil)) (x_tuple T.b_tuple (ax_cons (ex_lc false c.calm sc__law_first.nd (ix_seq (ex_call (ok__law_rules T) (Room.mono c.room (by decide)) c.gd c.tk (ax_cons (xv 0 (.inl rfl)) ax_nil))) (blkOk_by (own := [("rule", 1)]) (by rfl)) (by rfl) (fun _ _ _ _ _ => (gx_nm (by exact sc__law_first.nd) rfl (.inl rfl))) (fun _ _ _ _ _ => if_nil) (fun _ _ _ _ _ => (ex_call (ok__law_begin T) (Room.mono c.room (by decide)) c.gd takes0 (ax_cons (xv 1 (.inl rfl)) ax_nil)))) ax_nil)))))
theorem ok__law_worth (T : Txt w K mg) : DefOk P w K mg base "_law_worth" 1 2 d__law_worth := by
  obtain ⟨f, fd, F, hm⟩ := T.f__law_worth
  exact def_of false F sc__law_worth hm (F.binds fun _ _ _ _ _ _ us hl => match us, hl with | [_, _], _ => rfl) fun cdv A outer s H E c =>
    (sxs_one (sx_ret (ex_if (t_gt (xv 1 (.inl rfl)) ex_int) (x_sub (ex_ix (ex_ix (xv 0 (.inl rfl)) (x_sub (xv 1 (.inl rfl)) ex_int)) ex_int) (ex_ix (ex_ix (xv 0 (.inl rfl)) (x_sub (xv 1 (.inl rfl)) ex_int)) ex_int)) ex_int)))
theorem ok__law_has (T : Txt w K mg) : DefOk P w K mg base "_law_has" 1 3 d__law_has := by
  obtain ⟨f, fd, F, hm⟩ := T.f__law_has
  exact def_of false F sc__law_has hm (F.binds fun _ _ _ _ _ _ us hl => match us, hl with | [_, _, _], _ => rfl) fun cdv A outer s H E c =>
    (sxs_one (sx_ret (ex_and (x_gt (xv 1 (.inl rfl)) ex_int) (ex_one (ex_or (x_eq c.room (xv 2 (.inl rfl)) ex_str) (ex_one (x_in (xv 2 (.inl rfl)) (ex_ix (ex_ix (xv 0 (.inl rfl)) (x_sub (xv 1 (.inl rfl)) ex_int)) ex_int))))))))
theorem ok__law_free (T : Txt w K mg) : DefOk P w K mg base "_law_free" 2 4 d__law_free := by
  obtain ⟨f, fd, F, hm⟩ := T.f__law_free
  exact def_of false F sc__law_free hm (F.binds fun _ _ _ _ _ _ us hl => match us, hl with | [_, _, _, _], _ => rfl) fun cdv A outer s H E c =>
    (sxs_cons (sx_asg (xv 2 (.inl rfl)) (gx_tp c.calm (gxs_cons (gx_nm sc__law_free.nd rfl (.inl rfl)) (gxs_cons (gx_nm sc__law_free.nd rfl (.inl rfl)) gxs_nil))))
    (sxs_cons (sx_if (t_gt (xv 5 (.inl rfl)) ex_int) (sxs_one (sx_ret (ex_if (t_eq c.room (xv 3 (.inl rfl)) ex_int) (ex_tup (ax_cons ex_int (ax_cons (x_sub (xv 5 (.inl rfl)) ex_int) ax_nil))) ex_non))) sxs_nil)
    (sxs_cons (sx_if (tx_tru (ex_call (ok__law_has T) (Room.mono c.room (by decide)) c.gd c.tk (ax_cons (xv 0 (.inl rfl)) (ax_cons (xv 3 (.inl rfl)) (ax_cons (ex_ix (xv 1 (.inl rfl)) ex_int) ax_nil))))) (sxs_one (sx_ret (ex_tup (ax_cons (x_min2 c.calm T.b_min (ax_cons (ex_ix (xv 1 (.inl rfl)) ex_int) (ax_cons (x_add (xv 4 (.inl rfl)) ex_int) ax_nil))) (ax_cons ex_int ax_nil))))) sxs_nil)
    (sxs_cons (sx_if (t_lt c.room (xv 4 (.inl rfl)) (ex_ix (xv 1 (.inl rfl)) ex_int)) (sxs_one (sx_ret (ex_tup (ax_cons ex_int (ax_cons ex_int ax_nil))))) sxs_nil)
    (sxs_one (sx_ret (ex_if (t_eq c.room (xv 3 (.inl rfl)) ex_int) (ex_tup (ax_cons ex_int (ax_cons (x_sub (ex_ix (xv 1 (.inl rfl)) ex_int) ex_int) ax_nil))) ex_non)))))))
theorem ok__law_value (T : Txt w K mg) : DefOk P w K mg base "_law_value" 2 3 d__law_value := by
  obtain ⟨f, fd, F, hm⟩ := T.f__law_value
  exact def_of false F sc__law_value hm (F.binds fun _ _ _ _ _ _ us hl => match us, hl with | [_, _, _], _ => rfl) fun cdv A outer s H E c =>
    (sxs_cons (sx_if (tx_not (tx_tru (ex_call (ok__law_has T) (Room.mono c.room (by decide)) c.gd c.tk (ax_cons (xv 0 (.inl rfl)) (ax_cons (xv 2 (.inl rfl)) (ax_cons (ex_ix (xv 1 (.inl rfl)) ex_int) ax_nil)))))) (sxs_one (sx_ret ex_int)) sxs_nil)
    (sxs_one (sx_ret (ex_if (t_eq c.room (ex_ix (xv 1 (.inl rfl)) ex_int) ex_str) (ex_call (ok__law_worth T) (Room.mono c.room (by decide)) c.gd c.tk (ax_cons (xv 0 (.inl rfl)) (ax_cons (xv 2 (.inl rfl)) ax_nil))) ex_int))))
theorem ok__law_last (T : Txt w K mg) : DefOk P w K mg base "_law_last" 1 2 d__law_last := by
  obtain ⟨f, fd, F, hm⟩ := T.f__law_last
  exact def_of false F sc__law_last hm (F.binds fun _ _ _ _ _ _ us hl => match us, hl with | [_, _], _ => rfl) fun cdv A outer s H E c =>
    (sxs_one (sx_ret (ex_slice (xv 0 (.inl rfl)) (px_some (x_max2 c.calm T.b_max (ax_cons ex_int (ax_cons (x_sub (x_len T.b_len (ax_cons (xv 0 (.inl rfl)) ax_nil)) (xv 1 (.inl rfl))) ax_nil)))) px_none)))
theorem ok__law_window (T : Txt w K mg) : DefOk P w K mg base "_law_window" 3 5 d__law_window := by
  obtain ⟨f, fd, F, hm⟩ := T.f__law_window
  exact def_of false F sc__law_window hm (F.binds fun _ _ _ _ _ _ us hl => match us, hl with | [_, _, _, _, _], _ => rfl) fun cdv A outer s H E c =>
    (sxs_cons (sx_if (t_eq c.room (ex_ix (xv 1 (.inl rfl)) ex_int) ex_str) (sxs_cons (sx_if (t_ne c.room (ex_ix (ex_ix (xv 0 (.inl rfl)) ex_int) (xv 3 (.inl rfl))) (ex_ix (xv 1 (.inl rfl)) ex_int)) (sxs_one (sx_ret (xv 2 (.inl rfl)))) sxs_nil)
    (sxs_one (sx_asg (x_add (xv 2 (.inl rfl)) (ex_tup (ax_cons (x_int T.b_int (ax_cons (x_eq c.room (xv 4 (.inl rfl)) ex_int) ax_nil)) ax_nil))) (gx_nm sc__law_window.nd rfl (.inl rfl))))) (sxs_one (sx_asg (x_add (xv 2 (.inl rfl)) (ex_tup (ax_cons (ex_call (ok__law_value T) (Room.mono c.room (by decide)) c.gd c.tk (ax_cons (ex_ix (xv 0 (.inl rfl)) ex_int) (ax_cons (ex_ix (xv 1 (.inl rfl)) ex_int) (ax_cons (xv 4 (.inl rfl)) ax_nil)))) ax_nil))) (gx_nm sc__law_window.nd rfl (.inl rfl)))))
    (sxs_cons (sx_if (WXX.tx (wx_or (WXX.tx (wx_and (t_eq c.room (ex_ix (xv 1 (.inl rfl)) ex_int) ex_str) (wx_and1 (t_gt (x_sumA c.calm T.b_sum (ax_cons (xv 5 (.inl rfl)) ax_nil)) (ex_ix (xv 1 (.inl rfl)) ex_int))))) (wx_or1 (WXX.tx (wx_and (t_ne c.room (ex_ix (xv 1 (.inl rfl)) ex_int) ex_str) (wx_and (t_eq c.room (x_len T.b_len (ax_cons (xv 5 (.inl rfl)) ax_nil)) (ex_ix (xv 1 (.inl rfl)) ex_int)) (wx_and1 (t_lt c.room (x_sumA c.calm T.b_sum (ax_cons (xv 5 (.inl rfl)) ax_nil)) (ex_ix (xv 1 (.inl rfl)) ex_int))))))))) (sxs_one (sx_ret ex_non)) sxs_nil)
    (sxs_one (sx_ret (ex_call (ok__law_last T) (Room.mono c.room (by decide)) c.gd c.tk (ax_cons (xv 5 (.inl rfl)) (ax_cons (x_sub (ex_ix (xv 1 (.inl rfl)) ex_int) ex_int) ax_nil)))))))
theorem ok__law_part (T : Txt w K mg) : DefOk P w K mg base "_law_part" 4 5 d__law_part := by
  obtain ⟨f, fd, F, hm⟩ := T.f__law_part
  exact def_of false F sc__law_part hm (F.binds fun _ _ _ _ _ _ us hl => match us, hl with | [_, _, _, _, _], _ => rfl) fun cdv A outer s H E c =>
    (sxs_cons (sx_asg (ex_ix (xv 0 (.inl rfl)) ex_int) (gx_nm sc__law_part.nd rfl (.inl rfl)))
    (sxs_cons (sx_if (t_eq c.room (ex_ix (xv 1 (.inr (.inl rfl))) ex_int) ex_str) (sxs_cons (sx_if (t_eq c.room (xv 4 (.inr (.inl rfl))) ex_int) (sxs_one (sx_ret (x_min2 c.calm T.b_min (ax_cons (ex_ix (xv 1 (.inr (.inl rfl))) ex_int) (ax_cons (x_add (xv 2 (.inl rfl)) ex_int) ax_nil))))) sxs_nil)
    (sxs_cons (sx_par c.calm sc__law_part.nd rfl rfl (by decide) (ps_par rfl sc__law_part.nd rfl rfl (by decide) rfl rfl (ax_cons (ex_ix (ex_ix (xv 5 (.inl rfl)) (x_sub (xv 4 (.inr (.inl rfl))) ex_int)) ex_int) (ax_cons (ex_ix (ex_ix (xv 5 (.inl rfl)) (x_sub (xv 4 (.inr (.inl rfl))) ex_int)) ex_int) ax_nil)) (by rfl)))
    (sxs_one (sx_ret (ex_if (t_ge (x_add (xv 2 (.inl rfl)) (xv 6 (.inl rfl))) (ex_ix (xv 1 (.inr (.inl rfl))) ex_int)) (x_min2 c.calm T.b_min (ax_cons (ex_ix (xv 1 (.inr (.inl rfl))) ex_int) (ax_cons (x_sub (x_sub ex_int (xv 6 (.inl rfl))) (xv 7 (.inl rfl))) ax_nil))) ex_non))))) sxs_nil)
    (sxs_cons (sx_if (t_in (ex_ix (xv 1 (.inr (.inl rfl))) ex_int) (ex_lst (ax_cons ex_str (ax_cons ex_str (ax_cons ex_str ax_nil))))) (sxs_one (sx_ret (ex_call (ok__law_window T) (Room.mono c.room (by decide)) c.gd c.tk (ax_cons (xv 0 (.inl rfl)) (ax_cons (xv 1 (.inr (.inl rfl))) (ax_cons (xv 2 (.inl rfl)) (ax_cons (xv 3 (.inl rfl)) (ax_cons (xv 4 (.inr (.inl rfl))) ax_nil)))))))) sxs_nil)
    (sxs_cons (sx_if (t_eq c.room (ex_ix (xv 1 (.inr (.inl rfl))) ex_int) ex_str) (sxs_cons (sx_if (tx_not (tx_tru (ex_call (ok__law_has T) (Room.mono c.room (by decide)) c.gd c.tk (ax_cons (xv 5 (.inl rfl)) (ax_cons (xv 4 (.inr (.inl rfl))) (ax_cons (ex_ix (xv 1 (.inr (.inl rfl))) ex_int) ax_nil)))))) (sxs_one (sx_ret ex_int)) sxs_nil)
    (sxs_one (sx_ret (ex_if (t_lt c.room (xv 2 (.inl rfl)) (ex_ix (xv 1 (.inr (.inl rfl))) ex_int)) (x_add (xv 2 (.inl rfl)) ex_int) ex_non)))) sxs_nil)
    (sxs_cons (sx_if (t_eq c.room (ex_ix (xv 1 (.inr (.inl rfl))) ex_int) ex_str) (sxs_one (sx_ret (ex_call (ok__law_free T) (Room.mono c.room (by decide)) c.gd c.tk (ax_cons (xv 5 (.inl rfl)) (ax_cons (xv 1 (.inr (.inl rfl))) (ax_cons (xv 2 (.inl rfl)) (ax_cons (xv 4 (.inr (.inl rfl))) ax_nil))))))) sxs_nil)
    (sxs_cons (sx_if (t_eq c.room (ex_ix (xv 1 (.inr (.inl rfl))) ex_int) ex_str) (sxs_cons (sx_asg (x_sub (x_add (xv 2 (.inl rfl)) (ex_call (ok__law_worth T) (Room.mono c.room (by decide)) c.gd c.tk (ax_cons (xv 5 (.inl rfl)) (ax_cons (xv 4 (.inr (.inl rfl))) ax_nil)))) (ex_ix (ex_ix (xv 1 (.inr (.inl rfl))) ex_int) (xv 3 (.inl rfl)))) (gx_nm sc__law_part.nd rfl (.inl rfl)))
    (sxs_one (sx_ret (ex_if (t_lele (ex_ix (xv 1 (.inr (.inl rfl))) ex_int) (xv 8 (.inl rfl)) (ex_ix (xv 1 (.inr (.inl rfl))) ex_int)) (xv 8 (.inl rfl)) ex_non)))) sxs_nil)
    (sxs_cons (sx_asg (x_tuple T.b_tuple (ax_cons (ex_lc false c.calm sc__law_part.nd (ix_seq (x_add (ex_tup (ax_cons ex_int ax_nil)) (xv 2 (.inl rfl)))) (blkOk_by (own := [("at", 10)]) (by rfl)) (by rfl) (fun _ _ _ _ _ => (gx_nm (by exact sc__law_part.nd) rfl (.inl rfl))) (fun _ _ _ _ _ => (if_one (t_in (xv 4 (.inr (.inl rfl))) (ex_ix (ex_ix (xv 1 (.inr (.inl rfl))) ex_int) (xv 10 (.inl rfl)))))) (fun _ _ _ _ _ => (x_add (xv 10 (.inl rfl)) ex_int))) ax_nil)) (gx_nm sc__law_part.nd rfl (.inl rfl)))
    (sxs_one (sx_ret (ex_if (t_in (x_len T.b_len (ax_cons (ex_ix (xv 1 (.inr (.inl rfl))) ex_int) ax_nil)) (xv 9 (.inl rfl))) ex_non (xv 9 (.inl rfl))))))))))))
theorem ok__law_step (T : Txt w K mg) : DefOk P w K mg base "_law_step" 5 3 d__law_step := by
  obtain ⟨f, fd, F, hm⟩ := T.f__law_step
  exact def_of false F sc__law_step hm (F.binds fun _ _ _ _ _ _ us hl => match us, hl with | [_, _, _], _ => rfl) fun cdv A outer s H E c =>
    (sxs_cons (sx_asg (ex_call (ok__law_rules T) (Room.mono c.room (by decide)) c.gd c.tk (ax_cons (xv 0 (.inr (.inl rfl))) ax_nil)) (gx_nm sc__law_step.nd rfl (.inr rfl)))
    (sxs_cons (sx_setLc false c.calm sc__law_step.nd rfl rfl (sw_true rfl rfl rfl (by rfl)) (ix_range1 T.b_range (ax_cons (x_len T.b_len (ax_cons (xv 3 (.inr (.inl rfl))) ax_nil)) ax_nil)) (blkOk_by (own := [("k", 5)]) (by rfl)) (by rfl) (fun _ _ _ _ _ => (gx_nm (by exact sc__law_step.nd) rfl (.inl rfl))) (fun _ _ _ _ _ => if_nil) (fun _ _ _ _ _ => (ex_call (ok__law_part T) (Room.mono c.room (by decide)) c.gd takes0 (ax_cons (xv 0 (.inr (.inl rfl))) (ax_cons (ex_ix (xv 3 (.inr (.inl rfl))) (xv 5 (.inl rfl))) (ax_cons (ex_ix (xv 1 (.inr (.inl rfl))) (x_add (xv 5 (.inl rfl)) ex_int)) (ax_cons (ex_ix (xv 1 (.inr (.inl rfl))) ex_int) (ax_cons (xv 2 (.inr (.inl rfl))) ax_nil))))))))
    (sxs_one (sx_ret (ex_if (t_noIn c.room ex_non (xv 4 (.inl rfl))) ex_non (x_add (ex_tup (ax_cons (x_mod (x_int T.b_int (ax_cons (x_add (ex_ix (xv 1 (.inr (.inl rfl))) ex_int) ex_int) ax_nil)) (x_len T.b_len (ax_cons (ex_ix (xv 0 (.inr (.inl rfl))) ex_int) ax_nil))) ax_nil)) (x_tuple T.b_tuple (ax_cons (xv 4 (.inl rfl)) ax_nil))))))))
theorem ok__law_moves (T : Txt w K mg) : DefOk P w K mg base "_law_moves" 6 2 d__law_moves := by
  obtain ⟨f, fd, F, hm⟩ := T.f__law_moves
  exact def_of false F sc__law_moves hm (F.binds fun _ _ _ _ _ _ us hl => match us, hl with | [_, _], _ => rfl) fun cdv A outer s H E c =>
    (sxs_one (sx_ret (ex_lc false c.calm sc__law_moves.nd (ix_range1 T.b_range (ax_cons (x_add (x_len T.b_len (ax_cons (ex_ix (xv 0 (.inr (.inl rfl))) ex_int) ax_nil)) ex_int) ax_nil)) (blkOk_by (own := [("number", 2)]) (by rfl)) (by rfl) (fun _ _ _ _ _ => (gx_nm (by exact sc__law_moves.nd) rfl (.inl rfl))) (fun _ _ _ _ _ => (if_one (t_isnot (ex_call (ok__law_step T) (Room.mono c.room (by decide)) c.gd takes0 (ax_cons (xv 0 (.inr (.inl rfl))) (ax_cons (xv 1 (.inr (.inl rfl))) (ax_cons (xv 2 (.inl rfl)) ax_nil)))) ex_non))) (fun _ _ _ _ _ => (xv 2 (.inl rfl))))))
theorem ok__law_duty (T : Txt w K mg) : DefOk P w K mg base "_law_duty" 3 1 d__law_duty := by
  obtain ⟨f, fd, F, hm⟩ := T.f__law_duty
  exact def_of false F sc__law_duty hm (F.binds fun _ _ _ _ _ _ us hl => match us, hl with | [_], _ => rfl) fun cdv A outer s H E c =>
    (sxs_cons (sx_par c.calm sc__law_duty.nd rfl rfl (by decide) (ps_par rfl sc__law_duty.nd rfl rfl (by decide) rfl rfl (ax_cons (ex_call (ok__law_pick T) (Room.mono c.room (by decide)) c.gd c.tk (ax_cons (xv 0 (.inl rfl)) (ax_cons (ex_lst (ax_cons ex_int (ax_cons ex_int (ax_cons ex_int (ax_cons ex_int (ax_cons ex_int (ax_cons ex_int ax_nil))))))) ax_nil))) (ax_cons (ex_call (ok__law_pick T) (Room.mono c.room (by decide)) c.gd c.tk (ax_cons (xv 0 (.inl rfl)) (ax_cons (ex_lst (ax_cons ex_int (ax_cons ex_int (ax_cons ex_int (ax_cons ex_int (ax_cons ex_int (ax_cons ex_int (ax_cons ex_int ax_nil)))))))) ax_nil))) ax_nil)) (by rfl)))
    (sxs_one (sx_ret (ex_tup (ax_cons (xv 1 (.inl rfl)) (ax_cons (xv 2 (.inl rfl)) (ax_cons (x_mod (x_int T.b_int (ax_cons (ex_call (ok__law_next T) (Room.mono c.room (by decide)) c.gd c.tk (ax_cons (xv 0 (.inl rfl)) ax_nil)) ax_nil)) (x_min2 c.calm T.b_min (ax_cons ex_int (ax_cons (xv 2 (.inl rfl)) ax_nil)))) (ax_cons (ex_call (ok__law_pick T) (Room.mono c.room (by decide)) c.gd c.tk (ax_cons (xv 0 (.inl rfl)) (ax_cons (ex_lst (ax_cons ex_str (ax_cons ex_str (ax_cons ex_str (ax_cons ex_str ax_nil))))) ax_nil))) ax_nil))))))))
theorem ok__law_measure (T : Txt w K mg) : DefOk P w K mg base "_law_measure" 3 1 d__law_measure := by
  obtain ⟨f, fd, F, hm⟩ := T.f__law_measure
  exact def_of false F sc__law_measure hm (F.binds fun _ _ _ _ _ _ us hl => match us, hl with | [_], _ => rfl) fun cdv A outer s H E c =>
    (sxs_one (sx_ret (ex_tup (ax_cons (ex_call (ok__law_pick T) (Room.mono c.room (by decide)) c.gd c.tk (ax_cons (xv 0 (.inl rfl)) (ax_cons (ex_lst (ax_cons ex_str (ax_cons ex_str ax_nil))) ax_nil))) (ax_cons (ex_call (ok__law_pick T) (Room.mono c.room (by decide)) c.gd c.tk (ax_cons (xv 0 (.inl rfl)) (ax_cons (ex_lst (ax_cons ex_str (ax_cons ex_str (ax_cons ex_str (ax_cons ex_str (ax_cons ex_str ax_nil)))))) ax_nil))) ax_nil)))))
theorem ok__law_rule (T : Txt w K mg) : DefOk P w K mg base "_law_rule" 4 3 d__law_rule := by
  obtain ⟨f, fd, F, hm⟩ := T.f__law_rule
  exact def_of false F sc__law_rule hm (F.binds fun _ _ _ _ _ _ us hl => match us, hl with | [_, _, _], _ => rfl) fun cdv A outer s H E c =>
    (sxs_cons (sx_asg (x_mod (x_int T.b_int (ax_cons (ex_call (ok__law_next T) (Room.mono c.room (by decide)) c.gd c.tk (ax_cons (xv 0 (.inr (.inl rfl))) ax_nil)) ax_nil)) ex_int) (gx_nm sc__law_rule.nd rfl (.inl rfl)))
    (sxs_cons (sx_if (t_eq c.room (xv 3 (.inl rfl)) ex_int) (sxs_one (sx_ret (ex_tup (ax_cons ex_str (ax_cons (ex_call (ok__law_pick T) (Room.mono c.room (by decide)) c.gd c.tk (ax_cons (xv 0 (.inr (.inl rfl))) (ax_cons (ex_lst (ax_cons ex_int (ax_cons ex_int (ax_cons ex_int (ax_cons ex_int (ax_cons ex_int ax_nil)))))) ax_nil))) ax_nil))))) sxs_nil)
    (sxs_cons (sx_if (t_lt c.room (xv 3 (.inl rfl)) ex_int) (sxs_cons (sx_par c.calm sc__law_rule.nd rfl rfl (by decide) (ps_par rfl sc__law_rule.nd rfl rfl (by decide) rfl rfl (ax_cons (ex_call (ok__law_measure T) (Room.mono c.room (by decide)) c.gd c.tk (ax_cons (xv 0 (.inr (.inl rfl))) ax_nil)) (ax_cons (x_add ex_int (x_mod (x_int T.b_int (ax_cons (ex_call (ok__law_next T) (Room.mono c.room (by decide)) c.gd c.tk (ax_cons (xv 0 (.inr (.inl rfl))) ax_nil)) ax_nil)) ex_int)) ax_nil)) (by rfl)))
    (sxs_cons (sx_asg (ex_ix (ex_lst (ax_cons ex_int (ax_cons ex_int ax_nil))) (x_int T.b_int (ax_cons (x_eq c.room (ex_ix (xv 4 (.inl rfl)) ex_int) ex_str) ax_nil))) (gx_nm sc__law_rule.nd rfl (.inl rfl)))
    (sxs_one (sx_ret (ex_tup (ax_cons (ex_ix (ex_lst (ax_cons ex_str (ax_cons ex_str ax_nil))) (x_sub (xv 3 (.inl rfl)) ex_int)) (ax_cons (xv 4 (.inl rfl)) (ax_cons (xv 5 (.inl rfl)) (ax_cons (x_mod (x_int T.b_int (ax_cons (ex_call (ok__law_next T) (Room.mono c.room (by decide)) c.gd c.tk (ax_cons (xv 0 (.inr (.inl rfl))) ax_nil)) ax_nil)) (x_add (x_mul (xv 6 (.inl rfl)) (x_sub ex_int (xv 3 (.inl rfl)))) ex_int)) ax_nil))))))))) sxs_nil)
    (sxs_cons (sx_if (t_eq c.room (xv 3 (.inl rfl)) ex_int) (sxs_one (sx_ret (ex_tup (ax_cons ex_str (ax_cons (ex_call (ok__law_pick T) (Room.mono c.room (by decide)) c.gd c.tk (ax_cons (xv 0 (.inr (.inl rfl))) (ax_cons (ex_lst (ax_cons ex_str (ax_cons ex_str (ax_cons ex_str (ax_cons ex_str ax_nil))))) ax_nil))) (ax_cons (x_mod (x_int T.b_int (ax_cons (ex_call (ok__law_next T) (Room.mono c.room (by decide)) c.gd c.tk (ax_cons (xv 0 (.inr (.inl rfl))) ax_nil)) ax_nil)) ex_int) ax_nil)))))) sxs_nil)
    (sxs_cons (sx_if (t_eq c.room (xv 3 (.inl rfl)) ex_int) (sxs_one (sx_ret (ex_tup (ax_cons ex_str (ax_cons (ex_call (ok__law_pick T) (Room.mono c.room (by decide)) c.gd c.tk (ax_cons (xv 0 (.inr (.inl rfl))) (ax_cons (ex_lst (ax_cons ex_str (ax_cons ex_str (ax_cons ex_str ax_nil)))) ax_nil))) (ax_cons (x_add ex_int (x_mod (x_int T.b_int (ax_cons (ex_call (ok__law_next T) (Room.mono c.room (by decide)) c.gd c.tk (ax_cons (xv 0 (.inr (.inl rfl))) ax_nil)) ax_nil)) ex_int)) (ax_cons (x_add ex_int (x_mod (x_int T.b_int (ax_cons (ex_call (ok__law_next T) (Room.mono c.room (by decide)) c.gd c.tk (ax_cons (xv 0 (.inr (.inl rfl))) ax_nil)) ax_nil)) ex_int)) ax_nil))))))) sxs_nil)
    (sxs_cons (sx_if (t_eq c.room (xv 3 (.inl rfl)) ex_int) (sxs_cons (sx_asg (x_add ex_int (x_mod (x_int T.b_int (ax_cons (ex_call (ok__law_next T) (Room.mono c.room (by decide)) c.gd c.tk (ax_cons (xv 0 (.inr (.inl rfl))) ax_nil)) ax_nil)) ex_int)) (gx_nm sc__law_rule.nd rfl (.inl rfl)))
    (sxs_one (sx_ret (ex_tup (ax_cons ex_str (ax_cons (ex_call (ok__law_pick T) (Room.mono c.room (by decide)) c.gd c.tk (ax_cons (xv 0 (.inr (.inl rfl))) (ax_cons (xv 1 (.inl rfl)) ax_nil))) (ax_cons (xv 5 (.inl rfl)) (ax_cons (x_mod (x_int T.b_int (ax_cons (ex_call (ok__law_next T) (Room.mono c.room (by decide)) c.gd c.tk (ax_cons (xv 0 (.inr (.inl rfl))) ax_nil)) ax_nil)) (x_add (xv 5 (.inl rfl)) ex_int)) ax_nil)))))))) sxs_nil)
    (sxs_cons (sx_if (t_eq c.room (xv 3 (.inl rfl)) ex_int) (sxs_cons (sx_asg (x_tuple T.b_tuple (ax_cons (ex_lc false c.calm sc__law_rule.nd (ix_seq (xv 1 (.inl rfl))) (blkOk_by (own := [("k", 8)]) (by rfl)) (by rfl) (fun _ _ _ _ _ => (gx_nm (by exact sc__law_rule.nd) rfl (.inl rfl))) (fun _ _ _ _ _ => if_nil) (fun _ _ _ _ _ => (ex_call (ok__law_pick T) (Room.mono c.room (by decide)) c.gd takes0 (ax_cons (xv 0 (.inr (.inl rfl))) (ax_cons (ex_lst (ax_cons ex_int (ax_cons ex_int (ax_cons ex_int (ax_cons ex_int ax_nil))))) ax_nil))))) ax_nil)) (gx_nm sc__law_rule.nd rfl (.inl rfl)))
    (sxs_one (sx_ret (ex_tup (ax_cons ex_str (ax_cons (x_sub ex_int (ex_call (ok__law_pick T) (Room.mono c.room (by decide)) c.gd c.tk (ax_cons (xv 0 (.inr (.inl rfl))) (ax_cons (ex_lst (ax_cons ex_int (ax_cons ex_int (ax_cons ex_int (ax_cons ex_int ax_nil))))) ax_nil)))) (ax_cons (ex_call (ok__law_pick T) (Room.mono c.room (by decide)) c.gd c.tk (ax_cons (xv 0 (.inr (.inl rfl))) (ax_cons (ex_lst (ax_cons ex_int (ax_cons ex_int (ax_cons ex_int (ax_cons ex_int ax_nil))))) ax_nil))) (ax_cons (xv 7 (.inl rfl)) ax_nil)))))))) sxs_nil)
    (sxs_cons (sx_asg (ex_lstM ax_nil) (gx_nm sc__law_rule.nd rfl (.inl rfl)))
    (sxs_cons (sx_for c.po c.calm (ix_range1 T.b_range (ax_cons (x_add ex_int (x_mod (x_int T.b_int (ax_cons (ex_call (ok__law_next T) (Room.mono c.room (by decide)) c.gd c.tk (ax_cons (xv 0 (.inr (.inl rfl))) ax_nil)) ax_nil)) ex_int)) ax_nil)) (gx_nm sc__law_rule.nd rfl (.inl rfl)) (sxs_cons (sx_asg (x_tuple T.b_tuple (ax_cons (ex_lc false c.calm sc__law_rule.nd (ix_range1 T.b_range (ax_cons (x_add (xv 2 (.inl rfl)) ex_int) ax_nil)) (blkOk_by (own := [("number", 11)]) (by rfl)) (by rfl) (fun _ _ _ _ _ => (gx_nm (by exact sc__law_rule.nd) rfl (.inl rfl))) (fun _ _ _ _ _ => (if_one (t_eq c.room (x_mod (x_int T.b_int (ax_cons (ex_call (ok__law_next T) (Room.mono c.room (by decide)) c.gd takes0 (ax_cons (xv 0 (.inr (.inl rfl))) ax_nil)) ax_nil)) ex_int) ex_int))) (fun _ _ _ _ _ => (xv 11 (.inl rfl)))) ax_nil)) (gx_nm sc__law_rule.nd rfl (.inl rfl)))
    (sxs_one (sx_expr (x_append (xv 9 (.inl rfl)) (ax_cons (ex_if (tx_tru (xv 10 (.inl rfl))) (xv 10 (.inl rfl)) (ex_tup (ax_cons (x_mod (x_int T.b_int (ax_cons (ex_call (ok__law_next T) (Room.mono c.room (by decide)) c.gd c.tk (ax_cons (xv 0 (.inr (.inl rfl))) ax_nil)) ax_nil)) (x_add (xv 2 (.inl rfl)) ex_int)) ax_nil))) ax_nil))))))
    (sxs_one (sx_ret (ex_tup (ax_cons ex_str (ax_cons (x_tuple T.b_tuple (ax_cons (xv 9 (.inl rfl)) ax_nil)) ax_nil))))))))))))))
theorem ok__law_any_book (T : Txt w K mg) : DefOk P w K mg base "_law_any_book" 5 1 d__law_any_book := by
  obtain ⟨f, fd, F, hm⟩ := T.f__law_any_book
  exact def_of false F sc__law_any_book hm (F.binds fun _ _ _ _ _ _ us hl => match us, hl with | [_], _ => rfl) fun cdv A outer s H E c =>
    (sxs_cons (sx_asg (ex_call (ok__law_pick T) (Room.mono c.room (by decide)) c.gd c.tk (ax_cons (xv 0 (.inr (.inl rfl))) (ax_cons (ex_lst (ax_cons (ex_tup (ax_cons ex_str ax_nil)) (ax_cons (ex_tup (ax_cons ex_str ax_nil)) (ax_cons (ex_tup (ax_cons ex_str (ax_cons ex_str ax_nil))) (ax_cons (ex_tup (ax_cons ex_str (ax_cons ex_str (ax_cons ex_str ax_nil)))) (ax_cons (ex_tup (ax_cons ex_str (ax_cons ex_str ax_nil))) ax_nil)))))) ax_nil))) (gx_nm sc__law_any_book.nd rfl (.inr rfl)))
    (sxs_cons (sx_asg (x_tuple T.b_tuple (ax_cons (ex_lc false c.calm sc__law_any_book.nd (ix_range1 T.b_range (ax_cons (x_add ex_int (x_mod (x_int T.b_int (ax_cons (ex_call (ok__law_next T) (Room.mono c.room (by decide)) c.gd c.tk (ax_cons (xv 0 (.inr (.inl rfl))) ax_nil)) ax_nil)) ex_int)) ax_nil)) (blkOk_by (own := [("k", 4)]) (by rfl)) (by rfl) (fun _ _ _ _ _ => (gx_nm (by exact sc__law_any_book.nd) rfl (.inl rfl))) (fun _ _ _ _ _ => if_nil) (fun _ _ _ _ _ => (ex_call (ok__law_duty T) (Room.mono c.room (by decide)) c.gd takes0 (ax_cons (xv 0 (.inr (.inl rfl))) ax_nil)))) ax_nil)) (gx_nm sc__law_any_book.nd rfl (.inr rfl)))
    (sxs_cons (sx_asg (x_tuple T.b_tuple (ax_cons (ex_lc false c.calm sc__law_any_book.nd (ix_range1 T.b_range (ax_cons (x_mod (x_int T.b_int (ax_cons (ex_call (ok__law_next T) (Room.mono c.room (by decide)) c.gd c.tk (ax_cons (xv 0 (.inr (.inl rfl))) ax_nil)) ax_nil)) ex_int) ax_nil)) (blkOk_by (own := [("k", 4)]) (by rfl)) (by rfl) (fun _ _ _ _ _ => (gx_nm (by exact sc__law_any_book.nd) rfl (.inl rfl))) (fun _ _ _ _ _ => if_nil) (fun _ _ _ _ _ => (ex_call (ok__law_rule T) (Room.mono c.room (by decide)) c.gd takes0 (ax_cons (xv 0 (.inr (.inl rfl))) (ax_cons (xv 1 (.inr (.inl rfl))) (ax_cons (x_len T.b_len (ax_cons (xv 2 (.inr (.inl rfl))) ax_nil)) ax_nil)))))) ax_nil)) (gx_nm sc__law_any_book.nd rfl (.inl rfl)))
    (sxs_one (sx_ret (ex_tup (ax_cons (xv 1 (.inr (.inl rfl))) (ax_cons (xv 2 (.inr (.inl rfl))) (ax_cons (xv 3 (.inl rfl)) ax_nil)))))))))
theorem ok__law_entry (T : Txt w K mg) : DefOk P w K mg base "_law_entry" 3 2 d__law_entry := by
  obtain ⟨f, fd, F, hm⟩ := T.f__law_entry
  exact def_of false F sc__law_entry hm (F.binds fun _ _ _ _ _ _ us hl => match us, hl with | [_, _], _ => rfl) fun cdv A outer s H E c =>
    (sxs_cons (sx_asg (ex_lstM ax_nil) (gx_nm sc__law_entry.nd rfl (.inl rfl)))
    (sxs_cons (sx_for c.po c.calm (ix_range1 T.b_range (ax_cons (x_mod (x_int T.b_int (ax_cons (ex_call (ok__law_next T) (Room.mono c.room (by decide)) c.gd c.tk (ax_cons (xv 0 (.inl rfl)) ax_nil)) ax_nil)) ex_int) ax_nil)) (gx_nm sc__law_entry.nd rfl (.inl rfl)) (sxs_cons (sx_asg (x_mod (x_int T.b_int (ax_cons (ex_call (ok__law_next T) (Room.mono c.room (by decide)) c.gd c.tk (ax_cons (xv 0 (.inl rfl)) ax_nil)) ax_nil)) (x_add (xv 1 (.inl rfl)) ex_int)) (gx_nm sc__law_entry.nd rfl (.inl rfl)))
    (sxs_one (sx_expr (x_append (xv 2 (.inl rfl)) (ax_cons (ex_tup (ax_cons (ex_call (ok__law_pick T) (Room.mono c.room (by decide)) c.gd c.tk (ax_cons (xv 0 (.inl rfl)) (ax_cons (ex_lst (ax_cons ex_str (ax_cons ex_str (ax_cons ex_str (ax_cons ex_str ax_nil))))) ax_nil))) (ax_cons (xv 4 (.inl rfl)) (ax_cons (x_min2 c.calm T.b_min (ax_cons ex_int (ax_cons (x_add (xv 4 (.inl rfl)) (x_mod (x_int T.b_int (ax_cons (ex_call (ok__law_next T) (Room.mono c.room (by decide)) c.gd c.tk (ax_cons (xv 0 (.inl rfl)) ax_nil)) ax_nil)) ex_int)) ax_nil))) ax_nil)))) ax_nil))))))
    (sxs_one (sx_ret (x_tuple T.b_tuple (ax_cons (xv 2 (.inl rfl)) ax_nil))))))
theorem ok__law_demand (T : Txt w K mg) : DefOk P w K mg base "_law_demand" 4 3 d__law_demand := by
  obtain ⟨f, fd, F, hm⟩ := T.f__law_demand
  exact def_of false F sc__law_demand hm (F.binds fun _ _ _ _ _ _ us hl => match us, hl with | [_, _, _], _ => rfl) fun cdv A outer s H E c =>
    (sxs_one (sx_ret (x_tuple T.b_tuple (ax_cons (ex_lc false c.calm sc__law_demand.nd (ix_seq (ex_ix (xv 1 (.inl rfl)) ex_int)) (blkOk_by (own := [("kind", 3)]) (by rfl)) (by rfl) (fun _ _ _ _ _ => (gx_nm (by exact sc__law_demand.nd) rfl (.inl rfl))) (fun _ _ _ _ _ => if_nil) (fun _ _ _ _ _ => (ex_call (ok__law_entry T) (Room.mono c.room (by decide)) c.gd takes0 (ax_cons (xv 0 (.inr (.inl rfl))) (ax_cons (xv 2 (.inr (.inl rfl))) ax_nil))))) ax_nil))))
theorem ok__law_met (T : Txt w K mg) : DefOk P w K mg base "_law_met" 2 3 d__law_met := by
  obtain ⟨f, fd, F, hm⟩ := T.f__law_met
  exact def_of false F sc__law_met hm (F.binds fun _ _ _ _ _ _ us hl => match us, hl with | [_, _, _], _ => rfl) fun cdv A outer s H E c =>
    (sxs_one (sx_ret (x_all c.calm T.b_all (ax_cons (ex_lc false c.calm sc__law_met.nd (ix_seq (xv 1 (.inl rfl))) (blkOk_by (own := [("sort", 3), ("low", 4), ("high", 5)]) (by rfl)) (by rfl) (fun _ _ _ _ _ => (gx_tp (by exact c.calm) (gxs_cons (gx_nm (by exact sc__law_met.nd) rfl (.inr rfl)) (gxs_cons (gx_nm (by exact sc__law_met.nd) rfl (.inl rfl)) (gxs_cons (gx_nm (by exact sc__law_met.nd) rfl (.inl rfl)) gxs_nil))))) (fun _ _ _ _ _ => if_nil) (fun _ _ _ _ _ => (x_lele (xv 4 (.inl rfl)) (x_len T.b_len (ax_cons (ex_lc false (by exact c.calm) (by exact sc__law_met.nd) (ix_seq (xv 2 (.inr (.inl rfl)))) (blkOk_by (own := [("number", 6)]) (by rfl)) (by rfl) (fun _ _ _ _ _ => (gx_nm (by exact sc__law_met.nd) rfl (.inl rfl))) (fun _ _ _ _ _ => (if_one (tx_tru (ex_call (ok__law_has T) (Room.mono c.room (by decide)) c.gd takes0 (ax_cons (xv 0 (.inr (.inl rfl))) (ax_cons (xv 6 (.inl rfl)) (ax_cons (xv 3 (.inr (.inl rfl))) ax_nil))))))) (fun _ _ _ _ _ => (xv 6 (.inl rfl)))) ax_nil)) (xv 5 (.inl rfl))))) ax_nil))))
theorem ok__law_behind (T : Txt w K mg) : DefOk P w K mg base "_law_behind" 6 3 d__law_behind := by
  obtain ⟨f, fd, F, hm⟩ := T.f__law_behind
  exact def_of false F sc__law_behind hm (F.binds fun _ _ _ _ _ _ us hl => match us, hl with | [_, _, _], _ => rfl) fun cdv A outer s H E c =>
    (sxs_cons (sx_for c.po c.calm (ix_seq (xv 2 (.inl rfl))) (gx_nm sc__law_behind.nd rfl (.inl rfl)) (sxs_one (sx_asg (ex_if (t_isnot (xv 1 (.inl rfl)) ex_non) (ex_call (ok__law_step T) (Room.mono c.room (by decide)) c.gd c.tk (ax_cons (xv 0 (.inl rfl)) (ax_cons (xv 1 (.inl rfl)) (ax_cons (xv 3 (.inl rfl)) ax_nil)))) ex_non) (gx_nm sc__law_behind.nd rfl (.inl rfl)))))
    (sxs_one (sx_ret (xv 1 (.inl rfl)))))
theorem ok__law_standings (T : Txt w K mg) : DefOk P w K mg base "_law_standings" 7 2 d__law_standings := by
  obtain ⟨f, fd, F, hm⟩ := T.f__law_standings
  exact def_of false F sc__law_standings hm (F.binds fun _ _ _ _ _ _ us hl => match us, hl with | [_, _], _ => rfl) fun cdv A outer s H E c =>
    (sxs_cons (sx_asg (xv 0 (.inl rfl)) (gx_tp c.calm (gxs_cons (gx_nm sc__law_standings.nd rfl (.inr rfl)) (gxs_cons (gx_nm sc__law_standings.nd rfl (.inl rfl)) (gxs_cons (gx_nm sc__law_standings.nd rfl (.inr rfl)) gxs_nil)))))
    (sxs_cons (sx_if (tx_not (tx_tru (x_all c.calm T.b_all (ax_cons (ex_lc false c.calm sc__law_standings.nd (ix_range1 T.b_range (ax_cons (x_len T.b_len (ax_cons (xv 1 (.inr (.inl rfl))) ax_nil)) ax_nil)) (blkOk_by (own := [("day", 6)]) (by rfl)) (by rfl) (fun _ _ _ _ _ => (gx_nm (by exact sc__law_standings.nd) rfl (.inl rfl))) (fun _ _ _ _ _ => if_nil) (fun _ _ _ _ _ => (ex_call (ok__law_met T) (Room.mono c.room (by decide)) c.gd takes0 (ax_cons (ex_ix (xv 2 (.inr (.inl rfl))) ex_int) (ax_cons (ex_ix (xv 4 (.inr (.inl rfl))) (x_mod (x_int T.b_int (ax_cons (xv 6 (.inl rfl)) ax_nil)) (x_len T.b_len (ax_cons (ex_ix (xv 2 (.inr (.inl rfl))) ex_int) ax_nil)))) (ax_cons (ex_ix (xv 1 (.inr (.inl rfl))) (xv 6 (.inl rfl))) ax_nil)))))) ax_nil)))) (sxs_one (sx_ret ex_non)) sxs_nil)
    (sxs_cons (sx_setLc false c.calm sc__law_standings.nd rfl rfl (sw_true rfl rfl rfl (by rfl)) (ix_range1 T.b_range (ax_cons (xv 3 (.inl rfl)) ax_nil)) (blkOk_by (own := [("person", 7)]) (by rfl)) (by rfl) (fun _ _ _ _ _ => (gx_nm (by exact sc__law_standings.nd) rfl (.inr rfl))) (fun _ _ _ _ _ => if_nil) (fun _ _ _ _ _ => (ex_call (ok__law_behind T) (Room.mono c.room (by decide)) c.gd takes0 (ax_cons (xv 2 (.inr (.inl rfl))) (ax_cons (ex_call (ok__law_first T) (Room.mono c.room (by decide)) c.gd takes0 (ax_cons (xv 2 (.inr (.inl rfl))) ax_nil)) (ax_cons (ex_lc false (by exact c.calm) (by exact sc__law_standings.nd) (ix_seq (xv 1 (.inr (.inl rfl)))) (blkOk_by (own := [("row", 8)]) (by rfl)) (by rfl) (fun _ _ _ _ _ => (gx_nm (by exact sc__law_standings.nd) rfl (.inl rfl))) (fun _ _ _ _ _ => if_nil) (fun _ _ _ _ _ => (ex_ix (xv 8 (.inl rfl)) (xv 7 (.inr (.inl rfl)))))) ax_nil))))))
    (sxs_one (sx_ret (ex_if (t_noIn c.room ex_non (xv 5 (.inl rfl))) ex_non (x_tuple T.b_tuple (ax_cons (x_sorted c.room T.b_sorted (ax_cons (xv 5 (.inl rfl)) ax_nil)) ax_nil))))))))
theorem ok_check_calendar (T : Txt w K mg) : DefOk P w K mg base "check_calendar" 3 1 d_check_calendar := by
  obtain ⟨f, fd, F, hm⟩ := T.f_check_calendar
  exact def_of false F sc_check_calendar hm (F.binds fun _ _ _ _ _ _ us hl => match us, hl with | [_], _ => rfl) fun cdv A outer s H E c =>
    (sxs_one (sx_if (tx_not (tx_tru (ex_call (ok_is_calendar T) (Room.mono c.room (by decide)) c.gd c.tk (ax_cons (xv 0 (.inl rfl)) ax_nil)))) (sxs_one (sx_raise c.calm c.tk T.e_NotCalendar)) sxs_nil))
theorem ok_check_duties (T : Txt w K mg) : DefOk P w K mg base "check_duties" 4 1 d_check_duties := by
  obtain ⟨f, fd, F, hm⟩ := T.f_check_duties
  exact def_of false F sc_check_duties hm (F.binds fun _ _ _ _ _ _ us hl => match us, hl with | [_], _ => rfl) fun cdv A outer s H E c =>
    (sxs_one (sx_if (tx_not (tx_tru (ex_call (ok_is_duties T) (Room.mono c.room (by decide)) c.gd c.tk (ax_cons (xv 0 (.inl rfl)) ax_nil)))) (sxs_one (sx_raise c.calm c.tk T.e_NotDuties)) sxs_nil))
theorem ok_check_book (T : Txt w K mg) : DefOk P w K mg base "check_book" 6 1 d_check_book := by
  obtain ⟨f, fd, F, hm⟩ := T.f_check_book
  exact def_of false F sc_check_book hm (F.binds fun _ _ _ _ _ _ us hl => match us, hl with | [_], _ => rfl) fun cdv A outer s H E c =>
    (sxs_cons (sx_asg (xv 0 (.inl rfl)) (gx_tp c.calm (gxs_cons (gx_nm sc_check_book.nd rfl (.inr rfl)) (gxs_cons (gx_nm sc_check_book.nd rfl (.inr rfl)) (gxs_cons (gx_nm sc_check_book.nd rfl (.inl rfl)) gxs_nil)))))
    (sxs_cons (sx_expr (ex_call (ok_check_calendar T) (Room.mono c.room (by decide)) c.gd c.tk (ax_cons (xv 1 (.inr (.inl rfl))) ax_nil)))
    (sxs_cons (sx_expr (ex_call (ok_check_duties T) (Room.mono c.room (by decide)) c.gd c.tk (ax_cons (xv 2 (.inr (.inl rfl))) ax_nil)))
    (sxs_cons (sx_if (tx_not (tx_tru (x_all c.calm T.b_all (ax_cons (ex_lc false c.calm sc_check_book.nd (ix_seq (xv 3 (.inl rfl))) (blkOk_by (own := [("rule", 4)]) (by rfl)) (by rfl) (fun _ _ _ _ _ => (gx_nm (by exact sc_check_book.nd) rfl (.inl rfl))) (fun _ _ _ _ _ => if_nil) (fun _ _ _ _ _ => (ex_call (ok_fits T) (Room.mono c.room (by decide)) c.gd takes0 (ax_cons (xv 1 (.inr (.inl rfl))) (ax_cons (xv 2 (.inr (.inl rfl))) (ax_cons (xv 4 (.inl rfl)) ax_nil)))))) ax_nil)))) (sxs_one (sx_raise c.calm c.tk T.e_NotRule)) sxs_nil)
    (sxs_one (sx_if (t_gt (x_len T.b_len (ax_cons (xv 3 (.inl rfl)) ax_nil)) (x_gi T.c_MOST_RULES)) (sxs_one (sx_raise c.calm c.tk T.e_BadNumber)) sxs_nil))))))
theorem ok_check_house (T : Txt w K mg) : DefOk P w K mg base "check_house" 7 1 d_check_house := by
  obtain ⟨f, fd, F, hm⟩ := T.f_check_house
  exact def_of false F sc_check_house hm (F.binds fun _ _ _ _ _ _ us hl => match us, hl with | [_], _ => rfl) fun cdv A outer s H E c =>
    (sxs_cons (sx_asg (xv 0 (.inl rfl)) (gx_tp c.calm (gxs_cons (gx_nm sc_check_house.nd rfl (.inl rfl)) (gxs_cons (gx_nm sc_check_house.nd rfl (.inl rfl)) (gxs_cons (gx_nm sc_check_house.nd rfl (.inl rfl)) gxs_nil)))))
    (sxs_cons (sx_expr (ex_call (ok_check_book T) (Room.mono c.room (by decide)) c.gd c.tk (ax_cons (xv 1 (.inl rfl)) ax_nil)))
    (sxs_cons (sx_if (tx_not (tx_tru (ex_call (ok_is_crew T) (Room.mono c.room (by decide)) c.gd c.tk (ax_cons (xv 2 (.inl rfl)) ax_nil)))) (sxs_one (sx_raise c.calm c.tk T.e_BadNumber)) sxs_nil)
    (sxs_one (sx_if (tx_not (tx_tru (ex_call (ok_is_demand T) (Room.mono c.room (by decide)) c.gd c.tk (ax_cons (xv 1 (.inl rfl)) (ax_cons (xv 3 (.inl rfl)) ax_nil))))) (sxs_one (sx_raise c.calm c.tk T.e_NotDemand)) sxs_nil)))))
theorem ok_is_row (T : Txt w K mg) : DefOk P w K mg base "is_row" 1 2 d_is_row := by
  obtain ⟨f, fd, F, hm⟩ := T.f_is_row
  exact def_of false F sc_is_row hm (F.binds fun _ _ _ _ _ _ us hl => match us, hl with | [_, _], _ => rfl) fun cdv A outer s H E c =>
    (sxs_one (sx_ret (x_all c.calm T.b_all (ax_cons (ex_lc false c.calm sc_is_row.nd (ix_seq (xv 1 (.inl rfl))) (blkOk_by (own := [("number", 2)]) (by rfl)) (by rfl) (fun _ _ _ _ _ => (gx_nm (by exact sc_is_row.nd) rfl (.inl rfl))) (fun _ _ _ _ _ => if_nil) (fun _ _ _ _ _ => (x_lele (x_gi T.c_FREE) (xv 2 (.inl rfl)) (x_len T.b_len (ax_cons (xv 0 (.inr (.inl rfl))) ax_nil))))) ax_nil))))
theorem ok_is_day (T : Txt w K mg) : DefOk P w K mg base "is_day" 2 2 d_is_day := by
  obtain ⟨f, fd, F, hm⟩ := T.f_is_day
  exact def_of false F sc_is_day hm (F.binds fun _ _ _ _ _ _ us hl => match us, hl with | [_, _], _ => rfl) fun cdv A outer s H E c =>
    (sxs_one (sx_ret (ex_and (x_eq c.room (x_len T.b_len (ax_cons (xv 1 (.inl rfl)) ax_nil)) (ex_ix (xv 0 (.inl rfl)) ex_int)) (ex_one (ex_call (ok_is_row T) (Room.mono c.room (by decide)) c.gd c.tk (ax_cons (ex_ix (ex_ix (xv 0 (.inl rfl)) ex_int) ex_int) (ax_cons (xv 1 (.inl rfl)) ax_nil)))))))
theorem ok_is_of (T : Txt w K mg) : DefOk P w K mg base "is_of" 1 3 d_is_of := by
  obtain ⟨f, fd, F, hm⟩ := T.f_is_of
  exact def_of false F sc_is_of hm (F.binds fun _ _ _ _ _ _ us hl => match us, hl with | [_, _, _], _ => rfl) fun cdv A outer s H E c =>
    (sxs_one (sx_ret (ex_and (x_ne c.room (xv 1 (.inl rfl)) (x_gi T.c_FREE)) (ex_one (ex_or (x_eq c.room (xv 2 (.inl rfl)) ex_str) (ex_one (x_in (xv 2 (.inl rfl)) (ex_ix (ex_ix (xv 0 (.inl rfl)) (x_sub (xv 1 (.inl rfl)) ex_int)) ex_int))))))))
theorem ok_met (T : Txt w K mg) : DefOk P w K mg base "met" 2 3 d_met := by
  obtain ⟨f, fd, F, hm⟩ := T.f_met
  exact def_of false F sc_met hm (F.binds fun _ _ _ _ _ _ us hl => match us, hl with | [_, _, _], _ => rfl) fun cdv A outer s H E c =>
    (sxs_cons (sx_asg (ex_ix (ex_ix (xv 0 (.inl rfl)) ex_int) ex_int) (gx_nm sc_met.nd rfl (.inr rfl)))
    (sxs_cons (sx_for c.po c.calm (ix_seq (ex_ix (ex_ix (xv 0 (.inl rfl)) ex_int) (xv 1 (.inl rfl)))) (gx_tp c.calm (gxs_cons (gx_nm sc_met.nd rfl (.inr rfl)) (gxs_cons (gx_nm sc_met.nd rfl (.inl rfl)) (gxs_cons (gx_nm sc_met.nd rfl (.inl rfl)) gxs_nil)))) (sxs_one (sx_if (tx_not (t_lele (xv 5 (.inl rfl)) (x_len T.b_len (ax_cons (ex_lc false c.calm sc_met.nd (ix_seq (xv 2 (.inl rfl))) (blkOk_by (own := [("number", 7)]) (by rfl)) (by rfl) (fun _ _ _ _ _ => (gx_nm (by exact sc_met.nd) rfl (.inl rfl))) (fun _ _ _ _ _ => (if_one (tx_tru (ex_call (ok_is_of T) (Room.mono c.room (by decide)) c.gd takes0 (ax_cons (xv 3 (.inr (.inl rfl))) (ax_cons (xv 7 (.inl rfl)) (ax_cons (xv 4 (.inr (.inl rfl))) ax_nil))))))) (fun _ _ _ _ _ => (xv 7 (.inl rfl)))) ax_nil)) (xv 6 (.inl rfl)))) (sxs_one (sx_ret ex_bl)) sxs_nil)))
    (sxs_one (sx_ret ex_bl))))
theorem ok_meets (T : Txt w K mg) : DefOk P w K mg base "meets" 8 3 d_meets := by
  obtain ⟨f, fd, F, hm⟩ := T.f_meets
  exact def_of false F sc_meets hm (F.binds fun _ _ _ _ _ _ us hl => match us, hl with | [_, _, _], _ => rfl) fun cdv A outer s H E c =>
    (sxs_cons (sx_expr (ex_call (ok_check_house T) (Room.mono c.room (by decide)) c.gd c.tk (ax_cons (xv 0 (.inl rfl)) ax_nil)))
    (sxs_cons (sx_if (tx_not (tx_tru (ex_call (ok_is_day T) (Room.mono c.room (by decide)) c.gd c.tk (ax_cons (xv 0 (.inl rfl)) (ax_cons (xv 2 (.inl rfl)) ax_nil))))) (sxs_one (sx_raise c.calm c.tk T.e_NotRoster)) sxs_nil)
    (sxs_cons (sx_if (tx_not (t_lelt c.room ex_int (xv 1 (.inl rfl)) (x_len T.b_len (ax_cons (ex_ix (ex_ix (xv 0 (.inl rfl)) ex_int) ex_int) ax_nil)))) (sxs_one (sx_raise c.calm c.tk T.e_BadNumber)) sxs_nil)
    (sxs_one (sx_ret (ex_call (ok_met T) (Room.mono c.room (by decide)) c.gd c.tk (ax_cons (xv 0 (.inl rfl)) (ax_cons (xv 1 (.inl rfl)) (ax_cons (xv 2 (.inl rfl)) ax_nil)))))))))
theorem ok_check_plan (T : Txt w K mg) : DefOk P w K mg base "check_plan" 8 2 d_check_plan := by
  obtain ⟨f, fd, F, hm⟩ := T.f_check_plan
  exact def_of false F sc_check_plan hm (F.binds fun _ _ _ _ _ _ us hl => match us, hl with | [_, _], _ => rfl) fun cdv A outer s H E c =>
    (sxs_cons (sx_expr (ex_call (ok_check_house T) (Room.mono c.room (by decide)) c.gd c.tk (ax_cons (xv 0 (.inr (.inl rfl))) ax_nil)))
    (sxs_one (sx_if (tx_not (tx_tru (x_all c.calm T.b_all (ax_cons (ex_lc false c.calm sc_check_plan.nd (ix_seq (xv 1 (.inl rfl))) (blkOk_by (own := [("day", 2)]) (by rfl)) (by rfl) (fun _ _ _ _ _ => (gx_nm (by exact sc_check_plan.nd) rfl (.inl rfl))) (fun _ _ _ _ _ => if_nil) (fun _ _ _ _ _ => (ex_call (ok_is_day T) (Room.mono c.room (by decide)) c.gd takes0 (ax_cons (xv 0 (.inr (.inl rfl))) (ax_cons (xv 2 (.inl rfl)) ax_nil))))) ax_nil)))) (sxs_one (sx_raise c.calm c.tk T.e_NotRoster)) sxs_nil)))
theorem ok_start_of (T : Txt w K mg) : DefOk P w K mg base "start_of" 1 1 d_start_of := by
  obtain ⟨f, fd, F, hm⟩ := T.f_start_of
  exact def_of false F sc_start_of hm (F.binds fun _ _ _ _ _ _ us hl => match us, hl with | [_], _ => rfl) fun cdv A outer s H E c =>
    (sxs_cons (sx_asg (ex_ix (xv 0 (.inl rfl)) ex_int) (gx_nm sc_start_of.nd rfl (.inl rfl)))
    (sxs_cons (sx_if (t_eq c.room (xv 1 (.inl rfl)) (x_gs T.c_REST)) (sxs_one (sx_ret (ex_ix (xv 0 (.inl rfl)) ex_int))) sxs_nil)
    (sxs_cons (sx_if (t_eq c.room (xv 1 (.inl rfl)) (x_gs T.c_MOST)) (sxs_one (sx_ret (x_mul (ex_tup (ax_cons ex_int ax_nil)) (x_sub (ex_ix (xv 0 (.inl rfl)) ex_int) ex_int)))) sxs_nil)
    (sxs_cons (sx_if (t_in (xv 1 (.inl rfl)) (ex_tup (ax_cons (x_gs T.c_ROW) (ax_cons (x_gs T.c_ACCOUNT) ax_nil)))) (sxs_one (sx_ret ex_int)) sxs_nil)
    (sxs_one (sx_ret (ex_if (t_eq c.room (xv 1 (.inl rfl)) (x_gs T.c_BEHIND)) (ex_tup (ax_cons ex_int (ax_cons ex_int ax_nil))) (ex_tup ax_nil))))))))
theorem ok_all_rules (T : Txt w K mg) : DefOk P w K mg base "all_rules" 1 1 d_all_rules := by
  obtain ⟨f, fd, F, hm⟩ := T.f_all_rules
  exact def_of false F sc_all_rules hm (F.binds fun _ _ _ _ _ _ us hl => match us, hl with | [_], _ => rfl) fun cdv A outer s H E c =>
    (sxs_one (sx_ret (ex_tup (ax_cons (x_gd T.q_NO_OVERLAP) (ax_star (ex_ix (xv 0 (.inl rfl)) ex_int) ax_nil)))))
theorem ok_start (T : Txt w K mg) : DefOk P w K mg base "start" 2 1 d_start := by
  obtain ⟨f, fd, F, hm⟩ := T.f_start
  exact def_of false F sc_start hm (F.binds fun _ _ _ _ _ _ us hl => match us, hl with | [_], _ => rfl) fun cdv A outer s H E c =>
    (sxs_one (sx_ret (ex_tup (ax_cons ex_int (ax_star (ex_lc false c.calm sc_start.nd (ix_seq (ex_call (ok_all_rules T) (Room.mono c.room (by decide)) c.gd c.tk (ax_cons (xv 0 (.inl rfl)) ax_nil))) (blkOk_by (own := [("rule", 1)]) (by rfl)) (by rfl) (fun _ _ _ _ _ => (gx_nm (by exact sc_start.nd) rfl (.inl rfl))) (fun _ _ _ _ _ => if_nil) (fun _ _ _ _ _ => (ex_call (ok_start_of T) (Room.mono c.room (by decide)) c.gd takes0 (ax_cons (xv 1 (.inl rfl)) ax_nil)))) ax_nil)))))
theorem ok_begins (T : Txt w K mg) : DefOk P w K mg base "begins" 1 2 d_begins := by
  obtain ⟨f, fd, F, hm⟩ := T.f_begins
  exact def_of false F sc_begins hm (F.binds fun _ _ _ _ _ _ us hl => match us, hl with | [_, _], _ => rfl) fun cdv A outer s H E c =>
    (sxs_one (sx_ret (ex_ix (ex_ix (xv 0 (.inl rfl)) (x_sub (xv 1 (.inl rfl)) ex_int)) ex_int)))
theorem ok_ends (T : Txt w K mg) : DefOk P w K mg base "ends" 1 2 d_ends := by
  obtain ⟨f, fd, F, hm⟩ := T.f_ends
  exact def_of false F sc_ends hm (F.binds fun _ _ _ _ _ _ us hl => match us, hl with | [_, _], _ => rfl) fun cdv A outer s H E c =>
    (sxs_one (sx_ret (x_add (ex_ix (ex_ix (xv 0 (.inl rfl)) (x_sub (xv 1 (.inl rfl)) ex_int)) ex_int) (ex_ix (ex_ix (xv 0 (.inl rfl)) (x_sub (xv 1 (.inl rfl)) ex_int)) ex_int))))
theorem ok_behind_rest (T : Txt w K mg) : DefOk P w K mg base "behind_rest" 2 4 d_behind_rest := by
  obtain ⟨f, fd, F, hm⟩ := T.f_behind_rest
  exact def_of false F sc_behind_rest hm (F.binds fun _ _ _ _ _ _ us hl => match us, hl with | [_, _, _, _], _ => rfl) fun cdv A outer s H E c =>
    (sxs_cons (sx_if (t_eq c.room (xv 3 (.inl rfl)) (x_gi T.c_FREE)) (sxs_one (sx_ret (x_min2 c.calm T.b_min (ax_cons (ex_ix (xv 1 (.inl rfl)) ex_int) (ax_cons (x_add (xv 2 (.inl rfl)) (x_gi T.c_HOURS)) ax_nil))))) sxs_nil)
    (sxs_cons (sx_if (t_lt c.room (x_add (xv 2 (.inl rfl)) (ex_call (ok_begins T) (Room.mono c.room (by decide)) c.gd c.tk (ax_cons (xv 0 (.inl rfl)) (ax_cons (xv 3 (.inl rfl)) ax_nil)))) (ex_ix (xv 1 (.inl rfl)) ex_int)) (sxs_one (sx_ret ex_non)) sxs_nil)
    (sxs_one (sx_ret (x_min2 c.calm T.b_min (ax_cons (ex_ix (xv 1 (.inl rfl)) ex_int) (ax_cons (x_sub (x_gi T.c_HOURS) (ex_call (ok_ends T) (Room.mono c.room (by decide)) c.gd c.tk (ax_cons (xv 0 (.inl rfl)) (ax_cons (xv 3 (.inl rfl)) ax_nil)))) ax_nil)))))))
theorem ok_worth_of (T : Txt w K mg) : DefOk P w K mg base "worth_of" 1 2 d_worth_of := by
  obtain ⟨f, fd, F, hm⟩ := T.f_worth_of
  exact def_of false F sc_worth_of hm (F.binds fun _ _ _ _ _ _ us hl => match us, hl with | [_, _], _ => rfl) fun cdv A outer s H E c =>
    (sxs_one (sx_ret (ex_if (t_eq c.room (xv 1 (.inl rfl)) (x_gi T.c_FREE)) ex_int (x_sub (ex_ix (ex_ix (xv 0 (.inl rfl)) (x_sub (xv 1 (.inl rfl)) ex_int)) ex_int) (ex_ix (ex_ix (xv 0 (.inl rfl)) (x_sub (xv 1 (.inl rfl)) ex_int)) ex_int)))))
theorem ok_measure_of (T : Txt w K mg) : DefOk P w K mg base "measure_of" 2 3 d_measure_of := by
  obtain ⟨f, fd, F, hm⟩ := T.f_measure_of
  exact def_of false F sc_measure_of hm (F.binds fun _ _ _ _ _ _ us hl => match us, hl with | [_, _, _], _ => rfl) fun cdv A outer s H E c =>
    (sxs_cons (sx_if (tx_not (tx_tru (ex_call (ok_is_of T) (Room.mono c.room (by decide)) c.gd c.tk (ax_cons (xv 0 (.inl rfl)) (ax_cons (xv 2 (.inl rfl)) (ax_cons (ex_ix (xv 1 (.inl rfl)) ex_int) ax_nil)))))) (sxs_one (sx_ret ex_int)) sxs_nil)
    (sxs_one (sx_ret (ex_if (t_eq c.room (ex_ix (xv 1 (.inl rfl)) ex_int) (x_gs T.c_OF_DAYS)) ex_int (ex_call (ok_worth_of T) (Room.mono c.room (by decide)) c.gd c.tk (ax_cons (xv 0 (.inl rfl)) (ax_cons (xv 2 (.inl rfl)) ax_nil)))))))
theorem ok_shifted (T : Txt w K mg) : DefOk P w K mg base "shifted" 1 3 d_shifted := by
  obtain ⟨f, fd, F, hm⟩ := T.f_shifted
  exact def_of false F sc_shifted hm (F.binds fun _ _ _ _ _ _ us hl => match us, hl with | [_, _, _], _ => rfl) fun cdv A outer s H E c =>
    (sxs_cons (sx_asg (ex_tup (ax_star (xv 0 (.inl rfl)) (ax_cons (xv 1 (.inl rfl)) ax_nil))) (gx_nm sc_shifted.nd rfl (.inl rfl)))
    (sxs_one (sx_ret (ex_if (t_gt (x_len T.b_len (ax_cons (xv 3 (.inl rfl)) ax_nil)) (xv 2 (.inl rfl))) (ex_slice (xv 3 (.inl rfl)) (px_some (x_sub (x_len T.b_len (ax_cons (xv 3 (.inl rfl)) ax_nil)) (xv 2 (.inl rfl)))) px_none) (xv 3 (.inl rfl))))))
theorem ok_behind_window (T : Txt w K mg) : DefOk P w K mg base "behind_window" 3 4 d_behind_window := by
  obtain ⟨f, fd, F, hm⟩ := T.f_behind_window
  exact def_of false F sc_behind_window hm (F.binds fun _ _ _ _ _ _ us hl => match us, hl with | [_, _, _, _], _ => rfl) fun cdv A outer s H E c =>
    (sxs_cons (sx_asg (xv 1 (.inl rfl)) (gx_tp c.calm (gxs_cons (gx_nm sc_behind_window.nd rfl (.inl rfl)) (gxs_cons (gx_nm sc_behind_window.nd rfl (.inl rfl)) (gxs_cons (gx_nm sc_behind_window.nd rfl (.inl rfl)) (gxs_cons (gx_nm sc_behind_window.nd rfl (.inl rfl)) gxs_nil))))))
    (sxs_cons (sx_asg (ex_call (ok_measure_of T) (Room.mono c.room (by decide)) c.gd c.tk (ax_cons (xv 0 (.inl rfl)) (ax_cons (xv 5 (.inl rfl)) (ax_cons (xv 3 (.inl rfl)) ax_nil)))) (gx_nm sc_behind_window.nd rfl (.inl rfl)))
    (sxs_cons (sx_asg (x_add (x_sumA c.calm T.b_sum (ax_cons (xv 2 (.inl rfl)) ax_nil)) (xv 8 (.inl rfl))) (gx_nm sc_behind_window.nd rfl (.inl rfl)))
    (sxs_cons (sx_if (WXX.tx (wx_or (WXX.tx (wx_and (t_eq c.room (xv 4 (.inl rfl)) (x_gs T.c_MOST)) (wx_and1 (t_gt (xv 9 (.inl rfl)) (xv 7 (.inl rfl)))))) (wx_or1 (WXX.tx (wx_and (t_eq c.room (xv 4 (.inl rfl)) (x_gs T.c_LEAST)) (wx_and (t_eq c.room (x_len T.b_len (ax_cons (xv 2 (.inl rfl)) ax_nil)) (x_sub (xv 6 (.inl rfl)) ex_int)) (wx_and1 (t_lt c.room (xv 9 (.inl rfl)) (xv 7 (.inl rfl)))))))))) (sxs_one (sx_ret ex_non)) sxs_nil)
    (sxs_one (sx_ret (ex_call (ok_shifted T) (Room.mono c.room (by decide)) c.gd c.tk (ax_cons (xv 2 (.inl rfl)) (ax_cons (xv 8 (.inl rfl)) (ax_cons (x_sub (xv 6 (.inl rfl)) ex_int) ax_nil))))))))))
theorem ok_behind_row (T : Txt w K mg) : DefOk P w K mg base "behind_row" 2 4 d_behind_row := by
  obtain ⟨f, fd, F, hm⟩ := T.f_behind_row
  exact def_of false F sc_behind_row hm (F.binds fun _ _ _ _ _ _ us hl => match us, hl with | [_, _, _, _], _ => rfl) fun cdv A outer s H E c =>
    (sxs_cons (sx_if (tx_not (tx_tru (ex_call (ok_is_of T) (Room.mono c.room (by decide)) c.gd c.tk (ax_cons (xv 0 (.inl rfl)) (ax_cons (xv 3 (.inl rfl)) (ax_cons (ex_ix (xv 1 (.inl rfl)) ex_int) ax_nil)))))) (sxs_one (sx_ret ex_int)) sxs_nil)
    (sxs_one (sx_ret (ex_if (t_lt c.room (xv 2 (.inl rfl)) (ex_ix (xv 1 (.inl rfl)) ex_int)) (x_add (xv 2 (.inl rfl)) ex_int) ex_non))))
theorem ok_behind_free (T : Txt w K mg) : DefOk P w K mg base "behind_free" 2 4 d_behind_free := by
  obtain ⟨f, fd, F, hm⟩ := T.f_behind_free
  exact def_of false F sc_behind_free hm (F.binds fun _ _ _ _ _ _ us hl => match us, hl with | [_, _, _, _], _ => rfl) fun cdv A outer s H E c =>
    (sxs_cons (sx_asg (xv 1 (.inl rfl)) (gx_tp c.calm (gxs_cons (gx_nm sc_behind_free.nd rfl (.inl rfl)) (gxs_cons (gx_nm sc_behind_free.nd rfl (.inl rfl)) (gxs_cons (gx_nm sc_behind_free.nd rfl (.inl rfl)) (gxs_cons (gx_nm sc_behind_free.nd rfl (.inl rfl)) gxs_nil))))))
    (sxs_cons (sx_asg (xv 2 (.inl rfl)) (gx_tp c.calm (gxs_cons (gx_nm sc_behind_free.nd rfl (.inl rfl)) (gxs_cons (gx_nm sc_behind_free.nd rfl (.inl rfl)) gxs_nil))))
    (sxs_cons (sx_if (t_gt (xv 9 (.inl rfl)) ex_int) (sxs_one (sx_ret (ex_if (t_eq c.room (xv 3 (.inl rfl)) (x_gi T.c_FREE)) (ex_tup (ax_cons ex_int (ax_cons (x_sub (xv 9 (.inl rfl)) ex_int) ax_nil))) ex_non))) sxs_nil)
    (sxs_cons (sx_if (tx_tru (ex_call (ok_is_of T) (Room.mono c.room (by decide)) c.gd c.tk (ax_cons (xv 0 (.inl rfl)) (ax_cons (xv 3 (.inl rfl)) (ax_cons (xv 5 (.inl rfl)) ax_nil))))) (sxs_one (sx_ret (ex_tup (ax_cons (x_min2 c.calm T.b_min (ax_cons (xv 6 (.inl rfl)) (ax_cons (x_add (xv 8 (.inl rfl)) ex_int) ax_nil))) (ax_cons ex_int ax_nil))))) sxs_nil)
    (sxs_cons (sx_if (t_lt c.room (xv 8 (.inl rfl)) (xv 6 (.inl rfl))) (sxs_one (sx_ret (ex_tup (ax_cons ex_int (ax_cons ex_int ax_nil))))) sxs_nil)
    (sxs_one (sx_ret (ex_if (t_eq c.room (xv 3 (.inl rfl)) (x_gi T.c_FREE)) (ex_tup (ax_cons ex_int (ax_cons (x_sub (xv 7 (.inl rfl)) ex_int) ax_nil))) ex_non))))))))
theorem ok_behind_kinds (T : Txt w K mg) : DefOk P w K mg base "behind_kinds" 2 5 d_behind_kinds := by
  obtain ⟨f, fd, F, hm⟩ := T.f_behind_kinds
  exact def_of false F sc_behind_kinds hm (F.binds fun _ _ _ _ _ _ us hl => match us, hl with | [_, _, _, _, _], _ => rfl) fun cdv A outer s H E c =>
    (sxs_cons (sx_asg (xv 1 (.inl rfl)) (gx_tp c.calm (gxs_cons (gx_nm sc_behind_kinds.nd rfl (.inl rfl)) (gxs_cons (gx_nm sc_behind_kinds.nd rfl (.inl rfl)) (gxs_cons (gx_nm sc_behind_kinds.nd rfl (.inl rfl)) (gxs_cons (gx_nm sc_behind_kinds.nd rfl (.inl rfl)) gxs_nil))))))
    (sxs_cons (sx_if (t_ne c.room (ex_ix (xv 0 (.inl rfl)) (xv 3 (.inl rfl))) (xv 6 (.inl rfl))) (sxs_one (sx_ret (xv 2 (.inl rfl)))) sxs_nil)
    (sxs_cons (sx_asg (x_int T.b_int (ax_cons (x_eq c.room (xv 4 (.inl rfl)) (x_gi T.c_FREE)) ax_nil)) (gx_nm sc_behind_kinds.nd rfl (.inl rfl)))
    (sxs_cons (sx_if (WXX.tx (wx_and (t_eq c.room (x_len T.b_len (ax_cons (xv 2 (.inl rfl)) ax_nil)) (x_sub (xv 7 (.inl rfl)) ex_int)) (wx_and1 (t_lt c.room (x_add (x_sumA c.calm T.b_sum (ax_cons (xv 2 (.inl rfl)) ax_nil)) (xv 9 (.inl rfl))) (xv 8 (.inl rfl)))))) (sxs_one (sx_ret ex_non)) sxs_nil)
    (sxs_one (sx_ret (ex_call (ok_shifted T) (Room.mono c.room (by decide)) c.gd c.tk (ax_cons (xv 2 (.inl rfl)) (ax_cons (xv 9 (.inl rfl)) (ax_cons (x_sub (xv 7 (.inl rfl)) ex_int) ax_nil))))))))))
theorem ok_behind_account (T : Txt w K mg) : DefOk P w K mg base "behind_account" 2 5 d_behind_account := by
  obtain ⟨f, fd, F, hm⟩ := T.f_behind_account
  exact def_of false F sc_behind_account hm (F.binds fun _ _ _ _ _ _ us hl => match us, hl with | [_, _, _, _, _], _ => rfl) fun cdv A outer s H E c =>
    (sxs_cons (sx_asg (xv 1 (.inl rfl)) (gx_tp c.calm (gxs_cons (gx_nm sc_behind_account.nd rfl (.inl rfl)) (gxs_cons (gx_nm sc_behind_account.nd rfl (.inl rfl)) (gxs_cons (gx_nm sc_behind_account.nd rfl (.inl rfl)) (gxs_cons (gx_nm sc_behind_account.nd rfl (.inl rfl)) gxs_nil))))))
    (sxs_cons (sx_asg (x_sub (x_add (xv 2 (.inl rfl)) (ex_call (ok_worth_of T) (Room.mono c.room (by decide)) c.gd c.tk (ax_cons (xv 0 (.inl rfl)) (ax_cons (xv 4 (.inl rfl)) ax_nil)))) (ex_ix (xv 8 (.inl rfl)) (xv 3 (.inl rfl)))) (gx_nm sc_behind_account.nd rfl (.inl rfl)))
    (sxs_one (sx_ret (ex_if (t_lele (xv 6 (.inl rfl)) (xv 9 (.inl rfl)) (xv 7 (.inl rfl))) (xv 9 (.inl rfl)) ex_non)))))
theorem ok_behind_not (T : Txt w K mg) : DefOk P w K mg base "behind_not" 1 3 d_behind_not := by
  obtain ⟨f, fd, F, hm⟩ := T.f_behind_not
  exact def_of false F sc_behind_not hm (F.binds fun _ _ _ _ _ _ us hl => match us, hl with | [_, _, _], _ => rfl) fun cdv A outer s H E c =>
    (sxs_cons (sx_asg (ex_ix (xv 0 (.inl rfl)) ex_int) (gx_nm sc_behind_not.nd rfl (.inr rfl)))
    (sxs_cons (sx_setLc false c.calm sc_behind_not.nd rfl rfl (sw_true rfl rfl rfl (by rfl)) (ix_seq (ex_tup (ax_cons ex_int (ax_star (xv 1 (.inl rfl)) ax_nil)))) (blkOk_by (own := [("at", 5)]) (by rfl)) (by rfl) (fun _ _ _ _ _ => (gx_nm (by exact sc_behind_not.nd) rfl (.inl rfl))) (fun _ _ _ _ _ => (if_one (t_in (xv 2 (.inr (.inl rfl))) (ex_ix (xv 3 (.inr (.inl rfl))) (xv 5 (.inl rfl)))))) (fun _ _ _ _ _ => (x_add (xv 5 (.inl rfl)) ex_int)))
    (sxs_one (sx_ret (ex_if (t_in (x_len T.b_len (ax_cons (xv 3 (.inr (.inl rfl))) ax_nil)) (xv 4 (.inl rfl))) ex_non (x_tuple T.b_tuple (ax_cons (xv 4 (.inl rfl)) ax_nil)))))))
theorem ok_stood (T : Txt w K mg) : DefOk P w K mg base "stood" 4 6 d_stood := by
  obtain ⟨f, fd, F, hm⟩ := T.f_stood
  exact def_of false F sc_stood hm (F.binds fun _ _ _ _ _ _ us hl => match us, hl with | [_, _, _, _, _, _], _ => rfl) fun cdv A outer s H E c =>
    (sxs_cons (sx_asg (ex_ix (xv 2 (.inl rfl)) ex_int) (gx_nm sc_stood.nd rfl (.inl rfl)))
    (sxs_cons (sx_if (t_eq c.room (xv 6 (.inl rfl)) (x_gs T.c_REST)) (sxs_one (sx_ret (ex_call (ok_behind_rest T) (Room.mono c.room (by decide)) c.gd c.tk (ax_cons (xv 1 (.inl rfl)) (ax_cons (xv 2 (.inl rfl)) (ax_cons (xv 3 (.inl rfl)) (ax_cons (xv 5 (.inl rfl)) ax_nil))))))) sxs_nil)
    (sxs_cons (sx_if (t_in (xv 6 (.inl rfl)) (ex_tup (ax_cons (x_gs T.c_MOST) (ax_cons (x_gs T.c_LEAST) ax_nil)))) (sxs_one (sx_ret (ex_call (ok_behind_window T) (Room.mono c.room (by decide)) c.gd c.tk (ax_cons (xv 1 (.inl rfl)) (ax_cons (xv 2 (.inl rfl)) (ax_cons (xv 3 (.inl rfl)) (ax_cons (xv 5 (.inl rfl)) ax_nil))))))) sxs_nil)
    (sxs_cons (sx_if (t_eq c.room (xv 6 (.inl rfl)) (x_gs T.c_ROW)) (sxs_one (sx_ret (ex_call (ok_behind_row T) (Room.mono c.room (by decide)) c.gd c.tk (ax_cons (xv 1 (.inl rfl)) (ax_cons (xv 2 (.inl rfl)) (ax_cons (xv 3 (.inl rfl)) (ax_cons (xv 5 (.inl rfl)) ax_nil))))))) sxs_nil)
    (sxs_cons (sx_if (t_eq c.room (xv 6 (.inl rfl)) (x_gs T.c_BEHIND)) (sxs_one (sx_ret (ex_call (ok_behind_free T) (Room.mono c.room (by decide)) c.gd c.tk (ax_cons (xv 1 (.inl rfl)) (ax_cons (xv 2 (.inl rfl)) (ax_cons (xv 3 (.inl rfl)) (ax_cons (xv 5 (.inl rfl)) ax_nil))))))) sxs_nil)
    (sxs_cons (sx_if (t_eq c.room (xv 6 (.inl rfl)) (x_gs T.c_KINDS)) (sxs_one (sx_ret (ex_call (ok_behind_kinds T) (Room.mono c.room (by decide)) c.gd c.tk (ax_cons (xv 0 (.inl rfl)) (ax_cons (xv 2 (.inl rfl)) (ax_cons (xv 3 (.inl rfl)) (ax_cons (xv 4 (.inl rfl)) (ax_cons (xv 5 (.inl rfl)) ax_nil)))))))) sxs_nil)
    (sxs_cons (sx_if (t_eq c.room (xv 6 (.inl rfl)) (x_gs T.c_ACCOUNT)) (sxs_one (sx_ret (ex_call (ok_behind_account T) (Room.mono c.room (by decide)) c.gd c.tk (ax_cons (xv 1 (.inl rfl)) (ax_cons (xv 2 (.inl rfl)) (ax_cons (xv 3 (.inl rfl)) (ax_cons (xv 4 (.inl rfl)) (ax_cons (xv 5 (.inl rfl)) ax_nil)))))))) sxs_nil)
    (sxs_one (sx_ret (ex_call (ok_behind_not T) (Room.mono c.room (by decide)) c.gd c.tk (ax_cons (xv 2 (.inl rfl)) (ax_cons (xv 3 (.inl rfl)) (ax_cons (xv 5 (.inl rfl)) ax_nil)))))))))))))
theorem ok_parts_behind (T : Txt w K mg) : DefOk P w K mg base "parts_behind" 5 3 d_parts_behind := by
  obtain ⟨f, fd, F, hm⟩ := T.f_parts_behind
  exact def_of false F sc_parts_behind hm (F.binds fun _ _ _ _ _ _ us hl => match us, hl with | [_, _, _], _ => rfl) fun cdv A outer s H E c =>
    (sxs_cons (sx_asg (xv 0 (.inl rfl)) (gx_tp c.calm (gxs_cons (gx_nm sc_parts_behind.nd rfl (.inr rfl)) (gxs_cons (gx_nm sc_parts_behind.nd rfl (.inr rfl)) (gxs_cons (gx_nm sc_parts_behind.nd rfl (.inl rfl)) gxs_nil)))))
    (sxs_cons (sx_asg (ex_ix (xv 1 (.inl rfl)) ex_int) (gx_nm sc_parts_behind.nd rfl (.inr rfl)))
    (sxs_one (sx_ret (ex_lc false c.calm sc_parts_behind.nd (ix_zip T.b_zip (ax_cons (ex_call (ok_all_rules T) (Room.mono c.room (by decide)) c.gd c.tk (ax_cons (xv 0 (.inl rfl)) ax_nil)) (ax_cons (ex_slice (xv 1 (.inl rfl)) (px_some ex_int) px_none) ax_nil))) (blkOk_by (own := [("rule", 7), ("part", 8)]) (by rfl)) (by rfl) (fun _ _ _ _ _ => (gx_tp (by exact c.calm) (gxs_cons (gx_nm (by exact sc_parts_behind.nd) rfl (.inl rfl)) (gxs_cons (gx_nm (by exact sc_parts_behind.nd) rfl (.inl rfl)) gxs_nil)))) (fun _ _ _ _ _ => if_nil) (fun _ _ _ _ _ => (ex_call (ok_stood T) (Room.mono c.room (by decide)) c.gd takes0 (ax_cons (xv 3 (.inr (.inl rfl))) (ax_cons (xv 4 (.inr (.inl rfl))) (ax_cons (xv 7 (.inl rfl)) (ax_cons (xv 8 (.inl rfl)) (ax_cons (xv 6 (.inr (.inl rfl))) (ax_cons (xv 2 (.inr (.inl rfl))) ax_nil)))))))))))))
theorem ok_behind (T : Txt w K mg) : DefOk P w K mg base "behind" 6 3 d_behind := by
  obtain ⟨f, fd, F, hm⟩ := T.f_behind
  exact def_of false F sc_behind hm (F.binds fun _ _ _ _ _ _ us hl => match us, hl with | [_, _, _], _ => rfl) fun cdv A outer s H E c =>
    (sxs_cons (sx_asg (ex_call (ok_parts_behind T) (Room.mono c.room (by decide)) c.gd c.tk (ax_cons (xv 0 (.inl rfl)) (ax_cons (xv 1 (.inl rfl)) (ax_cons (xv 2 (.inl rfl)) ax_nil)))) (gx_nm sc_behind.nd rfl (.inl rfl)))
    (sxs_one (sx_ret (ex_if (t_noIn c.room ex_non (xv 3 (.inl rfl))) ex_non (ex_tup (ax_cons (x_mod (x_add (ex_ix (xv 1 (.inl rfl)) ex_int) ex_int) (x_len T.b_len (ax_cons (ex_ix (xv 0 (.inl rfl)) ex_int) ax_nil))) (ax_star (xv 3 (.inl rfl)) ax_nil)))))))
theorem ok_behind_all (T : Txt w K mg) : DefOk P w K mg base "behind_all" 7 3 d_behind_all := by
  obtain ⟨f, fd, F, hm⟩ := T.f_behind_all
  exact def_of false F sc_behind_all hm (F.binds fun _ _ _ _ _ _ us hl => match us, hl with | [_, _, _], _ => rfl) fun cdv A outer s H E c =>
    (sxs_cons (sx_for c.po c.calm (ix_seq (xv 2 (.inl rfl))) (gx_nm sc_behind_all.nd rfl (.inl rfl)) (sxs_cons (sx_asg (ex_call (ok_behind T) (Room.mono c.room (by decide)) c.gd c.tk (ax_cons (xv 0 (.inl rfl)) (ax_cons (xv 1 (.inl rfl)) (ax_cons (xv 3 (.inl rfl)) ax_nil)))) (gx_nm sc_behind_all.nd rfl (.inl rfl)))
    (sxs_one (sx_if (t_is (xv 1 (.inl rfl)) ex_non) (sxs_one (sx_ret ex_non)) sxs_nil))))
    (sxs_one (sx_ret (xv 1 (.inl rfl)))))
theorem ok_standings_of (T : Txt w K mg) : DefOk P w K mg base "standings_of" 8 2 d_standings_of := by
  obtain ⟨f, fd, F, hm⟩ := T.f_standings_of
  exact def_of false F sc_standings_of hm (F.binds fun _ _ _ _ _ _ us hl => match us, hl with | [_, _], _ => rfl) fun cdv A outer s H E c =>
    (sxs_cons (sx_asg (ex_ix (xv 0 (.inr (.inl rfl))) ex_int) (gx_nm sc_standings_of.nd rfl (.inr rfl)))
    (sxs_cons (sx_asg (x_len T.b_len (ax_cons (ex_ix (xv 2 (.inr (.inl rfl))) ex_int) ax_nil)) (gx_nm sc_standings_of.nd rfl (.inr rfl)))
    (sxs_cons (sx_if (tx_not (tx_tru (x_all c.calm T.b_all (ax_cons (ex_lc false c.calm sc_standings_of.nd (ix_enum T.b_enumerate (ax_cons (xv 1 (.inr (.inl rfl))) ax_nil)) (blkOk_by (own := [("day", 5), ("row", 6)]) (by rfl)) (by rfl) (fun _ _ _ _ _ => (gx_tp (by exact c.calm) (gxs_cons (gx_nm (by exact sc_standings_of.nd) rfl (.inl rfl)) (gxs_cons (gx_nm (by exact sc_standings_of.nd) rfl (.inl rfl)) gxs_nil)))) (fun _ _ _ _ _ => if_nil) (fun _ _ _ _ _ => (ex_call (ok_met T) (Room.mono c.room (by decide)) c.gd takes0 (ax_cons (xv 0 (.inr (.inl rfl))) (ax_cons (x_mod (xv 5 (.inl rfl)) (xv 3 (.inr (.inl rfl)))) (ax_cons (xv 6 (.inl rfl)) ax_nil)))))) ax_nil)))) (sxs_one (sx_ret ex_non)) sxs_nil)
    (sxs_cons (sx_setLc false c.calm sc_standings_of.nd rfl rfl (sw_true rfl rfl rfl (by rfl)) (ix_range1 T.b_range (ax_cons (ex_ix (xv 0 (.inr (.inl rfl))) ex_int) ax_nil)) (blkOk_by (own := [("person", 7)]) (by rfl)) (by rfl) (fun _ _ _ _ _ => (gx_nm (by exact sc_standings_of.nd) rfl (.inr rfl))) (fun _ _ _ _ _ => if_nil) (fun _ _ _ _ _ => (ex_call (ok_behind_all T) (Room.mono c.room (by decide)) c.gd takes0 (ax_cons (xv 2 (.inr (.inl rfl))) (ax_cons (ex_call (ok_start T) (Room.mono c.room (by decide)) c.gd takes0 (ax_cons (xv 2 (.inr (.inl rfl))) ax_nil)) (ax_cons (ex_lc false (by exact c.calm) (by exact sc_standings_of.nd) (ix_seq (xv 1 (.inr (.inl rfl)))) (blkOk_by (own := [("row", 6)]) (by rfl)) (by rfl) (fun _ _ _ _ _ => (gx_nm (by exact sc_standings_of.nd) rfl (.inl rfl))) (fun _ _ _ _ _ => if_nil) (fun _ _ _ _ _ => (ex_ix (xv 6 (.inl rfl)) (xv 7 (.inr (.inl rfl)))))) ax_nil))))))
    (sxs_one (sx_ret (ex_if (t_noIn c.room ex_non (xv 4 (.inl rfl))) ex_non (xv 4 (.inl rfl)))))))))
theorem ok_is_right_plan (T : Txt w K mg) : DefOk P w K mg base "is_right_plan" 9 2 d_is_right_plan := by
  obtain ⟨f, fd, F, hm⟩ := T.f_is_right_plan
  exact def_of false F sc_is_right_plan hm (F.binds fun _ _ _ _ _ _ us hl => match us, hl with | [_, _], _ => rfl) fun cdv A outer s H E c =>
    (sxs_cons (sx_expr (ex_call (ok_check_plan T) (Room.mono c.room (by decide)) c.gd c.tk (ax_cons (xv 0 (.inl rfl)) (ax_cons (xv 1 (.inl rfl)) ax_nil))))
    (sxs_one (sx_ret (x_isnot (ex_call (ok_standings_of T) (Room.mono c.room (by decide)) c.gd c.tk (ax_cons (xv 0 (.inl rfl)) (ax_cons (xv 1 (.inl rfl)) ax_nil))) ex_non))))
theorem ok_right_standings (T : Txt w K mg) : DefOk P w K mg base "right_standings" 9 2 d_right_standings := by
  obtain ⟨f, fd, F, hm⟩ := T.f_right_standings
  exact def_of false F sc_right_standings hm (F.binds fun _ _ _ _ _ _ us hl => match us, hl with | [_, _], _ => rfl) fun cdv A outer s H E c =>
    (sxs_cons (sx_expr (ex_call (ok_check_plan T) (Room.mono c.room (by decide)) c.gd c.tk (ax_cons (xv 0 (.inl rfl)) (ax_cons (xv 1 (.inl rfl)) ax_nil))))
    (sxs_cons (sx_asg (ex_call (ok_standings_of T) (Room.mono c.room (by decide)) c.gd c.tk (ax_cons (xv 0 (.inl rfl)) (ax_cons (xv 1 (.inl rfl)) ax_nil))) (gx_nm sc_right_standings.nd rfl (.inl rfl)))
    (sxs_cons (sx_if (t_is (xv 2 (.inl rfl)) ex_non) (sxs_one (sx_raise c.calm c.tk T.e_NoAnswer)) sxs_nil)
    (sxs_one (sx_ret (xv 2 (.inl rfl)))))))
theorem ok_joint_of (T : Txt w K mg) : DefOk P w K mg base "joint_of" 10 2 d_joint_of := by
  obtain ⟨f, fd, F, hm⟩ := T.f_joint_of
  exact def_of false F sc_joint_of hm (F.binds fun _ _ _ _ _ _ us hl => match us, hl with | [_, _], _ => rfl) fun cdv A outer s H E c =>
    (sxs_one (sx_ret (x_tuple T.b_tuple (ax_cons (x_sorted c.room T.b_sorted (ax_cons (ex_call (ok_right_standings T) (Room.mono c.room (by decide)) c.gd c.tk (ax_cons (xv 0 (.inl rfl)) (ax_cons (xv 1 (.inl rfl)) ax_nil))) ax_nil)) ax_nil))))
theorem ok__law_kind (T : Txt w K mg) : KindOk P w K mg base "_law_kind" 1 kindGood d__law_kind := by
  obtain ⟨f, fd, F, hm⟩ := T.f__law_kind
  exact kind_of F sc__law_kind hm (F.binds fun _ _ _ _ _ _ us hl => match us, hl with | [_], _ => rfl) fun cls C cdv A outer s H E p hg hcls hz hf hr =>
    have hp : (p.1, p.2) ∈ [p] := List.mem_cons_self
    have hC := T.excC cls C hg hcls
    (sxs_cons (sx_asg (ex_lst (ax_cons ex_str (ax_cons ex_str (ax_cons ex_str (ax_cons ex_str (ax_cons ex_str (ax_cons ex_str (ax_cons ex_str (ax_cons ex_str (ax_cons ex_str (ax_cons ex_str ax_nil))))))))))) (gx_nm sc__law_kind.nd rfl (.inl rfl)))
    (sxs_cons (sx_asg (ex_lst (ax_cons (ex_isx hp hC hz hf (T.kit cls C hg hcls "NotCalendar" (by decide)) (T.gx "NotCalendar" (by decide)) T.b_isinstance rfl (.inl rfl)) (ax_cons (ex_isx hp hC hz hf (T.kit cls C hg hcls "NotDuties" (by decide)) (T.gx "NotDuties" (by decide)) T.b_isinstance rfl (.inl rfl)) (ax_cons (ex_isx hp hC hz hf (T.kit cls C hg hcls "NotRule" (by decide)) (T.gx "NotRule" (by decide)) T.b_isinstance rfl (.inl rfl)) (ax_cons (ex_isx hp hC hz hf (T.kit cls C hg hcls "NotRoster" (by decide)) (T.gx "NotRoster" (by decide)) T.b_isinstance rfl (.inl rfl)) ax_nil))))) (gx_nm sc__law_kind.nd rfl (.inl rfl)))
    (sxs_cons (sx_asg (x_add (xv 2 (.inl rfl)) (ex_lst (ax_cons (ex_isx hp hC hz hf (T.kit cls C hg hcls "NotDemand" (by decide)) (T.gx "NotDemand" (by decide)) T.b_isinstance rfl (.inl rfl)) (ax_cons (ex_isx hp hC hz hf (T.kit cls C hg hcls "NotProgram" (by decide)) (T.gx "NotProgram" (by decide)) T.b_isinstance rfl (.inl rfl)) (ax_cons (ex_isx hp hC hz hf (T.kit cls C hg hcls "NotPaper" (by decide)) (T.gx "NotPaper" (by decide)) T.b_isinstance rfl (.inl rfl)) (ax_cons (ex_isx hp hC hz hf (T.kit cls C hg hcls "BadNumber" (by decide)) (T.gx "BadNumber" (by decide)) T.b_isinstance rfl (.inl rfl)) ax_nil)))))) (gx_nm sc__law_kind.nd rfl (.inl rfl)))
    (sxs_cons (sx_asg (x_add (xv 2 (.inl rfl)) (ex_lst (ax_cons (ex_isx hp hC hz hf (T.kit cls C hg hcls "NoAnswer" (by decide)) (T.gx "NoAnswer" (by decide)) T.b_isinstance rfl (.inl rfl)) (ax_cons (ex_isx hp hC hz hf (T.kit cls C hg hcls "TooLarge" (by decide)) (T.gx "TooLarge" (by decide)) T.b_isinstance rfl (.inl rfl)) ax_nil)))) (gx_nm sc__law_kind.nd rfl (.inl rfl)))
    (sxs_one (sx_ret (ex_if (t_eqU (roomH_u hr) (x_count (xv 2 (.inl rfl)) (ax_cons ex_bl ax_nil)) ex_int) (x_add ex_str (ex_ix (xv 1 (.inl rfl)) (x_index (xv 2 (.inl rfl)) (ax_cons ex_bl ax_nil)))) ex_str)))))))
theorem tb_is_right_plan_joint_of_ok (T : Txt w K mg) {k : Nat} (hk : 10 ≤ k) : ∀ x n den, tb_is_right_plan_joint_of.lookup x = some (n, den) → DefOk P w K mg base x k n den := by
  intro x n den e
  have e := lookup_mem' e
  simp only [tb_is_right_plan_joint_of, List.mem_cons, List.not_mem_nil, or_false, Prod.mk.injEq] at e
  rcases e with ⟨rfl, e⟩ | ⟨rfl, e⟩
  · obtain ⟨rfl, rfl⟩ := e; exact (ok_is_right_plan T).mono (Nat.le_trans (by decide : 9 ≤ 10) hk)
  · obtain ⟨rfl, rfl⟩ := e; exact (ok_joint_of T).mono (Nat.le_trans (by decide : 10 ≤ 10) hk)
theorem ok__law_asked (T : Txt w K mg) : DefOk P w K mg base "_law_asked" 11 4 d__law_asked := by
  obtain ⟨f, fd, F, hm⟩ := T.f__law_asked
  obtain ⟨CS, hCS, hsub⟩ := T.cs
  exact def_of false F sc__law_asked hm (F.binds fun _ _ _ _ _ _ us hl => match us, hl with | [_, _, _, _], _ => rfl) fun cdv A outer s H E c =>
    (sxs_one (sx_tryKind (CS := CS) sc__law_asked.nd rfl rfl ⟨rfl, by decide, .inl hCS⟩ c.tk (Room.mono c.room (by decide)) (ok__law_kind T) kind_is hsub (fun W' pn xe tk' po' => (sxs_one (sx_ret (ex_if (t_lt c.room (xv 0 (.inl rfl)) ex_int) (ex_callV (tb_is_right_plan_joint_of_ok T (by decide)) c.room c.gd tk' (ex_ix (ex_lst (ax_cons (x_gr T.g_is_right_plan) (ax_cons (x_gr T.g_joint_of) ax_nil))) (xv 0 (.inl rfl))) (ax_cons (xv 1 (.inl rfl)) (ax_cons (xv 2 (.inl rfl)) ax_nil))) (ex_call (ok_meets T) (Room.mono c.room (by decide)) c.gd tk' (ax_cons (xv 1 (.inl rfl)) (ax_cons (xv 2 (.inl rfl)) (ax_cons (xv 3 (.inl rfl)) ax_nil))))))))))
theorem ok_law (T : Txt w K mg) {f : Addr} {fd : FuncData} (F : Fun K "law" "law" s_law f fd) (hm : mg "law" = some (.ref f)) : FnG P w K mg base (L2.CX P w) 12 f fd ["script"] (spF K mg 1 d_law) := by
  exact law_of false F sc_law fun cdv A outer s H E c =>
    (sxs_cons (sx_asg (ex_call (ok__law_draws T) (Room.mono c.room (by decide)) c.gd c.tk (ax_cons (xv 0 (.inl rfl)) ax_nil)) (gx_nm sc_law.nd rfl (.inr rfl)))
    (sxs_cons (sx_asg (ex_call (ok__law_more T) (Room.mono c.room (by decide)) c.gd c.tk (ax_cons (xv 1 (.inr (.inl rfl))) (ax_cons ex_int ax_nil))) (gx_nm sc_law.nd rfl (.inr rfl)))
    (sxs_cons (sx_asg (ex_call (ok__law_any_book T) (Room.mono c.room (by decide)) c.gd c.tk (ax_cons (xv 1 (.inr (.inl rfl))) ax_nil)) (gx_nm sc_law.nd rfl (.inr rfl)))
    (sxs_cons (sx_asg (x_len T.b_len (ax_cons (ex_ix (xv 2 (.inr (.inl rfl))) ex_int) ax_nil)) (gx_nm sc_law.nd rfl (.inr rfl)))
    (sxs_cons (sx_asg (x_add ex_int (x_mod (x_int T.b_int (ax_cons (ex_call (ok__law_next T) (Room.mono c.room (by decide)) c.gd c.tk (ax_cons (xv 1 (.inr (.inl rfl))) ax_nil)) ax_nil)) ex_int)) (gx_nm sc_law.nd rfl (.inr rfl)))
    (sxs_cons (sx_asg (ex_tup (ax_cons (xv 2 (.inr (.inl rfl))) (ax_cons (xv 4 (.inr (.inl rfl))) (ax_cons (ex_call (ok__law_demand T) (Room.mono c.room (by decide)) c.gd c.tk (ax_cons (xv 1 (.inr (.inl rfl))) (ax_cons (xv 2 (.inr (.inl rfl))) (ax_cons (xv 4 (.inr (.inl rfl))) ax_nil)))) ax_nil)))) (gx_nm sc_law.nd rfl (.inr rfl)))
    (sxs_cons (sx_if (t_isnot (ex_call (ok_is_house T) (Room.mono c.room (by decide)) c.gd c.tk (ax_cons (xv 2 (.inr (.inl rfl))) (ax_cons (xv 4 (.inr (.inl rfl))) (ax_cons (ex_ix (xv 5 (.inr (.inl rfl))) ex_int) ax_nil)))) ex_bl) (sxs_one (sx_ret ex_bl)) sxs_nil)
    (sxs_cons (sx_for c.po c.calm (ix_range1 T.b_range (ax_cons ex_int ax_nil)) (gx_nm sc_law.nd rfl (.inl rfl)) (sxs_cons (sx_asg (ex_lstM ax_nil) (gx_nm sc_law.nd rfl (.inr rfl)))
    (sxs_cons (sx_asg (x_mul (ex_lst (ax_cons (ex_call (ok__law_first T) (Room.mono c.room (by decide)) c.gd c.tk (ax_cons (xv 2 (.inr (.inl rfl))) ax_nil)) ax_nil)) (xv 4 (.inr (.inl rfl)))) (gx_nm sc_law.nd rfl (.inr rfl)))
    (sxs_cons (sx_for c.po c.calm (ix_range1 T.b_range (ax_cons (x_mod (x_int T.b_int (ax_cons (ex_call (ok__law_next T) (Room.mono c.room (by decide)) c.gd c.tk (ax_cons (xv 1 (.inr (.inl rfl))) ax_nil)) ax_nil)) ex_int) ax_nil)) (gx_nm sc_law.nd rfl (.inl rfl)) (sxs_cons (sx_asg (ex_lc false c.calm sc_law.nd (ix_seq (xv 8 (.inr (.inl rfl)))) (blkOk_by (own := [("here", 19)]) (by rfl)) (by rfl) (fun _ _ _ _ _ => (gx_nm (by exact sc_law.nd) rfl (.inl rfl))) (fun _ _ _ _ _ => if_nil) (fun _ _ _ _ _ => (ex_if (t_isnot (xv 19 (.inl rfl)) ex_non) (ex_call (ok__law_moves T) (Room.mono c.room (by decide)) c.gd takes0 (ax_cons (xv 2 (.inr (.inl rfl))) (ax_cons (xv 19 (.inl rfl)) ax_nil))) (ex_lst (ax_cons ex_int ax_nil))))) (gx_nm sc_law.nd rfl (.inr rfl)))
    (sxs_cons (sx_asg (x_tuple T.b_tuple (ax_cons (ex_lc false c.calm sc_law.nd (ix_range1 T.b_range (ax_cons (xv 4 (.inr (.inl rfl))) ax_nil)) (blkOk_by (own := [("k", 20)]) (by rfl)) (by rfl) (fun _ _ _ _ _ => (gx_nm (by exact sc_law.nd) rfl (.inl rfl))) (fun _ _ _ _ _ => if_nil) (fun _ _ _ _ _ => (ex_if (WXX.tx (wx_and (tx_tru (ex_ix (xv 10 (.inr (.inl rfl))) (xv 20 (.inl rfl)))) (wx_and1 (t_gt (x_mod (x_int T.b_int (ax_cons (ex_call (ok__law_next T) (Room.mono c.room (by decide)) c.gd takes0 (ax_cons (xv 1 (.inr (.inl rfl))) ax_nil)) ax_nil)) ex_int) ex_int)))) (ex_call (ok__law_pick T) (Room.mono c.room (by decide)) c.gd takes0 (ax_cons (xv 1 (.inr (.inl rfl))) (ax_cons (ex_ix (xv 10 (.inr (.inl rfl))) (xv 20 (.inl rfl))) ax_nil))) (x_mod (x_int T.b_int (ax_cons (ex_call (ok__law_next T) (Room.mono c.room (by decide)) c.gd takes0 (ax_cons (xv 1 (.inr (.inl rfl))) ax_nil)) ax_nil)) (x_add (xv 3 (.inr (.inl rfl))) ex_int))))) ax_nil)) (gx_nm sc_law.nd rfl (.inr rfl)))
    (sxs_cons (sx_asg (x_mod (x_int T.b_int (ax_cons (xv 9 (.inl rfl)) ax_nil)) (x_len T.b_len (ax_cons (ex_ix (xv 2 (.inr (.inl rfl))) ex_int) ax_nil))) (gx_nm sc_law.nd rfl (.inl rfl)))
    (sxs_cons (sx_if (t_ne c.room (x_repr c.room c.gd T.b_repr (ax_cons (ex_call (ok__law_asked T) (Room.mono c.room (by decide)) c.gd c.tk (ax_cons ex_int (ax_cons (xv 5 (.inr (.inl rfl))) (ax_cons (xv 12 (.inl rfl)) (ax_cons (xv 11 (.inr (.inl rfl))) ax_nil))))) ax_nil)) (x_repr c.room c.gd T.b_repr (ax_cons (ex_call (ok__law_met T) (Room.mono c.room (by decide)) c.gd c.tk (ax_cons (ex_ix (xv 2 (.inr (.inl rfl))) ex_int) (ax_cons (ex_ix (ex_ix (xv 5 (.inr (.inl rfl))) ex_int) (xv 12 (.inl rfl))) (ax_cons (xv 11 (.inr (.inl rfl))) ax_nil)))) ax_nil))) (sxs_one (sx_ret ex_bl)) sxs_nil)
    (sxs_cons (sx_asg (ex_lc false c.calm sc_law.nd (ix_range1 T.b_range (ax_cons (xv 4 (.inr (.inl rfl))) ax_nil)) (blkOk_by (own := [("k", 20)]) (by rfl)) (by rfl) (fun _ _ _ _ _ => (gx_nm (by exact sc_law.nd) rfl (.inl rfl))) (fun _ _ _ _ _ => if_nil) (fun _ _ _ _ _ => (ex_if (t_isnot (ex_ix (xv 8 (.inr (.inl rfl))) (xv 20 (.inl rfl))) ex_non) (ex_call (ok__law_step T) (Room.mono c.room (by decide)) c.gd takes0 (ax_cons (xv 2 (.inr (.inl rfl))) (ax_cons (ex_ix (xv 8 (.inr (.inl rfl))) (xv 20 (.inl rfl))) (ax_cons (ex_ix (xv 11 (.inr (.inl rfl))) (xv 20 (.inl rfl))) ax_nil)))) ex_non))) (gx_nm sc_law.nd rfl (.inr rfl)))
    (sxs_one (sx_expr (x_append (xv 7 (.inr (.inl rfl))) (ax_cons (xv 11 (.inr (.inl rfl))) ax_nil))))))))))
    (sxs_cons (sx_asg (ex_call (ok__law_standings T) (Room.mono c.room (by decide)) c.gd c.tk (ax_cons (xv 5 (.inr (.inl rfl))) (ax_cons (x_tuple T.b_tuple (ax_cons (xv 7 (.inr (.inl rfl))) ax_nil)) ax_nil))) (gx_nm sc_law.nd rfl (.inl rfl)))
    (sxs_one (sx_if (t_ne c.room (x_repr c.room c.gd T.b_repr (ax_cons (ex_lc false c.calm sc_law.nd (ix_range1 T.b_range (ax_cons ex_int ax_nil)) (blkOk_by (own := [("way", 21)]) (by rfl)) (by rfl) (fun _ _ _ _ _ => (gx_nm (by exact sc_law.nd) rfl (.inl rfl))) (fun _ _ _ _ _ => if_nil) (fun _ _ _ _ _ => (ex_call (ok__law_asked T) (Room.mono c.room (by decide)) c.gd takes0 (ax_cons (xv 21 (.inl rfl)) (ax_cons (xv 5 (.inr (.inl rfl))) (ax_cons (x_tuple T.b_tuple (ax_cons (xv 7 (.inr (.inl rfl))) ax_nil)) (ax_cons ex_non ax_nil))))))) ax_nil)) (x_repr c.room c.gd T.b_repr (ax_cons (ex_lst (ax_cons (x_isnot (xv 13 (.inl rfl)) ex_non) (ax_cons (ex_if (t_is (xv 13 (.inl rfl)) ex_non) ex_str (xv 13 (.inl rfl))) ax_nil))) ax_nil))) (sxs_one (sx_ret ex_bl)) sxs_nil)))))))
    (sxs_cons (sx_asg (ex_ix (xv 5 (.inr (.inl rfl))) ex_int) (gx_nm sc_law.nd rfl (.inr rfl)))
    (sxs_cons (sx_asg (ex_lst (ax_cons (x_add (ex_tup (ax_cons (ex_tup (ax_cons (ex_tup (ax_cons ex_str (ax_cons (x_neg ex_int) (ax_cons ex_int ax_nil)))) ax_nil)) ax_nil)) (ex_slice (xv 14 (.inr (.inl rfl))) (px_some ex_int) px_none)) (ax_cons (x_add (ex_tup (ax_cons (ex_tup (ax_cons (ex_tup (ax_cons ex_str (ax_cons ex_int (ax_cons ex_int ax_nil)))) ax_nil)) ax_nil)) (ex_slice (xv 14 (.inr (.inl rfl))) (px_some ex_int) px_none)) (ax_cons (x_add (ex_tup (ax_cons (ex_tup (ax_cons (ex_tup (ax_cons ex_str (ax_cons ex_int (ax_cons ex_int ax_nil)))) ax_nil)) ax_nil)) (ex_slice (xv 14 (.inr (.inl rfl))) (px_some ex_int) px_none)) (ax_cons (x_add (ex_tup (ax_cons (ex_tup (ax_cons (ex_tup (ax_cons ex_str (ax_cons ex_int (ax_cons ex_int ax_nil)))) ax_nil)) ax_nil)) (ex_slice (xv 14 (.inr (.inl rfl))) (px_some ex_int) px_none)) ax_nil))))) (gx_nm sc_law.nd rfl (.inl rfl)))
    (sxs_cons (sx_asg (x_add (xv 15 (.inl rfl)) (ex_lst (ax_cons (x_add (xv 14 (.inr (.inl rfl))) (ex_tup (ax_cons (ex_tup ax_nil) ax_nil))) (ax_cons (ex_slice (xv 14 (.inr (.inl rfl))) (px_some ex_int) px_none) (ax_cons (x_add (ex_tup (ax_cons (x_mul (ex_tup (ax_cons (ex_tup (ax_cons ex_str (ax_cons ex_int (ax_cons ex_int ax_nil)))) ax_nil)) ex_int) ax_nil)) (ex_slice (xv 14 (.inr (.inl rfl))) (px_some ex_int) px_none)) ax_nil))))) (gx_nm sc_law.nd rfl (.inl rfl)))
    (sxs_cons (sx_if (WXX.tx (wx_or (t_ne c.room (x_add (ex_lc false c.calm sc_law.nd (ix_seq (xv 15 (.inl rfl))) (blkOk_by (own := [("one", 22)]) (by rfl)) (by rfl) (fun _ _ _ _ _ => (gx_nm (by exact sc_law.nd) rfl (.inl rfl))) (fun _ _ _ _ _ => if_nil) (fun _ _ _ _ _ => (ex_call (ok_is_house T) (Room.mono c.room (by decide)) c.gd takes0 (ax_cons (xv 2 (.inr (.inl rfl))) (ax_cons (xv 4 (.inr (.inl rfl))) (ax_cons (xv 22 (.inl rfl)) ax_nil)))))) (ex_lc false c.calm sc_law.nd (ix_seq (ex_lst (ax_cons ex_int (ax_cons ex_int ax_nil)))) (blkOk_by (own := [("n", 23)]) (by rfl)) (by rfl) (fun _ _ _ _ _ => (gx_nm (by exact sc_law.nd) rfl (.inl rfl))) (fun _ _ _ _ _ => if_nil) (fun _ _ _ _ _ => (ex_call (ok_is_house T) (Room.mono c.room (by decide)) c.gd takes0 (ax_cons (xv 2 (.inr (.inl rfl))) (ax_cons (xv 23 (.inl rfl)) (ax_cons (xv 14 (.inr (.inl rfl))) ax_nil))))))) (x_mul (ex_lst (ax_cons ex_bl ax_nil)) ex_int)) (wx_or1 (t_isnot (ex_call (ok_is_house T) (Room.mono c.room (by decide)) c.gd c.tk (ax_cons (xv 2 (.inr (.inl rfl))) (ax_cons ex_int (ax_cons (x_mul (ex_tup (ax_cons (x_mul (ex_tup (ax_cons (ex_tup (ax_cons ex_str (ax_cons ex_int (ax_cons ex_int ax_nil)))) ax_nil)) ex_int) ax_nil)) (x_len T.b_len (ax_cons (ex_ix (xv 2 (.inr (.inl rfl))) ex_int) ax_nil))) ax_nil)))) ex_bl)))) (sxs_one (sx_ret ex_bl)) sxs_nil)
    (sxs_cons (sx_asg (ex_call (ok__law_pick T) (Room.mono c.room (by decide)) c.gd c.tk (ax_cons (xv 1 (.inr (.inl rfl))) (ax_cons (xv 15 (.inl rfl)) ax_nil))) (gx_nm sc_law.nd rfl (.inr rfl)))
    (sxs_cons (sx_asg (x_add (ex_lc false c.calm sc_law.nd (ix_range1 T.b_range (ax_cons ex_int ax_nil)) (blkOk_by (own := [("way", 21)]) (by rfl)) (by rfl) (fun _ _ _ _ _ => (gx_nm (by exact sc_law.nd) rfl (.inl rfl))) (fun _ _ _ _ _ => if_nil) (fun _ _ _ _ _ => (ex_call (ok__law_asked T) (Room.mono c.room (by decide)) c.gd takes0 (ax_cons (xv 21 (.inl rfl)) (ax_cons (ex_tup (ax_cons (ex_tup (ax_cons (ex_tup ax_nil) (ax_cons (ex_tup ax_nil) (ax_cons (ex_tup ax_nil) ax_nil)))) (ax_cons ex_int (ax_cons (xv 16 (.inr (.inl rfl))) ax_nil)))) (ax_cons (ex_tup (ax_cons (ex_tup (ax_cons ex_int ax_nil)) ax_nil)) (ax_cons ex_non ax_nil))))))) (ex_lc false c.calm sc_law.nd (ix_range1 T.b_range (ax_cons ex_int ax_nil)) (blkOk_by (own := [("way", 21)]) (by rfl)) (by rfl) (fun _ _ _ _ _ => (gx_nm (by exact sc_law.nd) rfl (.inl rfl))) (fun _ _ _ _ _ => if_nil) (fun _ _ _ _ _ => (ex_call (ok__law_asked T) (Room.mono c.room (by decide)) c.gd takes0 (ax_cons (xv 21 (.inl rfl)) (ax_cons (ex_tup (ax_cons (xv 2 (.inr (.inl rfl))) (ax_cons ex_int (ax_cons (xv 16 (.inr (.inl rfl))) ax_nil)))) (ax_cons (ex_tup (ax_cons (ex_tup (ax_cons ex_int ax_nil)) ax_nil)) (ax_cons ex_non ax_nil)))))))) (gx_nm sc_law.nd rfl (.inl rfl)))
    (sxs_cons (sx_asg (x_add (xv 17 (.inl rfl)) (ex_lc false c.calm sc_law.nd (ix_range1 T.b_range (ax_cons ex_int ax_nil)) (blkOk_by (own := [("way", 21)]) (by rfl)) (by rfl) (fun _ _ _ _ _ => (gx_nm (by exact sc_law.nd) rfl (.inl rfl))) (fun _ _ _ _ _ => if_nil) (fun _ _ _ _ _ => (ex_call (ok__law_asked T) (Room.mono c.room (by decide)) c.gd takes0 (ax_cons (xv 21 (.inl rfl)) (ax_cons (ex_tup (ax_cons (xv 2 (.inr (.inl rfl))) (ax_cons (xv 4 (.inr (.inl rfl))) (ax_cons (xv 16 (.inr (.inl rfl))) ax_nil)))) (ax_cons (ex_tup (ax_cons (ex_tup (ax_cons ex_int ax_nil)) ax_nil)) (ax_cons ex_non ax_nil)))))))) (gx_nm sc_law.nd rfl (.inl rfl)))
    (sxs_cons (sx_asg (ex_lst (ax_cons (x_mul (ex_tup (ax_cons (x_add (xv 3 (.inr (.inl rfl))) ex_int) ax_nil)) (xv 4 (.inr (.inl rfl)))) (ax_cons (x_mul (ex_tup (ax_cons ex_int ax_nil)) (x_add (xv 4 (.inr (.inl rfl))) ex_int)) (ax_cons (x_mul (ex_tup (ax_cons (x_neg ex_int) ax_nil)) (xv 4 (.inr (.inl rfl)))) ax_nil)))) (gx_nm sc_law.nd rfl (.inr rfl)))
    (sxs_cons (sx_asg (x_add (xv 17 (.inl rfl)) (ex_call (ok__law_flat T) (Room.mono c.room (by decide)) c.gd c.tk (ax_cons (ex_lc false c.calm sc_law.nd (ix_range1 T.b_range (ax_cons ex_int ax_nil)) (blkOk_by (own := [("way", 21)]) (by rfl)) (by rfl) (fun _ _ _ _ _ => (gx_nm (by exact sc_law.nd) rfl (.inr rfl))) (fun _ _ _ _ _ => if_nil) (fun _ _ _ _ _ => (ex_lc false (by exact c.calm) (by exact sc_law.nd) (ix_seq (xv 18 (.inr (.inl rfl)))) (blkOk_by (own := [("one", 22)]) (by rfl)) (by rfl) (fun _ _ _ _ _ => (gx_nm (by exact sc_law.nd) rfl (.inl rfl))) (fun _ _ _ _ _ => if_nil) (fun _ _ _ _ _ => (ex_call (ok__law_asked T) (Room.mono c.room (by decide)) c.gd takes0 (ax_cons (xv 21 (.inr (.inl rfl))) (ax_cons (xv 5 (.inr (.inl rfl))) (ax_cons (ex_tup (ax_cons (xv 22 (.inl rfl)) ax_nil)) (ax_cons ex_non ax_nil))))))))) ax_nil))) (gx_nm sc_law.nd rfl (.inl rfl)))
    (sxs_cons (sx_if (t_ne c.room (xv 17 (.inl rfl)) (x_add (x_add (x_add (x_mul (ex_lst (ax_cons ex_str ax_nil)) ex_int) (x_mul (ex_lst (ax_cons ex_str ax_nil)) ex_int)) (x_mul (ex_lst (ax_cons ex_str ax_nil)) ex_int)) (x_mul (ex_lst (ax_cons ex_str ax_nil)) ex_int))) (sxs_one (sx_ret ex_bl)) sxs_nil)
    (sxs_one (sx_ret (x_eq c.room (ex_lst (ax_cons (ex_call (ok__law_asked T) (Room.mono c.room (by decide)) c.gd c.tk (ax_cons ex_int (ax_cons (xv 5 (.inr (.inl rfl))) (ax_cons ex_int (ax_cons (x_mul (ex_tup (ax_cons ex_int ax_nil)) (x_add (xv 4 (.inr (.inl rfl))) ex_int)) ax_nil))))) (ax_cons (ex_call (ok__law_asked T) (Room.mono c.room (by decide)) c.gd c.tk (ax_cons ex_int (ax_cons (xv 5 (.inr (.inl rfl))) (ax_cons (x_len T.b_len (ax_cons (ex_ix (xv 2 (.inr (.inl rfl))) ex_int) ax_nil)) (ax_cons (x_mul (ex_tup (ax_cons ex_int ax_nil)) (xv 4 (.inr (.inl rfl)))) ax_nil))))) (ax_cons (ex_call (ok__law_asked T) (Room.mono c.room (by decide)) c.gd c.tk (ax_cons ex_int (ax_cons (xv 5 (.inr (.inl rfl))) (ax_cons (x_neg ex_int) (ax_cons (x_mul (ex_tup (ax_cons ex_int ax_nil)) (xv 4 (.inr (.inl rfl)))) ax_nil))))) ax_nil)))) (ex_lst (ax_cons ex_str (ax_cons ex_str (ax_cons ex_str ax_nil)))))))))))))))))))))))))
end
end Lw

set_option Elab.async false
set_option linter.all false
set_option autoImplicit false
set_option maxRecDepth 100000
set_option maxHeartbeats 4000000
namespace Lw
open PySem PySem.Spec PyProof.Rows L2 Fn
theorem next_ok {n : Nat} {st : Sto} (h : Dr n st) : Draw n st (fun d : D => ∃ i, d = .int i) (d__law_next [.mu n] st) := by
  obtain ⟨ds, e⟩ := h
  have hl : n < st.length := (List.getElem?_eq_some_iff.mp e).1
  rcases List.eq_nil_or_concat ds with rfl | ⟨ds', i, rfl⟩
  · refine ⟨_, st, ?_, ⟨0, rfl⟩, .refl ⟨[], e⟩⟩
    simp [d__law_next, b__law_next, truD, lstD, e]
  · refine ⟨_, st.set n (.ml (ds'.map .int)), ?_, ⟨i, rfl⟩, ⟨⟨ds', by rw [List.getElem?_set_self hl]⟩, by simp, fun m hm => by rw [List.getElem?_set_ne (Ne.symm hm)]⟩⟩
    simp [d__law_next, b__law_next, truD, lstD, e, gPop, mlD, List.dropLast_concat]
    exact List.take_of_length_le (by simp)
theorem pick_ok {n : Nat} {st : Sto} {xs : List D} (h : Dr n st) (h0 : xs ≠ []) (hm : ∀ x ∈ xs, muD x = false) : Draw n st (fun d : D => d ∈ xs) (d__law_pick [.mu n, .lst xs] st) := by
  obtain ⟨d, s, e, ⟨i, rfl⟩, sp⟩ := next_ok h
  have hp : 0 < xs.length := List.length_pos_iff.mpr h0
  obtain ⟨x, e1, e2⟩ := atI_mem (xs := xs) (i := i % (xs.length : Int)) (Int.emod_nonneg _ (by omega)) (Int.emod_lt_of_pos _ (by omega))
  refine ⟨x, s, ?_, e2, sp⟩
  have hq : (0 : Int) < (xs.length : Int) := by omega
  simp [d__law_pick, b__law_pick, e, gMod_int hq, e1]
  rw [exitD_d (hm x e2), ← sp.len, List.take_length]
theorem take_st {n : Nat} {st s : Sto} (sp : Stp n st s) : s.take st.length = s := by rw [← sp.len, List.take_length]
structure Du where
  b : Int
  l : Int
  p : Int
  s : Str
def Du.d (u : Du) : D := .tup [.int u.b, .int u.l, .int u.p, .str u.s]
@[simp] theorem Du.mu (u : Du) : muD u.d = false := rfl
def sortsL : List Str := ["", "e", "n", "en"]
structure Du.Good (u : Du) : Prop where
  b0 : 0 ≤ u.b
  b1 : u.b < 24
  l0 : 1 ≤ u.l
  l1 : u.l ≤ 24
  p0 : 0 ≤ u.p
  p1 : u.p < u.l
  s : u.s ∈ sortsL
theorem pick_in {n : Nat} {st : Sto} {α : Type} (f : α → D) (xs : List α) (hm : ∀ x, muD (f x) = false) (h : Dr n st) (h0 : xs ≠ []) : ∃ x st', d__law_pick [.mu n, .lst (xs.map f)] st = .ok (f x) st' ∧ x ∈ xs ∧ Stp n st st' := by
  obtain ⟨d, s, e, hd, sp⟩ := pick_ok (xs := xs.map f) h (by simpa using h0) (by simpa using fun x _ => hm x)
  obtain ⟨x, hx, rfl⟩ := List.mem_map.mp hd
  exact ⟨x, s, e, hx, sp⟩
theorem duty_ok {n : Nat} {st : Sto} (h : Dr n st) : ∃ (u : Du) (st' : Sto), d__law_duty [.mu n] st = .ok u.d st' ∧ u.Good ∧ Stp n st st' := by
  obtain ⟨b, s1, e1, h1, p1⟩ := pick_in D.int [6, 14, 22, 0, 8, 23] (fun _ => rfl) h (by simp)
  obtain ⟨l, s2, e2, h2, p2⟩ := pick_in D.int [8, 8, 8, 4, 12, 24, 1] (fun _ => rfl) p1.dr (by simp)
  obtain ⟨_, s3, e3, ⟨i, rfl⟩, p3⟩ := next_ok p2.dr
  obtain ⟨z, s4, e4, h4, p4⟩ := pick_in D.str sortsL (fun _ => rfl) p3.dr (by simp [sortsL])
  have sp : Stp n st s4 := p1.trans (p2.trans (p3.trans p4))
  simp only [List.map_cons, List.map_nil, sortsL] at e1 e2 e4
  have hl : 1 ≤ l ∧ l ≤ 24 := by
    simp only [List.mem_cons, List.not_mem_nil, or_false] at h2
    omega
  have hb : 0 ≤ b ∧ b < 24 := by
    simp only [List.mem_cons, List.not_mem_nil, or_false] at h1
    omega
  have hmod : (0 : Int) < (if l < 3 then l else 3) := by split <;> omega
  refine ⟨⟨b, l, i % (if l < 3 then l else 3), z⟩, s4, ?_, ⟨hb.1, hb.2, hl.1, hl.2, Int.emod_nonneg _ (by omega), ?_, h4⟩, sp⟩
  · simp [d__law_duty, b__law_duty, sPar, e1, e2, e3, e4, gMod_int hmod, sizeLine_eq, Du.d, take_st sp]
  · have := Int.emod_lt_of_pos i hmod
    show i % (if l < 3 then l else 3) < l
    split at this <;> split <;> omega
def kindsL : List Str := ["hours", "days"]
def sorts2 : List Str := ["", "", "n", "e", "z"]
def msD (k z : Str) : D := .tup [.str k, .str z]
@[simp] theorem msD_mu (k z : Str) : muD (msD k z) = false := rfl
theorem measure_ok {n : Nat} {st : Sto} (h : Dr n st) : ∃ (k z : Str) (st' : Sto), d__law_measure [.mu n] st = .ok (msD k z) st' ∧ k ∈ kindsL ∧ z ∈ sorts2 ∧ Stp n st st' := by
  obtain ⟨k, s1, e1, h1, p1⟩ := pick_in D.str kindsL (fun _ => rfl) h (by simp [kindsL])
  obtain ⟨z, s2, e2, h2, p2⟩ := pick_in D.str sorts2 (fun _ => rfl) p1.dr (by simp [sorts2])
  have sp := p1.trans p2
  simp only [List.map_cons, List.map_nil, kindsL, sorts2] at e1 e2
  exact ⟨k, z, s2, by simp [d__law_measure, b__law_measure, e1, e2, sizeLine_eq, msD, take_st sp], h1, h2, sp⟩
theorem number_ok (i : Int) (st : Sto) : ∃ r : Int, 0 ≤ r ∧ d__law_number [.int i] st = .ok (.int r) st := by
  by_cases h : i < 0
  · exact ⟨-i, by omega, by simp [d__law_number, b__law_number, h]⟩
  · exact ⟨i, by omega, by simp [d__law_number, b__law_number, h]⟩
/-- the slots of _law_draws -/
def Dw (sd : D) (L : Nat) (ρ : Rho) (s : Sto) : Prop := ∃ (o2 o3 o4 o5 o6 : Option D) (ds : List Int), ρ = [some sd, some (.mu 0), o2, o3, o4, o5, o6] ∧ s = [.ml (ds.map .int)] ∧ ds.length ≤ L
def Dw3 (sd : D) (L : Nat) (ρ : Rho) (s : Sto) : Prop := ∃ (o2 o4 o5 o6 : Option D) (r : Int) (ds : List Int), ρ = [some sd, some (.mu 0), o2, some (.int r), o4, o5, o6] ∧ s = [.ml (ds.map .int)] ∧ ds.length ≤ L
theorem draws_ok (ns : List Int) (h : ns.length ≤ 63) : ∃ ds : List Int, ds.length ≤ 60 * 63 ∧ d__law_draws [.scr ns] [] = .ok (.mu 0) [.ml (ds.map .int)] := by
  have inner : ∀ L, L ≤ 60 * 63 → ∀ ρ s, Dw3 (.scr ns) L ρ s → ∃ ρ' s', forD (.nm 4) (sSeq (sIf (tCm gEq (eVar 3) (eC (.int 0))) sBreak sNext)
      (sSeq (sExpr (eMt gAppend (eVar 1) (aCons (eOp2 gMod (eCB gInt (aCons (eVar 3) aNil)) (eC (.int 1000))) aNil)))
      (sAsg (.nm 3) (eOp2 gDiv (eVar 3) (eC (.int 1000)))))) (rngD 0 60) ρ s = .nx ρ' s' ∧ Dw (.scr ns) (L + 60) ρ' s' := by
    intro L hL ρ s h0
    refine forD_inv (N := 60) (I := fun k ρ s => Dw3 (.scr ns) (L + k) ρ s) ?_ 0 ρ s (by simp) h0 ?_
    · intro d hd k ρ s hk ⟨o2, o4, o5, o6, r, ds, e1, e2, e3⟩
      subst e1; subst e2
      refine ⟨_, by simp; rfl, ?_⟩
      by_cases hr : r = 0
      · exact .inr ⟨[some (.scr ns), some (.mu 0), o2, some (.int r), some d, o5, o6], [.ml (ds.map .int)], by simp [hr], o2, _, _, _, _, ds, rfl, rfl, by omega⟩
      · refine .inl ⟨[some (.scr ns), some (.mu 0), o2, some (.int (r / 1000)), some d, o5, o6], [.ml ((ds ++ [r % 1000]).map .int)], ?_, o2, some d, o5, o6, r / 1000, ds ++ [r % 1000], rfl, rfl, by simp; omega⟩
        have hz : ds.length < 16777216 := by omega
        simp [hr, gMod_int, lstD, gAppend, mlD, sizeLine_eq, hz, gDiv_int, muD]
    · rintro ρ s ⟨o2, o4, o5, o6, r, ds, e1, e2, e3⟩
      exact ⟨o2, _, o4, o5, o6, ds, e1, e2, e3⟩
  have outer : ∃ ρ' s', forD (.nm 2) (sSeq (sAsg (.nm 3) (eCall (lenOk 1 d__law_number) (aCons (eVar 2) aNil)))
    (sIf (tCm gGe (eVar 3) (eC (.int 1000000000000000000))) (sFor (iRange1 (aCons (eC (.int 60)) aNil)) (.nm 4) (sSeq (sIf (tCm gEq (eVar 3) (eC (.int 0))) sBreak sNext)
    (sSeq (sExpr (eMt gAppend (eVar 1) (aCons (eOp2 gMod (eCB gInt (aCons (eVar 3) aNil)) (eC (.int 1000))) aNil)))
    (sAsg (.nm 3) (eOp2 gDiv (eVar 3) (eC (.int 1000))))))) (sSeq (sAsg (.nm 5) (eOp2 gMod (eCB gInt (aCons (eOp2 gAdd (eOp2 gMul (eVar 3) (eC (.int 48271))) (eC (.int 11))) aNil)) (eC (.int 2147483647))))
    (sSeq (sAsg (.nm 6) (eOp2 gMod (eCB gInt (aCons (eOp2 gAdd (eOp2 gMul (eVar 5) (eC (.int 69621))) (eVar 3)) aNil)) (eC (.int 2147483629))))
    (sExpr (eMt gExtend (eVar 1) (aCons (eLst (aCons (eOp2 gMod (eCB gInt (aCons (eVar 3) aNil)) (eC (.int 1000))) (aCons (eOp2 gMod (eCB gInt (aCons (eVar 5) aNil)) (eC (.int 1000))) (aCons (eOp2 gMod (eCB gInt (aCons (eVar 6) aNil)) (eC (.int 1000))) aNil)))) aNil)))))))
      (ns.map .int) [some (.scr ns), some (.mu 0), none, none, none, none, none] [.ml []] = .nx ρ' s' ∧ Dw (.scr ns) (60 * 63) ρ' s' := by
    refine forD_inv (N := ns.length) (I := fun k ρ s => Dw (.scr ns) (60 * k) ρ s) ?_ 0 _ _ (by simp) ⟨_, _, _, _, _, [], rfl, rfl, by simp⟩ ?_
    · intro d hd k ρ s hk ⟨o2, o3, o4, o5, o6, ds, e1, e2, e3⟩
      subst e1; subst e2
      obtain ⟨i, hi, rfl⟩ := List.mem_map.mp hd
      obtain ⟨r, hr0, hr⟩ := number_ok i [.ml (ds.map .int)]
      refine ⟨_, by simp; rfl, .inl ?_⟩
      by_cases hb : (1000000000000000000 : Int) ≤ r
      · obtain ⟨ρ', s', q1, q2⟩ := inner (60 * k) (by omega) [some (.scr ns), some (.mu 0), some (.int i), some (.int r), o4, o5, o6] [.ml (ds.map .int)] ⟨_, _, _, _, _, _, rfl, rfl, e3⟩
        refine ⟨ρ', s', ?_, by rw [show 60 * (k + 1) = 60 * k + 60 by omega]; exact q2⟩
        simp [hr, hb, sizeLine_eq]
        exact q1
      · have hz : ds.length + 3 ≤ 16777216 := by omega
        have b1 : big64 48271 = true := by decide
        have b2 : big64 69621 = true := by decide
        have mm := fun (a b : Int) (h : 0 < b) => gMod_int (st := [.ml (ds.map .int)]) (i := a) h
        refine ⟨[some (.scr ns), some (.mu 0), some (.int i), some (.int r), o4, some (.int ((r * 48271 + 11) % 2147483647)), some (.int (((r * 48271 + 11) % 2147483647 * 69621 + r) % 2147483629))],
          [.ml ((ds ++ [r % 1000, (r * 48271 + 11) % 2147483647 % 1000, ((r * 48271 + 11) % 2147483647 * 69621 + r) % 2147483629 % 1000]).map .int)], ?_, _, _, _, _, _, _, rfl, rfl, by simp; omega⟩
        · simp [hr, hb, gMod_int, lstD, gExtend, mlD, sizeLine_eq, hz, muD, b1, b2]
    · rintro ρ s ⟨o2, o3, o4, o5, o6, ds, e1, e2, e3⟩
      exact ⟨o2, o3, o4, o5, o6, ds, e1, e2, by omega⟩
  obtain ⟨ρ', s', q1, o2, o3, o4, o5, o6, ds, rfl, rfl, q4⟩ := outer
  refine ⟨ds.reverse, by simpa using q4, ?_⟩
  simp [d__law_draws, b__law_draws, sizeLine_eq, List.replicate]
  rw [q1]
  simp [lstD, gReverse, mlD, exitD]
theorem next_eq (ds : List Int) : ∃ (i : Int) (ds' : List Int), d__law_next [.mu 0] [.ml (ds.map .int)] = .ok (.int i) [.ml (ds'.map .int)] ∧ ds'.length ≤ ds.length := by
  rcases List.eq_nil_or_concat ds with rfl | ⟨ds', i, rfl⟩
  · exact ⟨0, [], by simp [d__law_next, b__law_next, truD, lstD], by simp⟩
  · exact ⟨i, ds', by simp [d__law_next, b__law_next, truD, lstD, gPop, mlD, List.dropLast_concat], by simp⟩
def Dm (N : Int) (s0 : List Int) (L : Nat) (ρ : Rho) (s : Sto) : Prop := ∃ (i : Int) (o : Option D) (ms : List Int), ρ = [some (.mu 0), some (.int N), some (.int i), some (.mu 1), o] ∧ s = [.ml (s0.map .int), .ml (ms.map .int)] ∧ ms.length ≤ L
theorem more_ok (ds : List Int) (N : Nat) (h : ds.length ≤ 60 * 63) (hN : N ≤ 1000) : ∃ st, d__law_more [.mu 0, .int N] [.ml (ds.map .int)] = .ok (.mu 1) st ∧ Dr 1 st := by
  obtain ⟨i1, d1, e1, l1⟩ := next_eq ds
  obtain ⟨i2, d2, e2, l2⟩ := next_eq d1
  have b1 : big64 48271 = true := by decide
  have b2 : big64 1000 = true := by decide
  have loop : ∃ ρ' s', forD (.nm 4) (sSeq (sAsg (.nm 2) (eOp2 gMod (eCB gInt (aCons (eOp2 gAdd (eOp2 gMul (eVar 2) (eC (.int 48271))) (eC (.int 12345))) aNil)) (eC (.int 2147483647))))
    (sExpr (eMt gAppend (eVar 3) (aCons (eOp2 gMod (eCB gInt (aCons (eOp2 gDiv (eVar 2) (eC (.int 7))) aNil)) (eC (.int 1000))) aNil))))
      (rngD 0 N) [some (.mu 0), some (.int N), some (.int (1000 * i1 + i2 + 1)), some (.mu 1), none] [.ml (d2.map .int), .ml []] = .nx ρ' s' ∧ Dm N d2 N ρ' s' := by
    refine forD_inv (N := N) (I := fun k ρ s => Dm N d2 k ρ s) ?_ 0 _ _ (by simp) ⟨_, _, [], rfl, rfl, by simp⟩ (fun ρ s h => h)
    intro d hd k ρ s hk ⟨i, o, ms, e1, e2, e3⟩
    subst e1; subst e2
    refine ⟨_, by simp; rfl, .inl ?_⟩
    have hz : ms.length < 16777216 := by omega
    refine ⟨[some (.mu 0), some (.int N), some (.int ((i * 48271 + 12345) % 2147483647)), some (.mu 1), some d], [.ml (d2.map .int), .ml ((ms ++ [(i * 48271 + 12345) % 2147483647 / 7 % 1000]).map .int)], ?_, _, _, _, rfl, rfl, by simp; omega⟩
    simp [gMod_int, lstD, gAppend, mlD, sizeLine_eq, hz, gDiv_int, muD, b1]
  obtain ⟨ρ', s', q1, i, o, ms, rfl, rfl, q4⟩ := loop
  have hN2 : N ≤ 16777216 ∧ (-4611686018427387904 : Int) ≤ (N : Int) := by omega
  have hz : ms.length + d2.length ≤ 16777216 := by omega
  refine ⟨[.ml (d2.map .int), .ml ((ms ++ d2).map .int)], ?_, ⟨_, rfl⟩⟩
  simp [d__law_more, b__law_more, e1, e2, b2, sizeLine_eq, List.replicate, hN2.1, hN2.2, rngD_len]
  rw [q1]
  simp [lstD, exitD, sizeLine_eq, hz]
def isLet (x : Str) : Bool := decide (x.length = 1) && inS x "abcdefghijklmnopqrstuvwxyz"
theorem letter_eq (x : Str) (st : Sto) : d_is_letter [.str x] st = .ok (.bl (isLet x)) st := by
  by_cases h : x.length = 1
  · simp [d_is_letter, b_is_letter, isLet, h]
  · have h2 : ¬ ((x.length : Int) = 1) := by omega
    simp [d_is_letter, b_is_letter, isLet, h, h2]
def asc (z : Str) : Bool := ((chS z).zip (chS (cutS z (some 1) none))).all fun p => ltS p.1 p.2
def lets (z : Str) : Bool := (chS z).all isLet
def okDu (u : Du) : Bool := decide (0 ≤ u.b ∧ u.b < 24) && (decide (1 ≤ u.l ∧ u.l ≤ 24) && (decide (0 ≤ u.p ∧ u.p < u.l) && (asc u.s && lets u.s)))
theorem duty_eq (u : Du) (st : Sto) : d_is_duty [u.d] st = .ok (.bl (okDu u)) st := by
  obtain ⟨b, l, p, z⟩ := u
  have z1 : ∀ st, eLc false (iZip2 (aCons (eVar 4) (aCons (eSl (eVar 4) (pSome (eC (.int 1))) pNone) aNil))) (.tp [.nm 6, .nm 7]) tYesF (eCmp gLt (eVar 6) (eVar 7)) [6, 7]
      [some (Du.d ⟨b, l, p, z⟩), some (.int b), some (.int l), some (.int p), some (.str z), none, none, none, none] st = .ok (.lst (((chS z).zip (chS (cutS z (some 1) none))).map fun p => .bl (ltS p.1 p.2))) st := fun st =>
    lc_map (h := fun p : Str × Str => .tup [.str p.1, .str p.2]) (by simp [chrsD_eq, zipD_map]) (fun p hp s => ⟨_, by simp [wipeR]; rfl, by simp⟩) fun p hp => rfl
  have z2 : ∀ o st, eLc false (iSeq (eVar 4)) (.nm 8) tYesF (eCall (lenOk 1 d_is_letter) (aCons (eVar 8) aNil)) [8]
      [some (Du.d ⟨b, l, p, z⟩), some (.int b), some (.int l), some (.int p), some (.str z), o, none, none, none] st = .ok (.lst ((chS z).map fun x => .bl (isLet x))) st := fun o st =>
    lc_map (h := .str) (by simp [chrsD_eq]) (fun p hp s => ⟨_, by simp [wipeR]; rfl, by simp [letter_eq]⟩) fun p hp => rfl
  have c1 : ∀ st, tChn gLe gLt (eC (.int 0)) (eVar 1) (eC (.int 24)) [some (Du.d ⟨b, l, p, z⟩), some (.int b), some (.int l), some (.int p), some (.str z), none, none, none, none] st = .ok (decide (0 ≤ b) && decide (b < 24)) st := fun st => tChn_lelt rfl rfl rfl
  have c2 : ∀ st, tChn gLe gLe (eC (.int 1)) (eVar 2) (eC (.int 24)) [some (Du.d ⟨b, l, p, z⟩), some (.int b), some (.int l), some (.int p), some (.str z), none, none, none, none] st = .ok (decide (1 ≤ l) && decide (l ≤ 24)) st := fun st => tChn_lele rfl rfl rfl
  have c3 : ∀ st, tChn gLe gLt (eC (.int 0)) (eVar 3) (eVar 2) [some (Du.d ⟨b, l, p, z⟩), some (.int b), some (.int l), some (.int p), some (.str z), none, none, none, none] st = .ok (decide (0 ≤ p) && decide (p < l)) st := fun st => tChn_lelt rfl rfl rfl
  simp only [d_is_duty, denOf_q, b_is_duty, sSeq_q, sAsg_q, List.map_cons, List.map_nil, List.length_cons, List.length_nil, List.replicate, List.cons_append, List.nil_append]
  simp only [eVar_q, List.getElem?_cons_zero, bindS_ok, Du.d, gT_tp, gTs_cons, gT_nm, gTs_nil, List.set] at *
  simp only [okDu, Bool.decide_and]
  cases h1 : (decide (0 ≤ b) && decide (b < 24)) with
  | false => simp [c1, c2, c3, h1]
  | true => cases h2 : (decide (1 ≤ l) && decide (l ≤ 24)) with
    | false => simp [c1, c2, c3, h1, h2]
    | true => cases h3 : (decide (0 ≤ p) && decide (p < l)) with
      | false => simp [c1, c2, c3, h1, h2, h3]
      | true => cases h4 : asc z with
        | false =>
          have h4' := h4
          unfold asc at h4'
          simp [c1, c2, c3, h1, h2, h3, h4, z1, z2, gAll_map, h4']
        | true =>
          have h4' := h4
          unfold asc at h4'
          simp [c1, c2, c3, h1, h2, h3, h4, z1, z2, gAll_map, h4']
          simp [lets]
def dsD (us : List Du) : D := .tup (us.map Du.d)
@[simp] theorem dsD_mu (us : List Du) : muD (dsD us) = false := rfl
def okDs (us : List Du) : Bool := decide (1 ≤ us.length) && decide (us.length ≤ 7) && us.all okDu
theorem duties_eq (us : List Du) (st : Sto) : d_is_duties [dsD us] st = .ok (.bl (okDs us)) st := by
  have z : ∀ st, eLc false (iSeq (eVar 0)) (.nm 1) tYesF (eCall (lenOk 1 d_is_duty) (aCons (eVar 1) aNil)) [1] [some (.tup (us.map Du.d)), none] st = .ok (.lst (us.map fun u => .bl (okDu u))) st := fun st =>
    lc_map (h := Du.d) (by simp) (fun p hp s => ⟨_, by simp [wipeR]; rfl, by simp [duty_eq]⟩) fun p hp => rfl
  have c : ∀ st, eChain gLe gLe (eC (.int 1)) (eCB gLen (aCons (eVar 0) aNil)) (eC (.int 7)) [some (.tup (us.map Du.d)), none] st = .ok (.bl (decide ((1 : Int) ≤ us.length) && decide ((us.length : Int) ≤ 7))) st := fun st => eChain_lele rfl (by simp) rfl
  have e1 : decide ((1 : Int) ≤ us.length) = decide (1 ≤ us.length) := by congr 1; apply propext; omega
  have e2 : decide ((us.length : Int) ≤ 7) = decide (us.length ≤ 7) := by congr 1; apply propext; omega
  rw [e1, e2] at c
  cases h : (decide (1 ≤ us.length) && decide (us.length ≤ 7)) with
  | false => simp [d_is_duties, b_is_duties, dsD, okDs, c, h]
  | true => simp [d_is_duties, b_is_duties, dsD, okDs, c, h, z, gAll_map]
theorem checkd_ok {us : List Du} (h : okDs us = true) (st : Sto) : d_check_duties [dsD us] st = .ok .non st := by
  simp [d_check_duties, b_check_duties, duties_eq, h]
theorem checkd_er {us : List Du} (h : okDs us = false) (st : Sto) : d_check_duties [dsD us] st = .er ⟨"NotDuties", none⟩ st := by
  simp [d_check_duties, b_check_duties, duties_eq, h]
def wo (us : List Du) (n : Int) : Int := if n = 0 then 0 else match us[n.toNat - 1]? with
  | some u => u.l - u.p
  | none => 0
theorem duty_at {us : List Du} {n : Int} (h1 : 1 ≤ n) (h2 : n ≤ us.length) : ∃ u, u ∈ us ∧ us[n.toNat - 1]? = some u ∧ L2.atI (us.map Du.d) (n - 1) = some u.d := by
  obtain ⟨u, a, b, c⟩ := atI_pre h1 h2
  exact ⟨u, a, by rw [← b]; congr 1; omega, by rw [atI_map, c]; rfl⟩
theorem wo_eq {us : List Du} {n : Int} (h0 : 0 ≤ n) (h2 : n ≤ us.length) (st : Sto) : d_worth_of [dsD us, .int n] st = .ok (.int (wo us n)) st := by
  by_cases h : n = 0
  · simp [d_worth_of, b_worth_of, dsD, h, wo]
  · obtain ⟨u, _, e1, e2⟩ := duty_at (us := us) (n := n) (by omega) h2
    simp [d_worth_of, b_worth_of, dsD, h, wo, e1, e2, Du.d]
theorem lwo_eq {us : List Du} {n : Int} (h0 : 0 ≤ n) (h2 : n ≤ us.length) (st : Sto) : d__law_worth [dsD us, .int n] st = .ok (.int (wo us n)) st := by
  by_cases h : n = 0
  · simp [d__law_worth, b__law_worth, dsD, h, wo]
  · obtain ⟨u, _, e1, e2⟩ := duty_at (us := us) (n := n) (by omega) h2
    have hp : 0 < n := by omega
    simp [d__law_worth, b__law_worth, dsD, h, wo, e1, e2, Du.d, hp]
def isOf (us : List Du) (n : Int) (z : Str) : Bool := if n = 0 then false else decide (z = "") || match us[n.toNat - 1]? with
  | some u => inS z u.s
  | none => false
theorem of_eq {us : List Du} {n : Int} {z : Str} (h0 : 0 ≤ n) (h2 : n ≤ us.length) (st : Sto) : d_is_of [dsD us, .int n, .str z] st = .ok (.bl (isOf us n z)) st := by
  by_cases h : n = 0
  · simp [d_is_of, b_is_of, dsD, h, isOf]
  · obtain ⟨u, _, e1, e2⟩ := duty_at (us := us) (n := n) (by omega) h2
    by_cases hz : z = ""
    · simp [d_is_of, b_is_of, dsD, h, isOf, hz]
    · simp [d_is_of, b_is_of, dsD, h, isOf, e1, e2, Du.d, hz]
theorem has_eq {us : List Du} {n : Int} {z : Str} (h0 : 0 ≤ n) (h2 : n ≤ us.length) (st : Sto) : d__law_has [dsD us, .int n, .str z] st = .ok (.bl (isOf us n z)) st := by
  by_cases h : n = 0
  · simp [d__law_has, b__law_has, dsD, h, isOf]
  · obtain ⟨u, _, e1, e2⟩ := duty_at (us := us) (n := n) (by omega) h2
    have hp : 0 < n := by omega
    by_cases hz : z = ""
    · simp [d__law_has, b__law_has, dsD, h, isOf, hz, hp]
    · simp [d__law_has, b__law_has, dsD, h, isOf, e1, e2, Du.d, hz, hp]
def isSo (z : Str) : Bool := decide (z = "") || isLet z
theorem sort_eq (z : Str) (st : Sto) : d_is_sort [.str z] st = .ok (.bl (isSo z)) st := by
  by_cases h : z = ""
  · simp [d_is_sort, b_is_sort, isSo, h]
  · simp [d_is_sort, b_is_sort, isSo, h, letter_eq]
def isMs (k z : Str) : Bool := (decide (k = "hours") || decide (k = "days")) && isSo z
theorem measure_eq (k z : Str) (st : Sto) : d_is_measure [msD k z] st = .ok (.bl (isMs k z)) st := by
  have q : ∀ st, gIn st (.str k) (.tup [.str "hours", .str "days"]) = some (decide (k = "hours") || decide (k = "days")) := fun st => by
    simp [gIn, gInS, gInQ, toV, toVs, inV, eqV, Bool.beq_eq_decide_eq, eq_comm]
  cases h : (decide (k = "hours") || decide (k = "days")) with
  | false => simp [d_is_measure, b_is_measure, msD, isMs, q, h, sizeLine_eq]
  | true => simp [d_is_measure, b_is_measure, msD, isMs, q, h, sizeLine_eq, sort_eq]
theorem kindSub_of {cls : Str} {d : D} (h : kindD cls = some d) : kindSub cls = some true := by
  have := (kind_is 0 cls d [] h).1
  simp [kindSub, this]
theorem good_ok {u : Du} (g : u.Good) : okDu u = true := by
  have hs : ∀ z ∈ sortsL, (asc z && lets z) = true := by decide +kernel
  have := hs u.s g.s
  simp only [okDu, Bool.and_eq_true, decide_eq_true_eq]
  rw [Bool.and_eq_true] at this
  exact ⟨⟨g.b0, g.b1⟩, ⟨g.l0, g.l1⟩, ⟨g.p0, g.p1⟩, this⟩
theorem goods_ok {us : List Du} (h1 : 1 ≤ us.length) (h2 : us.length ≤ 4) (g : ∀ u ∈ us, u.Good) : okDs us = true := by
  simp only [okDs, Bool.and_eq_true, decide_eq_true_eq, List.all_eq_true]
  exact ⟨⟨h1, by omega⟩, fun u hu => good_ok (g u hu)⟩
theorem ms_ok {k z : Str} (hk : k ∈ kindsL) (hz : z ∈ sorts2) : isMs k z = true := by
  have : ∀ k ∈ kindsL, ∀ z ∈ sorts2, isMs k z = true := by decide +kernel
  exact this k hk z hz
@[simp] theorem gIx_ds (us : List Du) (st : Sto) (i : Int) : gIx st (dsD us) (.int i) = L2.atI (us.map Du.d) i := rfl
@[simp] theorem gLen_ds (us : List Du) (st : Sto) : gLen st [dsD us] = some (.int us.length) := by simp [dsD]
@[simp] theorem strsD_mu (us : List Str) : muD (.tup (us.map .str)) = false := rfl
def strsD (xs : List Str) : D := .tup (xs.map .str)
def okCal (xs : List Str) : Bool := decide (1 ≤ xs.length) && decide (xs.length ≤ 14) && xs.all isLet
theorem calendar_eq (us : List Str) (st : Sto) : d_is_calendar [strsD us] st = .ok (.bl (okCal us)) st := by
  have z : ∀ st, eLc false (iSeq (eVar 0)) (.nm 1) tYesF (eCall (lenOk 1 d_is_letter) (aCons (eVar 1) aNil)) [1] [some (.tup (us.map .str)), none] st = .ok (.lst (us.map fun u => .bl (isLet u))) st := fun st =>
    lc_map (h := .str) (by simp) (fun p hp s => ⟨_, by simp [wipeR]; rfl, by simp [letter_eq]⟩) fun p hp => rfl
  have c : ∀ st, eChain gLe gLe (eC (.int 1)) (eCB gLen (aCons (eVar 0) aNil)) (eC (.int 14)) [some (.tup (us.map .str)), none] st = .ok (.bl (decide ((1 : Int) ≤ us.length) && decide ((us.length : Int) ≤ 14))) st := fun st => eChain_lele rfl (by simp) rfl
  have e1 : decide ((1 : Int) ≤ us.length) = decide (1 ≤ us.length) := by congr 1; apply propext; omega
  have e2 : decide ((us.length : Int) ≤ 14) = decide (us.length ≤ 14) := by congr 1; apply propext; omega
  rw [e1, e2] at c
  cases h : (decide (1 ≤ us.length) && decide (us.length ≤ 14)) with
  | false => simp [d_is_calendar, b_is_calendar, strsD, okCal, c, h]
  | true => simp [d_is_calendar, b_is_calendar, strsD, okCal, c, h, z, gAll_map]
def va (us : List Du) (k z : Str) (n : Int) : Int := if isOf us n z = true then (if k = "days" then 1 else wo us n) else 0
section
variable {us : List Du} {st : Sto}
theorem mof_eq {k z : Str} {n : Int} (h0 : 0 ≤ n) (h2 : n ≤ us.length) : d_measure_of [dsD us, msD k z, .int n] st = .ok (.int (va us k z n)) st := by
  cases hz : isOf us n z
  · simp [d_measure_of, b_measure_of, msD, of_eq h0 h2, va, hz]
  · by_cases hk : k = "days"
    · simp [d_measure_of, b_measure_of, msD, of_eq h0 h2, va, hz, hk]
    · simp [d_measure_of, b_measure_of, msD, of_eq h0 h2, va, hz, hk, wo_eq h0 h2]
end
section
variable {us : List Du} {st : Sto}
theorem value_eq {k z : Str} {n : Int} (h0 : 0 ≤ n) (h2 : n ≤ us.length) (hk : k ∈ kindsL) : d__law_value [dsD us, msD k z, .int n] st = .ok (.int (va us k z n)) st := by
  simp only [kindsL, List.mem_cons, List.not_mem_nil, or_false] at hk
  cases hz : isOf us n z
  · simp [d__law_value, b__law_value, msD, has_eq h0 h2, va, hz]
  · rcases hk with rfl | rfl
    · have : ¬ ("hours" : Str) = "days" := by decide
      simp [d__law_value, b__law_value, msD, has_eq h0 h2, va, hz, lwo_eq h0 h2, this]
    · have : ¬ ("days" : Str) = "hours" := by decide
      simp [d__law_value, b__law_value, msD, has_eq h0 h2, va, hz, this]
end
/-! ### rules -/
inductive Ru where
  | rest (n : Int)
  | win (m : Bool) (k z : Str) (n s : Int)
  | row (z : Str) (n : Int)
  | beh (z : Str) (n m : Int)
  | kin (x : Str) (n k : Int)
  | acc (lo hi : Int) (pl : List Int)
  | nt (ss : List (List Int))
def intsT (xs : List Int) : D := .tup (xs.map .int)
@[simp] theorem gLen_ints (xs : List Int) (st : Sto) : gLen st [intsT xs] = some (.int xs.length) := by simp [intsT]
@[simp] theorem intsT_mu (xs : List Int) : muD (intsT xs) = false := rfl
def Ru.d : Ru → D
  | .rest n => .tup [.str "rest", .int n]
  | .win true k z n s => .tup [.str "most", msD k z, .int n, .int s]
  | .win false k z n s => .tup [.str "least", msD k z, .int n, .int s]
  | .row z n => .tup [.str "row", .str z, .int n]
  | .beh z n m => .tup [.str "behind", .str z, .int n, .int m]
  | .kin x n k => .tup [.str "kinds", .str x, .int n, .int k]
  | .acc lo hi pl => .tup [.str "account", .int lo, .int hi, intsT pl]
  | .nt ss => .tup [.str "not", .tup (ss.map intsT)]
@[simp] theorem Ru.mu (r : Ru) : muD r.d = false := by
  cases r <;> first | rfl | (rename_i m _ _ _ _; cases m <;> rfl)
def inL (x : Str) (xs : List Str) : Bool := xs.any fun y => y == x
theorem toVs_str (xs : List Str) : toVs (xs.map .str) = some (xs.map .str) := by
  induction xs with
  | nil => rfl
  | cons x xs ih => simp [toVs, toV, ih]
theorem inV_str (x : Str) (xs : List Str) : inV (.str x) (xs.map .str) = inL x xs := by
  simp [inV, inL, List.any_map, Function.comp_def, eqV]
theorem gIn_strs (x : Str) (xs : List Str) (st : Sto) : gIn st (.str x) (.tup (xs.map .str)) = some (inL x xs) := by
  simp [gIn, gInS, gInQ, toVs_str, toV, inV_str]
def b2 (lo x hi : Int) : Bool := decide (lo ≤ x) && decide (x ≤ hi)
def ascI (xs : List Int) : Bool := (xs.zip xs.tail).all fun p => decide (p.1 < p.2)
def okSet (us : List Du) (xs : List Int) : Bool := !xs.isEmpty && (ascI xs && xs.all fun (n : Int) => b2 0 n us.length)
def Ru.fits (cal : List Str) (us : List Du) : Ru → Bool
  | .rest n => b2 0 n 72
  | .win _ k z n s => isMs k z && (b2 1 n 14 && b2 0 s 400)
  | .row z n => isSo z && b2 0 n 14
  | .beh z n m => isSo z && (b2 1 n 14 && b2 1 m 14)
  | .kin x n k => inL x cal && (b2 1 n 14 && b2 0 k n)
  | .acc lo hi pl => (decide (-400 ≤ lo ∧ lo ≤ 0 ∧ 0 ≤ hi ∧ hi ≤ 400) && decide (pl.length = cal.length)) && pl.all fun (e : Int) => b2 0 e 24
  | .nt ss => b2 1 ss.length 6 && ss.all (okSet us)
theorem kt1 : kt_LENGTHS.lookup ("rest" : Str) = some 2 := by rfl
theorem kt2 : kt_LENGTHS.lookup ("most" : Str) = some 4 := by rfl
theorem kt3 : kt_LENGTHS.lookup ("least" : Str) = some 4 := by rfl
theorem kt4 : kt_LENGTHS.lookup ("row" : Str) = some 3 := by rfl
theorem kt5 : kt_LENGTHS.lookup ("behind" : Str) = some 4 := by rfl
theorem kt6 : kt_LENGTHS.lookup ("kinds" : Str) = some 4 := by rfl
theorem kt7 : kt_LENGTHS.lookup ("account" : Str) = some 4 := by rfl
theorem kt8 : kt_LENGTHS.lookup ("not" : Str) = some 2 := by rfl
theorem kt9 : kt_LENGTHS.lookup ("other" : Str) = none := by rfl
theorem window_eq (m : Bool) (k z : Str) (n s : Int) (st : Sto) : d_is_window [(Ru.win m k z n s).d] st = .ok (.bl (isMs k z && (b2 1 n 14 && b2 0 s 400))) st := by
  have c1 : ∀ (o0 o1 o2 : Option D) st, eChain gLe gLe (eC (.int 1)) (eVar 3) (eC (.int 14)) [o0, o1, o2, some (.int n), some (.int s)] st = .ok (.bl (b2 1 n 14)) st := fun o0 o1 o2 st => eChain_lele rfl rfl rfl
  have c2 : ∀ (o0 o1 o2 : Option D) st, eChain gLe gLe (eC (.int 0)) (eVar 4) (eC (.int 400)) [o0, o1, o2, some (.int n), some (.int s)] st = .ok (.bl (b2 0 s 400)) st := fun o0 o1 o2 st => eChain_lele rfl rfl rfl
  cases m <;> cases h1 : isMs k z <;> cases h2 : b2 1 n 14 <;> simp [d_is_window, b_is_window, Ru.d, measure_eq, c1, c2, h1, h2, List.replicate]
theorem kinds_eq (cal : List Str) (x : Str) (n k : Int) (st : Sto) : d_is_kinds [strsD cal, (Ru.kin x n k).d] st = .ok (.bl (inL x cal && (b2 1 n 14 && b2 0 k n))) st := by
  have c1 : ∀ (o0 o1 o2 o3 : Option D) st, eChain gLe gLe (eC (.int 1)) (eVar 4) (eC (.int 14)) [o0, o1, o2, o3, some (.int n), some (.int k)] st = .ok (.bl (b2 1 n 14)) st := fun o0 o1 o2 o3 st => eChain_lele rfl rfl rfl
  have c2 : ∀ (o0 o1 o2 o3 : Option D) st, eChain gLe gLe (eC (.int 0)) (eVar 5) (eVar 4) [o0, o1, o2, o3, some (.int n), some (.int k)] st = .ok (.bl (b2 0 k n)) st := fun o0 o1 o2 o3 st => eChain_lele rfl rfl rfl
  cases h1 : inL x cal <;> cases h2 : b2 1 n 14 <;> simp [d_is_kinds, b_is_kinds, Ru.d, strsD, gIn_strs, c1, c2, h1, h2, List.replicate]
theorem account_eq (cal : List Str) (lo hi : Int) (pl : List Int) (st : Sto) : d_is_account [strsD cal, (Ru.acc lo hi pl).d] st = .ok (.bl ((Ru.acc lo hi pl).fits cal [])) st := by
  have c : ∀ (o0 o1 o2 o5 o6 : Option D) st, chnR [(gLe, eVar 3), (gLe, eC (.int 0)), (gLe, eVar 4), (gLe, eC (.int 400))] (.int (-400)) [o0, o1, o2, some (.int lo), some (.int hi), o5, o6] st = .ok (decide (-400 ≤ lo ∧ lo ≤ 0 ∧ 0 ≤ hi ∧ hi ≤ 400)) st := fun o0 o1 o2 o5 o6 st => by
    by_cases h1 : -400 ≤ lo <;> by_cases h2 : lo ≤ 0 <;> by_cases h3 : 0 ≤ hi <;> by_cases h4 : hi ≤ 400 <;> simp [chnR, h1, h2, h3, h4]
  have z : ∀ (o0 o1 o2 o3 o4 o6 : Option D) st, eLc false (iSeq (eVar 5)) (.nm 6) tYesF (eChain gLe gLe (eC (.int 0)) (eVar 6) (eC (.int 24))) [6] [o0, o1, o2, o3, o4, some (intsT pl), o6] st = .ok (.lst (pl.map fun e => .bl (b2 0 e 24))) st := fun o0 o1 o2 o3 o4 o6 st =>
    lc_map (h := .int) (by simp [intsT]) (fun p hp s => ⟨_, by simp [wipeR]; rfl, eChain_lele rfl rfl rfl⟩) fun p hp => rfl
  have hl : ((pl.length : Int) = cal.length) ↔ pl.length = cal.length := by omega
  cases h1 : decide (-400 ≤ lo ∧ lo ≤ 0 ∧ 0 ≤ hi ∧ hi ≤ 400) <;> by_cases h2 : pl.length = cal.length <;> simp [d_is_account, b_is_account, Ru.d, strsD, c, z, h1, h2, List.replicate, Ru.fits, gAll_map, hl]

theorem cut1 (xs : List D) : Fn.cutD xs (some 1) none = xs.tail := by
  cases xs with
  | nil => rfl
  | cons x xs =>
    unfold Fn.cutD
    have e1 : HT.sIx (x :: xs).length 0 (some 1) = 1 := by simp [HT.sIx]
    have e2 : HT.sIx (x :: xs).length (x :: xs).length none = (x :: xs).length := by simp [HT.sIx]
    rw [e1, e2]
    simp
def nbody : SF :=
  (sSeq (sAsg (.nm 4) (eCB gAll (aCons (eLc false (iZip2 (aCons (eVar 3) (aCons (eSl (eVar 3) (pSome (eC (.int 1))) pNone) aNil))) (.tp [.nm 5, .nm 6]) tYesF (eCmp gLt (eVar 5) (eVar 6)) [5, 6]) aNil)))
    (sIf (tOrF (tNotF (tTru (eVar 3))) (tOrF (tNotF (tTru (eVar 4))) (tNotF (tTru (eCB gAll (aCons (eLc false (iSeq (eVar 3)) (.nm 7) tYesF (eChain gLe gLe (eC (.int 0)) (eVar 7) (eCB gLen (aCons (eVar 0) aNil))) [7]) aNil)))))) (sRet (eC (.bl false))) sNext))
theorem nbody_eq (us : List Du) (ss : List (List Int)) (xs : List Int) (r : D) (o4 o5 o6 o7 : Option D) (st : Sto) : nbody [some (dsD us), some r, some (.tup (ss.map intsT)), some (intsT xs), o4, o5, o6, o7] st =
    if okSet us xs = true then .nx [some (dsD us), some r, some (.tup (ss.map intsT)), some (intsT xs), some (.bl (ascI xs)), o5, o6, o7] st else .rt (.bl false) st := by
  have z1 : ∀ st, eLc false (iZip2 (aCons (eVar 3) (aCons (eSl (eVar 3) (pSome (eC (.int 1))) pNone) aNil))) (.tp [.nm 5, .nm 6]) tYesF (eCmp gLt (eVar 5) (eVar 6)) [5, 6] [some (dsD us), some r, some (.tup (ss.map intsT)), some (intsT xs), o4, o5, o6, o7] st = .ok (.lst ((xs.zip xs.tail).map fun p => .bl (decide (p.1 < p.2)))) st := fun st =>
    lc_map (h := fun p : Int × Int => .tup [.int p.1, .int p.2]) (by simp [intsT, cut1, ← List.map_tail, zipD_map]) (fun p hp s => ⟨_, by simp [wipeR]; rfl, by simp⟩) fun p hp => rfl
  have z2 : ∀ o4 st, eLc false (iSeq (eVar 3)) (.nm 7) tYesF (eChain gLe gLe (eC (.int 0)) (eVar 7) (eCB gLen (aCons (eVar 0) aNil))) [7] [some (dsD us), some r, some (.tup (ss.map intsT)), some (intsT xs), o4, o5, o6, o7] st = .ok (.lst (xs.map fun (n : Int) => .bl (b2 0 n us.length))) st := fun o4 st =>
    lc_map (h := .int) (by simp [intsT]) (fun p hp s => ⟨_, by simp [wipeR]; rfl, eChain_lele rfl rfl (by simp)⟩) fun p hp => rfl
  have t1 : ∀ st, truD st (intsT xs) = some (!xs.isEmpty) := fun st => by cases xs <;> rfl
  have a1 : ((xs.zip xs.tail).all fun p => decide (p.1 < p.2)) = ascI xs := rfl
  unfold nbody
  cases h1 : xs.isEmpty <;> cases h2 : ascI xs <;> cases h3 : (xs.all fun (n : Int) => b2 0 n us.length) <;> simp [z1, z2, gAll_map, a1, t1, h1, h2, h3, okSet]
theorem nloop (us : List Du) (ss : List (List Int)) (r : D) : ∀ (ys : List (List Int)) (o3 o4 o5 o6 o7 : Option D) (st : Sto), (ys.all (okSet us) = true → ∃ o3' o4', forD (.nm 3) nbody (ys.map intsT) [some (dsD us), some r, some (.tup (ss.map intsT)), o3, o4, o5, o6, o7] st = .nx [some (dsD us), some r, some (.tup (ss.map intsT)), o3', o4', o5, o6, o7] st) ∧
    (ys.all (okSet us) = false → forD (.nm 3) nbody (ys.map intsT) [some (dsD us), some r, some (.tup (ss.map intsT)), o3, o4, o5, o6, o7] st = .rt (.bl false) st)
  | [], o3, o4, o5, o6, o7, st => ⟨fun _ => ⟨o3, o4, rfl⟩, fun h => (by cases h)⟩
  | y :: ys, o3, o4, o5, o6, o7, st => by
    have e := nbody_eq us ss y r o4 o5 o6 o7 st
    simp only [List.map_cons, forD, gT_nm, List.set, List.all_cons]
    cases h : okSet us y with
    | false =>
      rw [h, if_neg Bool.false_ne_true] at e
      rw [e]
      exact ⟨fun z => (by simp at z), fun _ => rfl⟩
    | true =>
      rw [h, if_pos rfl] at e
      rw [e]
      simp only [Bool.true_and]
      exact nloop us ss r ys _ _ o5 o6 o7 st
theorem not_eq (us : List Du) (ss : List (List Int)) (st : Sto) : d_is_not [dsD us, (Ru.nt ss).d] st = .ok (.bl ((Ru.nt ss).fits [] us)) st := by
  have c : ∀ (o0 o1 o3 o4 o5 o6 o7 : Option D) st, tChn gLe gLe (eC (.int 1)) (eCB gLen (aCons (eVar 2) aNil)) (eC (.int 6)) [o0, o1, some (.tup (ss.map intsT)), o3, o4, o5, o6, o7] st = .ok (b2 1 ss.length 6) st := fun o0 o1 o3 o4 o5 o6 o7 st => tChn_lele rfl (by simp) rfl
  cases h : b2 1 ss.length 6 with
  | false => simp [d_is_not, b_is_not, Ru.d, c, h, List.replicate, Ru.fits]
  | true =>
    obtain ⟨l1, l2⟩ := nloop us ss (Ru.nt ss).d ss none none none none none st
    cases h2 : ss.all (okSet us) with
    | false =>
      have e := l2 h2
      unfold nbody at e
      refine den_rt rfl rfl ?_
      simp [b_is_not, Ru.d, c, h, List.replicate, Ru.fits] at e ⊢
      rw [e]
      simp [h2]
    | true =>
      obtain ⟨o3, o4, e⟩ := l1 h2
      unfold nbody at e
      refine den_rt rfl rfl ?_
      simp [b_is_not, Ru.d, c, h, List.replicate, Ru.fits] at e ⊢
      rw [e]
      simp [h2]
theorem gIn2 (x a b : Str) (st : Sto) : gIn st (.str x) (.tup [.str a, .str b]) = some (decide (x = a) || decide (x = b)) := by
  simp [gIn, gInS, gInQ, toV, toVs, inV, eqV, Bool.beq_eq_decide_eq, eq_comm]
theorem fits_eq (cal : List Str) (us : List Du) (r : Ru) (st : Sto) : d_fits [strsD cal, dsD us, r.d] st = .ok (.bl (r.fits cal us)) st := by
  cases r with
  | rest n =>
    have c : ∀ (o0 o1 o3 : Option D) st, eChain gLe gLe (eC (.int 0)) (eOp2 gIx (eVar 2) (eC (.int 1))) (eC (.int 72)) [o0, o1, some (.tup [.str "rest", .int n]), o3] st = .ok (.bl (b2 0 n 72)) st := fun o0 o1 o3 st => eChain_lele rfl (by simp) rfl
    simp (decide := true) [d_fits, b_fits, Ru.d, List.replicate, kt1, c, Ru.fits]
  | win m k z n s =>
    have w := window_eq m k z n s
    cases m <;> simp only [Ru.d] at w <;> simp (decide := true) [d_fits, b_fits, Ru.d, List.replicate, kt2, kt3, Ru.fits, sizeLine_eq, gIn2, w]
  | row z n =>
    have c : ∀ (o0 o1 o3 : Option D) st, eChain gLe gLe (eC (.int 0)) (eOp2 gIx (eVar 2) (eC (.int 2))) (eC (.int 14)) [o0, o1, some (.tup [.str "row", .str z, .int n]), o3] st = .ok (.bl (b2 0 n 14)) st := fun o0 o1 o3 st => eChain_lele rfl (by simp) rfl
    cases h : isSo z <;> simp (decide := true) [d_fits, b_fits, Ru.d, List.replicate, kt4, c, Ru.fits, sizeLine_eq, gIn2, sort_eq, h]
  | beh z n m =>
    have c1 : ∀ (o0 o1 o3 : Option D) st, eChain gLe gLe (eC (.int 1)) (eOp2 gIx (eVar 2) (eC (.int 2))) (eC (.int 14)) [o0, o1, some (.tup [.str "behind", .str z, .int n, .int m]), o3] st = .ok (.bl (b2 1 n 14)) st := fun o0 o1 o3 st => eChain_lele rfl (by simp) rfl
    have c2 : ∀ (o0 o1 o3 : Option D) st, eChain gLe gLe (eC (.int 1)) (eOp2 gIx (eVar 2) (eC (.int 3))) (eC (.int 14)) [o0, o1, some (.tup [.str "behind", .str z, .int n, .int m]), o3] st = .ok (.bl (b2 1 m 14)) st := fun o0 o1 o3 st => eChain_lele rfl (by simp) rfl
    cases h : isSo z <;> cases h1 : b2 1 n 14 <;> simp (decide := true) [d_fits, b_fits, Ru.d, List.replicate, kt5, c1, c2, Ru.fits, sizeLine_eq, gIn2, sort_eq, h, h1]
  | kin x n k =>
    have w := kinds_eq cal x n k
    simp only [Ru.d] at w
    simp (decide := true) [d_fits, b_fits, Ru.d, List.replicate, kt6, Ru.fits, sizeLine_eq, gIn2, w]
  | acc lo hi pl =>
    have w := account_eq cal lo hi pl
    simp only [Ru.d, Ru.fits] at w
    simp (decide := true) [d_fits, b_fits, Ru.d, List.replicate, kt7, sizeLine_eq, gIn2, w, Ru.fits]
  | nt ss =>
    have w := not_eq us ss
    simp only [Ru.d, Ru.fits] at w
    simp (decide := true) [d_fits, b_fits, Ru.d, List.replicate, kt8, sizeLine_eq, gIn2, w, Ru.fits]
/-- the two rules of no form -/
def odd1 : D := .tup [.str "rest", .int 1, .int 1]
def odd2 : D := .tup [.str "other", .int 1]
theorem fits_odd1 (cal : List Str) (us : List Du) (st : Sto) : d_fits [strsD cal, dsD us, odd1] st = .ok (.bl false) st := by
  simp (decide := true) [d_fits, b_fits, odd1, List.replicate, kt1]
theorem fits_odd2 (cal : List Str) (us : List Du) (st : Sto) : d_fits [strsD cal, dsD us, odd2] st = .ok (.bl false) st := by
  simp (decide := true) [d_fits, b_fits, odd2, List.replicate, kt9]
/-- where a rule begins -/
def zeros (n : Int) : D := .tup (List.replicate n.toNat (.int 0))
def Ru.begin : Ru → D
  | .rest n => .int n
  | .win true _ _ n _ => zeros (n - 1)
  | .win false _ _ _ _ => .tup []
  | .row _ _ => .int 0
  | .beh _ _ _ => .tup [.int 0, .int 0]
  | .kin _ _ _ => .tup []
  | .acc _ _ _ => .int 0
  | .nt _ => .tup []
@[simp] theorem Ru.begin_mu (r : Ru) : muD r.begin = false := by
  cases r <;> first | rfl | (rename_i m _ _ _ _; cases m <;> rfl)
theorem zeros_mul {n : Int} (h0 : -1000 ≤ n) (h1 : n ≤ 1000) (st : Sto) : gMul st (.tup [.int 0]) (.int n) = some (zeros n) := by
  rw [gMul_tup (by omega) h1 (by simp)]
  simp [zeros, List.flatten_replicate_singleton]
/-- how long a most rule may look -/
def Ru.small : Ru → Bool
  | .win _ _ _ n _ => b2 (-900) n 900
  | _ => true
theorem start_eq {r : Ru} (h : r.small = true) (st : Sto) : d_start_of [r.d] st = .ok r.begin st := by
  cases r with
  | win m k z n s =>
    simp only [Ru.small, b2, Bool.and_eq_true, decide_eq_true_eq] at h
    have e := zeros_mul (n := n - 1) (by omega) (by omega)
    cases m <;> simp (decide := true) [d_start_of, b_start_of, Ru.d, List.replicate, Ru.begin, sizeLine_eq, gIn2, e, zeros]
  | _ => simp (decide := true) [d_start_of, b_start_of, Ru.d, List.replicate, Ru.begin, sizeLine_eq, gIn2]
theorem gIn3 (x a b c : Str) (st : Sto) : gIn st (.str x) (.lst [.str a, .str b, .str c]) = some (decide (x = a) || (decide (x = b) || decide (x = c))) := by
  simp [gIn, gInS, gInQ, toV, toVs, inV, eqV, Bool.beq_eq_decide_eq, eq_comm]
theorem begin_eq {r : Ru} (h : r.small = true) (st : Sto) : d__law_begin [r.d] st = .ok r.begin st := by
  cases r with
  | win m k z n s =>
    simp only [Ru.small, b2, Bool.and_eq_true, decide_eq_true_eq] at h
    have e := zeros_mul (n := n - 1) (by omega) (by omega)
    cases m <;> simp (decide := true) [d__law_begin, b__law_begin, Ru.d, List.replicate, Ru.begin, sizeLine_eq, gIn3, e, zeros]
  | _ => simp (decide := true) [d__law_begin, b__law_begin, Ru.d, List.replicate, Ru.begin, sizeLine_eq, gIn3]
inductive Xr where
  | ru (r : Ru) | o1 | o2
def Xr.d : Xr → D
  | .ru r => r.d
  | .o1 => odd1
  | .o2 => odd2
@[simp] theorem Xr.mu (x : Xr) : muD x.d = false := by cases x <;> first | exact Ru.mu _ | rfl
def Xr.fits (cal : List Str) (us : List Du) : Xr → Bool
  | .ru r => r.fits cal us
  | _ => false
theorem xfits_eq (cal : List Str) (us : List Du) (x : Xr) (st : Sto) : d_fits [strsD cal, dsD us, x.d] st = .ok (.bl (x.fits cal us)) st := by
  cases x with
  | ru r => exact fits_eq cal us r st
  | o1 => exact fits_odd1 cal us st
  | o2 => exact fits_odd2 cal us st
def xsD (xs : List Xr) : D := .tup (xs.map Xr.d)
@[simp] theorem xsD_mu (xs : List Xr) : muD (xsD xs) = false := rfl
@[simp] theorem gLen_xs (xs : List Xr) (st : Sto) : gLen st [xsD xs] = some (.int xs.length) := by simp [xsD]
def okBook (cal : List Str) (us : List Du) (xs : List Xr) : Bool := okCal cal && okDs us && decide (xs.length ≤ 6) && xs.all (Xr.fits cal us)
theorem book_eq (cal : List Str) (us : List Du) (xs : List Xr) (st : Sto) : d_is_book [strsD cal, dsD us, xsD xs] st = .ok (.bl (okBook cal us xs)) st := by
  have z : ∀ (o3 : Option D) st, eLc false (iSeq (eVar 2)) (.nm 3) tYesF (eCall (lenOk 3 d_fits) (aCons (eVar 0) (aCons (eVar 1) (aCons (eVar 3) aNil)))) [3] [some (strsD cal), some (dsD us), some (xsD xs), o3] st = .ok (.lst (xs.map fun x => .bl (x.fits cal us))) st := fun o3 st =>
    lc_map (h := Xr.d) (by simp [xsD]) (fun p hp s => ⟨_, by simp [wipeR]; rfl, by simp [xfits_eq]⟩) fun p hp => rfl
  have a : (xs.all fun x => x.fits cal us) = xs.all (Xr.fits cal us) := rfl
  have hl : ((6 : Int) < xs.length) ↔ ¬ xs.length ≤ 6 := by omega
  cases h1 : okCal cal <;> cases h2 : okDs us <;> by_cases h3 : xs.length ≤ 6 <;> simp [d_is_book, b_is_book, List.replicate, calendar_eq, duties_eq, h1, h2, h3, z, gAll_map, a, okBook, hl]
def bkD (cal : List Str) (us : List Du) (xs : List Xr) : D := .tup [strsD cal, dsD us, xsD xs]
@[simp] theorem bkD_mu (cal : List Str) (us : List Du) (xs : List Xr) : muD (bkD cal us xs) = false := rfl
section
variable {cal : List Str} {us : List Du} {xs : List Xr} {st : Sto}
theorem ccal_ok (h : okCal cal = true) : d_check_calendar [strsD cal] st = .ok .non st := by simp [d_check_calendar, b_check_calendar, calendar_eq, h]
theorem ccal_er (h : okCal cal = false) : d_check_calendar [strsD cal] st = .er ⟨"NotCalendar", none⟩ st := by simp [d_check_calendar, b_check_calendar, calendar_eq, h]
end
section
variable {cal : List Str} {us : List Du} {xs : List Xr} {st : Sto}
/-- what check_book raises -/
def bookEr (cal : List Str) (us : List Du) (xs : List Xr) : Option Str :=
  if okCal cal = false then some "NotCalendar" else if okDs us = false then some "NotDuties" else if xs.all (Xr.fits cal us) = false then some "NotRule" else if xs.length ≤ 6 then none else some "BadNumber"
end
section
variable {cal : List Str} {us : List Du} {xs : List Xr} {st : Sto}
theorem cbook_eq : d_check_book [bkD cal us xs] st = match bookEr cal us xs with
    | none => .ok .non st
    | some c => .er ⟨c, none⟩ st := by
  have z : ∀ (o0 o4 : Option D) st, eLc false (iSeq (eVar 3)) (.nm 4) tYesF (eCall (lenOk 3 d_fits) (aCons (eVar 1) (aCons (eVar 2) (aCons (eVar 4) aNil)))) [4] [o0, some (strsD cal), some (dsD us), some (xsD xs), o4] st = .ok (.lst (xs.map fun x => .bl (x.fits cal us))) st := fun o0 o4 st =>
    lc_map (h := Xr.d) (by simp [xsD]) (fun p hp s => ⟨_, by simp [wipeR]; rfl, by simp [xfits_eq]⟩) fun p hp => rfl
  have a : (xs.all fun x => x.fits cal us) = xs.all (Xr.fits cal us) := rfl
  have hl : ((6 : Int) < xs.length) ↔ ¬ xs.length ≤ 6 := by omega
  cases h1 : okCal cal with
  | false => simp [d_check_book, b_check_book, bkD, List.replicate, ccal_er h1, bookEr, h1]
  | true => cases h2 : okDs us with
    | false => simp [d_check_book, b_check_book, bkD, List.replicate, ccal_ok h1, checkd_er h2, bookEr, h1, h2]
    | true => cases h3 : xs.all (Xr.fits cal us) with
      | false => simp [d_check_book, b_check_book, bkD, List.replicate, ccal_ok h1, checkd_ok h2, bookEr, h1, h2, z, gAll_map, a, h3]
      | true =>
        by_cases h4 : xs.length ≤ 6
        · simp [d_check_book, b_check_book, bkD, List.replicate, ccal_ok h1, checkd_ok h2, bookEr, h1, h2, z, gAll_map, a, h3, h4, hl]
        · simp [d_check_book, b_check_book, bkD, List.replicate, ccal_ok h1, checkd_ok h2, bookEr, h1, h2, z, gAll_map, a, h3, h4, hl]
end
section
variable {cal : List Str} {us : List Du} {xs : List Xr} {st : Sto}
/-- what is_rule raises -/
def ruleEr (cal : List Str) (us : List Du) : Option Str := if okCal cal = false then some "NotCalendar" else if okDs us = false then some "NotDuties" else none
end
def rsX (rs : List Ru) : List Xr := rs.map .ru
def firstD (rs : List Ru) : D := .tup (.int 0 :: (Ru.rest 0 :: rs).map Ru.begin)
@[simp] theorem firstD_mu (rs : List Ru) : muD (firstD rs) = false := rfl
theorem xsD_rs (rs : List Ru) : xsD (rsX rs) = .tup (rs.map Ru.d) := by
  simp [xsD, rsX, Function.comp_def, Xr.d]
theorem noMu_map {α : Type} (f : α → D) (h : ∀ x, muD (f x) = false) : ∀ xs : List α, noMu (xs.map f) = true
  | [] => rfl
  | x :: xs => by simp [h x, noMu_map f h xs]
section
variable {cal : List Str} {us : List Du} {rs : List Ru} {st : Sto}
theorem start_all (hs : ∀ r ∈ rs, r.small = true) (hl : rs.length ≤ 1000) : d_start [bkD cal us (rsX rs)] st = .ok (firstD rs) st := by
  have ar : ∀ st, d_all_rules [bkD cal us (rsX rs)] st = .ok (.tup ((Ru.rest 0 :: rs).map Ru.d)) st := fun st => by
    have : rs.length + 1 ≤ 16777216 := by omega
    simp [d_all_rules, b_all_rules, bkD, xsD_rs, sizeLine_eq, this, noMu_map Ru.d Ru.mu]
    rfl
  have hs' : ∀ r ∈ Ru.rest 0 :: rs, r.small = true := fun r hr => by
    rcases List.mem_cons.mp hr with rfl | hr
    · rfl
    · exact hs r hr
  have z : ∀ (o1 : Option D) st, eLc false (iSeq (eCall (lenOk 1 d_all_rules) (aCons (eVar 0) aNil))) (.nm 1) tYesF (eCall (lenOk 1 d_start_of) (aCons (eVar 1) aNil)) [1] [some (bkD cal us (rsX rs)), o1] st = .ok (.lst ((Ru.rest 0 :: rs).map Ru.begin)) st := fun o1 st =>
    lc_map (h := Ru.d) (by simp [ar]) (fun p hp s => ⟨_, by simp [wipeR]; rfl, by simp [start_eq (hs' p hp)]⟩) fun p hp => Ru.begin_mu p
  have : rs.length + 1 + 1 ≤ 16777216 := by omega
  simp [d_start, b_start, z, sizeLine_eq, this, noMu_map Ru.begin Ru.begin_mu, firstD]
end
section
variable {cal : List Str} {us : List Du} {rs : List Ru} {st : Sto}
theorem lfirst_ok (hs : ∀ r ∈ rs, r.small = true) (hl : rs.length ≤ 1000) : d__law_first [bkD cal us (rsX rs)] st = .ok (firstD rs) st := by
  have ar : ∀ st, d__law_rules [bkD cal us (rsX rs)] st = .ok (.tup ((Ru.rest 0 :: rs).map Ru.d)) st := fun st => by
    have : rs.length + 1 ≤ 16777216 := by omega
    have h2 : 1 + rs.length ≤ 16777216 := by omega
    simp [d__law_rules, b__law_rules, bkD, xsD_rs, sizeLine_eq, this, h2, noMu_map Ru.d Ru.mu]
    rfl
  have hs' : ∀ r ∈ Ru.rest 0 :: rs, r.small = true := fun r hr => by
    rcases List.mem_cons.mp hr with rfl | hr
    · rfl
    · exact hs r hr
  have z : ∀ (o1 : Option D) st, eLc false (iSeq (eCall (lenOk 1 d__law_rules) (aCons (eVar 0) aNil))) (.nm 1) tYesF (eCall (lenOk 1 d__law_begin) (aCons (eVar 1) aNil)) [1] [some (bkD cal us (rsX rs)), o1] st = .ok (.lst ((Ru.rest 0 :: rs).map Ru.begin)) st := fun o1 st =>
    lc_map (h := Ru.d) (by simp [ar]) (fun p hp s => ⟨_, by simp [wipeR]; rfl, by simp [begin_eq (hs' p hp)]⟩) fun p hp => Ru.begin_mu p
  have : 1 + (rs.length + 1) ≤ 16777216 := by omega
  simp [d__law_first, b__law_first, z, sizeLine_eq, this, noMu_map Ru.begin Ru.begin_mu, firstD]
end
/-! ### drawn rules -/
theorem pickT_in {n : Nat} {st : Sto} {α : Type} (f : α → D) (xs : List α) (hm : ∀ x, muD (f x) = false) (h : Dr n st) (h0 : xs ≠ []) : ∃ x st', d__law_pick [.mu n, .tup (xs.map f)] st = .ok (f x) st' ∧ x ∈ xs ∧ Stp n st st' := by
  obtain ⟨d, s, e, ⟨i, rfl⟩, sp⟩ := next_ok h
  have hp : 0 < xs.length := List.length_pos_iff.mpr h0
  obtain ⟨x, e1, e2⟩ := atI_mem (xs := xs) (i := i % (xs.length : Int)) (Int.emod_nonneg _ (by omega)) (Int.emod_lt_of_pos _ (by omega))
  refine ⟨x, s, ?_, e2, sp⟩
  have hq : (0 : Int) < (xs.length : Int) := by omega
  simp [d__law_pick, b__law_pick, e, gMod_int hq, atI_map, e1]
  rw [exitD_d (hm x), ← sp.len, List.take_length]
theorem ascI_of : ∀ {xs : List Int}, xs.Pairwise (· < ·) → ascI xs = true
  | [], _ => rfl
  | [_], _ => rfl
  | x :: y :: r, h => by
    have h1 := List.rel_of_pairwise_cons h (List.mem_cons_self (a := y))
    have h2 := ascI_of (List.Pairwise.of_cons h)
    unfold ascI at h2 ⊢
    simp only [List.tail_cons, List.zip_cons_cons, List.all_cons, decide_eq_true h1, Bool.true_and] at h2 ⊢
    exact h2
def upTo (n : Nat) : List Int := (List.range n).map fun (i : Nat) => (i : Int)
theorem rng_up (n : Nat) : rngD 0 n = (upTo n).map .int := by simp [rngD, upTo]
theorem up_mem {n : Nat} {x : Int} (h : x ∈ upTo n) : 0 ≤ x ∧ x < n := by
  simp only [upTo, List.mem_map, List.mem_range] at h
  obtain ⟨i, hi, rfl⟩ := h
  omega
theorem up_pair (n : Nat) : (upTo n).Pairwise (· < ·) := by
  unfold upTo
  rw [List.pairwise_map]
  exact (List.pairwise_lt_range (n := n)).imp fun h => by omega
theorem okSet_sub {us : List Du} {ys : List Int} (h : ys.Sublist (upTo (us.length + 1))) (hn : ys ≠ []) : okSet us ys = true := by
  have h1 : ys.isEmpty = false := by cases ys with
    | nil => exact absurd rfl hn
    | cons a b => rfl
  simp only [okSet, h1, Bool.not_false, Bool.true_and, Bool.and_eq_true, List.all_eq_true, b2, decide_eq_true_eq]
  exact ⟨ascI_of ((up_pair _).sublist h), fun x hx => by have := up_mem (h.subset hx); omega⟩
theorem okSet_one {us : List Du} {x : Int} (h0 : 0 ≤ x) (h1 : x ≤ us.length) : okSet us [x] = true := by
  simp [okSet, ascI, b2, h0, h1]
def sbody : SF :=
  (sSeq (sAsg (.nm 10) (eCB gTuple (aCons (eLc false (iRange1 (aCons (eOp2 gAdd (eVar 2) (eC (.int 1))) aNil)) (.nm 11) (tCm gEq (eOp2 gMod (eCB gInt (aCons (eCall (lenOk 1 d__law_next) (aCons (eVar 0) aNil)) aNil)) (eC (.int 2))) (eC (.int 0))) (eVar 11) [11]) aNil)))
    (sExpr (eMt gAppend (eVar 9) (aCons (eIf (tTru (eVar 10)) (eVar 10) (eTup (aCons (eOp2 gMod (eCB gInt (aCons (eCall (lenOk 1 d__law_next) (aCons (eVar 0) aNil)) aNil)) (eOp2 gAdd (eVar 2) (eC (.int 1)))) aNil))) aNil))))
theorem b2_of {a x c : Int} (h1 : a ≤ x) (h2 : x ≤ c) : b2 a x c = true := by simp [b2, h1, h2]
theorem isSo_of : ∀ z ∈ (["", "", "n", "e", "z"] : List Str), isSo z = true := by decide +kernel
section
variable {cal : List Str} {us : List Du} {n : Nat} {st : Sto}
def Ns (cal : List Str) (us : List Du) (n L : Nat) (k : Nat) (ρ : Rho) (s0 s : Sto) : Prop := ∃ (ss : List (List Int)) (o3 o4 o5 o6 o7 o8 o10 o11 : Option D), ρ = [some (.mu n), some (strsD cal), some (.int us.length), o3, o4, o5, o6, o7, o8, some (.mu L), o10, o11] ∧
  s[L]? = some (.ml (ss.map intsT)) ∧ ss.length = k ∧ ss.all (okSet us) = true ∧ Dr n s ∧ s.length = L + 1 ∧ ∀ m, m ≠ n → m < L → s[m]? = s0[m]?
theorem sbody_ok (hu : us.length ≤ 100) {L k : Nat} {ρ : Rho} {s s0 : Sto} (hnL : n < L) (hk : k < 3) (h : Ns cal us n L k ρ s0 s) (d : D) : ∃ ρ1 ρ2 s2, gT s (.nm 8) d ρ = some ρ1 ∧ sbody ρ1 s = .nx ρ2 s2 ∧ Ns cal us n L (k + 1) ρ2 s0 s2 := by
  obtain ⟨ss, o3, o4, o5, o6, o7, o8, o10, o11, rfl, e1, e2, e3, dr, e5, e6⟩ := h
  have hu' : us.length + 1 ≤ 16777216 := by omega
  have ru : ((us.length : Int) + 1).toNat = us.length + 1 := by omega
  obtain ⟨ys, s1, q1, q2, q3⟩ := lc_filter (n := n) (h := D.int) (xs := upTo (us.length + 1)) (fi := iRange1 (aCons (eOp2 gAdd (eVar 2) (eC (.int 1))) aNil)) (t := .nm 11) (tt := tCm gEq (eOp2 gMod (eCB gInt (aCons (eCall (lenOk 1 d__law_next) (aCons (eVar 0) aNil)) aNil)) (eC (.int 2))) (eC (.int 0))) (fe := eVar 11) (vs := [11])
    (ρ := [some (.mu n), some (strsD cal), some (.int us.length), o3, o4, o5, o6, o7, some d, some (.mu L), o10, o11]) (st := s) (s1 := s)
    (by
      have h2 : -4611686018427387904 ≤ (us.length : Int) + 1 := by omega
      simp [sizeLine_eq, ru, hu', h2, rng_up]) (.refl dr)
    (fun x hx s2 hs2 => ⟨_, by simp [wipeR]; rfl, by
      obtain ⟨_, s', r1, ⟨i, rfl⟩, r3⟩ := next_ok hs2
      refine ⟨decide (i % 2 = 0), s', ?_, r3, fun s2 => by simp⟩
      simp [r1, gMod_int]⟩) (fun _ => rfl)
  have hL1 : s1[L]? = some (.ml (ss.map intsT)) := (q3.ne L (by omega)).trans e1
  have hl1 : s1.length = L + 1 := by rw [q3.len, e5]
  have hz : ss.length < 16777216 := by omega
  have t1 : ∀ st, truD st (D.tup (ys.map .int)) = some (!ys.isEmpty) := fun st => by cases ys <;> rfl
  cases hy : ys.isEmpty with
  | false =>
    have hy' : ys ≠ [] := fun z => by rw [z] at hy; cases hy
    refine ⟨_, [some (.mu n), some (strsD cal), some (.int us.length), o3, o4, o5, o6, o7, some d, some (.mu L), some (intsT ys), o11], s1.set L (.ml ((ss ++ [ys]).map intsT)), gT_nm, ?_, ss ++ [ys], o3, o4, o5, o6, o7, _, _, o11, rfl, ?_, ?_, ?_, ?_, ?_, ?_⟩
    · simp [sbody, q1, t1, hy, lstD, hL1, gAppend, mlD, muD, hz, sizeLine_eq, intsT]
    · rw [List.getElem?_set_self (by omega)]
    · simp [e2]
    · simp [e3, okSet_sub q2 hy']
    · obtain ⟨ds, e⟩ := q3.dr; exact ⟨ds, by rw [List.getElem?_set_ne (by omega)]; exact e⟩
    · simp [hl1]
    · intro m h1 h2; rw [List.getElem?_set_ne (by omega), q3.ne m h1, e6 m h1 h2]
  | true =>
    obtain ⟨_, s2, r1, ⟨i, rfl⟩, r3⟩ := next_ok q3.dr
    have hL2 : s2[L]? = some (.ml (ss.map intsT)) := (r3.ne L (by omega)).trans hL1
    have hl2 : s2.length = L + 1 := by rw [r3.len, hl1]
    have hp : (0 : Int) < (us.length : Int) + 1 := by omega
    refine ⟨_, [some (.mu n), some (strsD cal), some (.int us.length), o3, o4, o5, o6, o7, some d, some (.mu L), some (intsT ys), o11], s2.set L (.ml ((ss ++ [[i % ((us.length : Int) + 1)]]).map intsT)), gT_nm, ?_, ss ++ [[i % ((us.length : Int) + 1)]], o3, o4, o5, o6, o7, _, _, o11, rfl, ?_, ?_, ?_, ?_, ?_, ?_⟩
    · simp [sbody, q1, t1, hy, lstD, hL1, hL2, gAppend, mlD, muD, hz, sizeLine_eq, intsT, r1, gMod_int hp]
    · rw [List.getElem?_set_self (by omega)]
    · simp [e2]
    · have a1 := Int.emod_nonneg i (show (us.length : Int) + 1 ≠ 0 by omega)
      have a2 := Int.emod_lt_of_pos i hp
      simp [e3, okSet_one (us := us) a1 (by omega)]
    · obtain ⟨ds, e⟩ := r3.dr; exact ⟨ds, by rw [List.getElem?_set_ne (by omega)]; exact e⟩
    · simp [hl2]
    · intro m h1 h2; rw [List.getElem?_set_ne (by omega), r3.ne m h1, q3.ne m h1, e6 m h1 h2]
end
theorem inL_of {x : Str} {xs : List Str} (h : x ∈ xs) : inL x xs = true := by
  simp only [inL, List.any_eq_true, beq_iff_eq]
  exact ⟨x, h, rfl⟩
theorem modB (i : Int) {j : Int} (h : 0 < j) : 0 ≤ i % j ∧ i % j < j := ⟨Int.emod_nonneg _ (by omega), Int.emod_lt_of_pos _ h⟩
section
variable {cal : List Str} {us : List Du} {n : Nat} {st : Sto}
theorem rule_ok (h : Dr n st) (hc : cal ≠ []) (hu : us.length ≤ 100) : ∃ (r : Ru) (st' : Sto), d__law_rule [.mu n, strsD cal, .int us.length] st = .ok r.d st' ∧ r.fits cal us = true ∧ Stp n st st' := by
  have m2 : ∀ (i : Int) st, gMod st (.int i) (.int 2) = some (.int (i % 2)) := fun i st => gMod_int (by decide)
  have m3 : ∀ (i : Int) st, gMod st (.int i) (.int 3) = some (.int (i % 3)) := fun i st => gMod_int (by decide)
  have m4 : ∀ (i : Int) st, gMod st (.int i) (.int 4) = some (.int (i % 4)) := fun i st => gMod_int (by decide)
  have m8 : ∀ (i : Int) st, gMod st (.int i) (.int 8) = some (.int (i % 8)) := fun i st => gMod_int (by decide)
  obtain ⟨_, s1, e1, ⟨i, rfl⟩, p1⟩ := next_ok h
  have hb := modB i (j := 8) (by decide)
  generalize hk : i % 8 = kd at hb
  have step : ∀ r st', b__law_rule [some (.mu n), some (strsD cal), some (.int us.length), none, none, none, none, none, none, none, none, none] st = .rt (Ru.d r) st' → st'.length = st.length → d__law_rule [.mu n, strsD cal, .int us.length] st = .ok (Ru.d r) st' := fun r st' e hl => den_rt (Ru.mu r) hl e
  have cases8 : kd = 0 ∨ (kd = 1 ∨ kd = 2) ∨ kd = 3 ∨ kd = 4 ∨ kd = 5 ∨ kd = 6 ∨ kd = 7 := by omega
  rcases cases8 with rfl | h12 | rfl | rfl | rfl | rfl | rfl
  · obtain ⟨x, s2, e2, h2, p2⟩ := pick_in D.int [11, 16, 0, 24, 36] (fun _ => rfl) p1.dr (by simp)
    simp only [List.map_cons, List.map_nil] at e2
    have sp := p1.trans p2
    refine ⟨.rest x, s2, step _ _ ?_ sp.len, ?_, sp⟩
    · simp [b__law_rule, e1, m8, hk, e2, sizeLine_eq, Ru.d]
    · simp only [List.mem_cons, List.not_mem_nil, or_false] at h2
      exact b2_of (by omega) (by omega)
  · obtain ⟨k, z, s2, e2, h2, h2', p2⟩ := measure_ok p1.dr
    obtain ⟨_, s3, e3, ⟨j, rfl⟩, p3⟩ := next_ok p2.dr
    obtain ⟨_, s4, e4, ⟨l, rfl⟩, p4⟩ := next_ok p3.dr
    have sp := p1.trans (p2.trans (p3.trans p4))
    have hj := modB j (j := 3) (by decide)
    have hms := ms_ok h2 h2'
    simp only [kindsL, List.mem_cons, List.not_mem_nil, or_false] at h2
    have tp : ∃ tp : Int, (tp = 24 ∨ tp = 3) ∧ ∀ st, gInt st [D.bl (decide (k = "days"))] = some (.int (if k = "days" then 1 else 0)) ∧ L2.atI [D.int 24, D.int 3] (if k = "days" then 1 else 0) = some (.int tp) := by
      by_cases hd : k = "days"
      · exact ⟨3, .inr rfl, fun st => by simp [hd, gInt]⟩
      · exact ⟨24, .inl rfl, fun st => by simp [hd, gInt]⟩
    obtain ⟨tp, htp, tq⟩ := tp
    have big : ∀ i : Int, (big64 tp || big64 i) = true := fun i => by rcases htp with rfl | rfl <;> (rw [show big64 _ = true from by decide]; rfl)
    have hpos : 0 < tp * (3 - kd) + 3 := by rcases htp with rfl | rfl <;> rcases h12 with rfl | rfl <;> decide
    have hle : tp * (3 - kd) + 3 ≤ 51 := by rcases htp with rfl | rfl <;> rcases h12 with rfl | rfl <;> decide
    have hl := modB l hpos
    have mx : ∀ st, gMod st (.int l) (.int (tp * (3 - kd) + 3)) = some (.int (l % (tp * (3 - kd) + 3))) := fun st => gMod_int hpos
    have fit : ∀ m, (Ru.win m k z (1 + j % 3) (l % (tp * (3 - kd) + 3))).fits cal us = true := fun m => by
      simp only [Ru.fits, hms, Bool.true_and, Bool.and_eq_true]
      exact ⟨b2_of (by omega) (by omega), b2_of (by omega) (by omega)⟩
    have tq1 := fun st => (tq st).1
    have tq2 := (tq []).2
    simp only [msD] at e2
    rcases h12 with rfl | rfl
    · refine ⟨.win true k z (1 + j % 3) (l % (tp * (3 - 1) + 3)), s4, step _ _ ?_ sp.len, fit true, sp⟩
      simp [b__law_rule, e1, m8, hk, e2, e3, e4, m3, sizeLine_eq, Ru.d, sPar, msD, tq1, tq2, big, mx]
      simp at mx
      simp [mx]
    · refine ⟨.win false k z (1 + j % 3) (l % (tp * (3 - 2) + 3)), s4, step _ _ ?_ sp.len, fit false, sp⟩
      simp [b__law_rule, e1, m8, hk, e2, e3, e4, m3, sizeLine_eq, Ru.d, sPar, msD, tq1, tq2, big, mx]
      simp at mx
      simp [mx]
  · obtain ⟨z, s2, e2, h2, p2⟩ := pick_in D.str ["", "", "n", "e"] (fun _ => rfl) p1.dr (by simp)
    obtain ⟨_, s3, e3, ⟨j, rfl⟩, p3⟩ := next_ok p2.dr
    simp only [List.map_cons, List.map_nil] at e2
    have sp := p1.trans (p2.trans p3)
    have hj := modB j (j := 4) (by decide)
    refine ⟨.row z (j % 4), s3, step _ _ ?_ sp.len, ?_, sp⟩
    · simp [b__law_rule, e1, m8, hk, e2, e3, m4, sizeLine_eq, Ru.d]
    · have hz : isSo z = true := isSo_of z (by simp only [List.mem_cons, List.not_mem_nil, or_false] at h2 ⊢; rcases h2 with h | h | h | h <;> simp [h])
      simp only [Ru.fits, hz, Bool.true_and]
      exact b2_of (by omega) (by omega)
  · obtain ⟨z, s2, e2, h2, p2⟩ := pick_in D.str ["", "n", "e"] (fun _ => rfl) p1.dr (by simp)
    obtain ⟨_, s3, e3, ⟨j, rfl⟩, p3⟩ := next_ok p2.dr
    obtain ⟨_, s4, e4, ⟨l, rfl⟩, p4⟩ := next_ok p3.dr
    simp only [List.map_cons, List.map_nil] at e2
    have sp := p1.trans (p2.trans (p3.trans p4))
    have hj := modB j (j := 3) (by decide)
    have hl := modB l (j := 3) (by decide)
    refine ⟨.beh z (1 + j % 3) (1 + l % 3), s4, step _ _ ?_ sp.len, ?_, sp⟩
    · simp [b__law_rule, e1, m8, hk, e2, e3, e4, m3, sizeLine_eq, Ru.d]
    · have hz : isSo z = true := isSo_of z (by simp only [List.mem_cons, List.not_mem_nil, or_false] at h2 ⊢; rcases h2 with h | h | h <;> simp [h])
      simp only [Ru.fits, hz, Bool.true_and, Bool.and_eq_true]
      exact ⟨b2_of (by omega) (by omega), b2_of (by omega) (by omega)⟩
  · obtain ⟨_, s2, e2, ⟨j, rfl⟩, p2⟩ := next_ok p1.dr
    obtain ⟨x, s3, e3, h3, p3⟩ := pickT_in D.str cal (fun _ => rfl) p2.dr hc
    obtain ⟨_, s4, e4, ⟨l, rfl⟩, p4⟩ := next_ok p3.dr
    have sp := p1.trans (p2.trans (p3.trans p4))
    have hj := modB j (j := 3) (by decide)
    have hpos : 0 < 1 + j % 3 + 1 := by omega
    have hl := modB l hpos
    have mx : ∀ st, gMod st (.int l) (.int (1 + j % 3 + 1)) = some (.int (l % (1 + j % 3 + 1))) := fun st => gMod_int hpos
    refine ⟨.kin x (1 + j % 3) (l % (1 + j % 3 + 1)), s4, step _ _ ?_ sp.len, ?_, sp⟩
    · simp [b__law_rule, e1, m8, hk, e2, strsD, e3, e4, m3, mx, sizeLine_eq, Ru.d]
    · simp only [Ru.fits, inL_of h3, Bool.true_and, Bool.and_eq_true]
      exact ⟨b2_of (by omega) (by omega), b2_of (by omega) (by omega)⟩
  · obtain ⟨pl, s2, e2, l2, h2, p2⟩ := lc_draw (n := n) (h := D.int) (P := fun i => 0 ≤ i ∧ i ≤ 24) (fi := iSeq (eVar 1)) (t := .nm 8) (fe := eCall (lenOk 2 d__law_pick) (aCons (eVar 0) (aCons (eLst (aCons (eC (.int 0)) (aCons (eC (.int 4)) (aCons (eC (.int 8)) (aCons (eC (.int 5)) aNil))))) aNil))) (vs := [8])
      (ρ := [some (.mu n), some (strsD cal), some (.int us.length), some (.int 6), none, none, none, none, none, none, none, none]) (st := s1) (items := cal.map .str) (s1 := s1) (by simp [strsD]) (.refl p1.dr)
      (fun d hd s hs => ⟨_, by simp [wipeR]; rfl, by
        obtain ⟨y, s', q1, q2, q3⟩ := pick_in D.int [0, 4, 8, 5] (fun _ => rfl) hs (by simp)
        simp only [List.map_cons, List.map_nil] at q1
        refine ⟨y, s', by simp [q1, sizeLine_eq], ?_, q3⟩
        simp only [List.mem_cons, List.not_mem_nil, or_false] at q2
        omega⟩) (fun y _ => rfl)
    obtain ⟨a, s3, e3, h3, p3⟩ := pick_in D.int [0, 4, 8, 12] (fun _ => rfl) p2.dr (by simp)
    obtain ⟨b, s4, e4, h4, p4⟩ := pick_in D.int [0, 8, 12, 16] (fun _ => rfl) p3.dr (by simp)
    simp only [List.map_cons, List.map_nil] at e3 e4
    have sp := p1.trans (p2.trans (p3.trans p4))
    refine ⟨.acc (0 - a) b pl, s4, step _ _ ?_ sp.len, ?_, sp⟩
    · simp [b__law_rule, e1, m8, hk, e2, e3, e4, sizeLine_eq, Ru.d, intsT]
    · simp only [List.mem_cons, List.not_mem_nil, or_false] at h3 h4
      simp only [Ru.fits, Bool.and_eq_true, decide_eq_true_eq, List.all_eq_true]
      refine ⟨⟨by omega, by rw [l2]; simp⟩, fun x hx => b2_of (h2 x hx).1 (h2 x hx).2⟩
  · obtain ⟨_, s2, e2, ⟨j, rfl⟩, p2⟩ := next_ok p1.dr
    have hj := modB j (j := 3) (by decide)
    have p2' : Stp n s1 s2 := p2
    -- the list of sets stands behind the store
    have hL1 : n < s1.length := p1.dr.lt
    obtain ⟨_, s2b, e2b, ⟨jb, rfl⟩, p2b⟩ := next_ok (n := n) (st := s1 ++ [.ml []]) p1.dr.app
    have hjb := modB jb (j := 3) (by decide)
    have hnn : (1 + jb % 3).toNat ≤ 16777216 ∧ (-4611686018427387904 : Int) ≤ 1 + jb % 3 := by omega
    obtain ⟨ρ', s', q1, k', hk', ss, o3, o4, o5, o6, o7, o8, o10, o11, rfl, w1, w2, w3, w4, w5, w6⟩ := forD_inv (t := .nm 8) (body := sbody) (I := fun k ρ s => Ns cal us n s1.length k ρ s1 s) (J := fun ρ s => ∃ k, (1 ≤ k ∧ k ≤ 3) ∧ Ns cal us n s1.length k ρ s1 s) (N := (1 + jb % 3).toNat) (items := rngD 0 (1 + jb % 3).toNat)
      (fun d hd k ρ s hkN hI => by
        obtain ⟨ρ1, ρ2, s2, a1, a2, a3⟩ := sbody_ok hu hL1 (by omega) hI d
        exact ⟨ρ1, a1, .inl ⟨ρ2, s2, a2, a3⟩⟩) 0 [some (.mu n), some (strsD cal), some (.int us.length), some (.int 7), none, none, none, none, none, some (.mu s1.length), none, none] s2b (by simp)
      ⟨[], _, _, _, _, _, _, _, _, rfl, by rw [p2b.ne _ (by omega)]; simp, rfl, rfl, p2b.dr, by rw [p2b.len]; simp, fun m h1 h2 => by rw [p2b.ne m h1, List.getElem?_append_left h2]⟩
      (fun ρ s hI => ⟨_, by omega, hI⟩)
    have sp := p1.cut w4 (by omega) fun m h1 h2 => w6 m h1 h2
    refine ⟨.nt ss, s'.take s1.length, ?_, ?_, sp⟩
    · have body : b__law_rule [some (.mu n), some (strsD cal), some (.int us.length), none, none, none, none, none, none, none, none, none] st = .rt (Ru.nt ss).d s' := by
        unfold sbody at q1
        simp [b__law_rule, e1, m8, hk, sizeLine_eq, e2b, m3, hnn]
        rw [q1]
        simp [gTuple, lstD, w1, Ru.d, sizeLine_eq]
      show denOf 12 false b__law_rule _ st = _
      rw [denOf_q]
      simp only [List.map_cons, List.map_nil, List.length_cons, List.length_nil, List.replicate, List.cons_append, List.nil_append]
      rw [body, endR_rt, exitD_d (Ru.mu _), p1.len]
    · simp only [Ru.fits, w3, Bool.and_true]
      exact b2_of (by omega) (by omega)
end
@[simp] theorem strsD_mu' (xs : List Str) : muD (strsD xs) = false := rfl
theorem at0_cons {α : Type} (x : α) (xs : List α) : L2.atI (x :: xs) 0 = some x := by
  unfold L2.atI L2.ixN
  rw [if_pos (by decide), if_pos (by simp)]
  rfl
def calsL : List (List Str) := [["a"], ["a"], ["a", "b"], ["a", "a", "b"], ["b", "a"]]
theorem calsL_ok : ∀ c ∈ calsL, okCal c = true ∧ c ≠ [] ∧ c.length ≤ 3 := by decide +kernel
theorem anybook_ok {n : Nat} {st : Sto} (h : Dr n st) : ∃ (cal : List Str) (us : List Du) (rs : List Ru) (st' : Sto), d__law_any_book [.mu n] st = .ok (bkD cal us (rsX rs)) st' ∧ cal ∈ calsL ∧ (1 ≤ us.length ∧ us.length ≤ 3) ∧ (∀ u ∈ us, u.Good) ∧ rs.length ≤ 3 ∧ (∀ r ∈ rs, r.fits cal us = true) ∧ Stp n st st' := by
  have m3 : ∀ (i : Int) st, gMod st (.int i) (.int 3) = some (.int (i % 3)) := fun i st => gMod_int (by decide)
  have m4 : ∀ (i : Int) st, gMod st (.int i) (.int 4) = some (.int (i % 4)) := fun i st => gMod_int (by decide)
  obtain ⟨cal, s1, e1, h1, p1⟩ := pick_in strsD calsL (fun _ => rfl) h (by simp [calsL])
  simp only [calsL, List.map_cons, List.map_nil, strsD] at e1
  obtain ⟨_, s2, e2, ⟨i, rfl⟩, p2⟩ := next_ok p1.dr
  have hi := modB i (j := 3) (by decide)
  have rg : (1 + i % 3).toNat ≤ 16777216 ∧ (-4611686018427387904 : Int) ≤ 1 + i % 3 := by omega
  obtain ⟨us, s3, e3, l3, g, p3⟩ := lc_draw (n := n) (h := Du.d) (P := Du.Good) (fi := iRange1 (aCons (eOp2 gAdd (eC (.int 1)) (eOp2 gMod (eCB gInt (aCons (eCall (lenOk 1 d__law_next) (aCons (eVar 0) aNil)) aNil)) (eC (.int 3)))) aNil)) (t := .nm 4) (fe := eCall (lenOk 1 d__law_duty) (aCons (eVar 0) aNil)) (vs := [4])
    (ρ := [some (.mu n), some (strsD cal), none, none, none]) (st := s1) (items := rngD 0 (1 + i % 3).toNat) (s1 := s2) (by simp [e2, m3, sizeLine_eq, rg]) p2
    (fun d hd s hs => ⟨_, by simp [wipeR]; rfl, by
      obtain ⟨u, s', q1, q2, q3⟩ := duty_ok hs
      exact ⟨u, s', by simp [q1], q2, q3⟩⟩) (fun y _ => rfl)
  rw [rngD_len] at l3
  obtain ⟨_, s4, e4, ⟨j, rfl⟩, p4⟩ := next_ok p3.dr
  have hj := modB j (j := 4) (by decide)
  have rj : (j % 4).toNat ≤ 16777216 ∧ (-4611686018427387904 : Int) ≤ j % 4 := by omega
  have hc := calsL_ok cal h1
  obtain ⟨rs, s5, e5, l5, hr, p5⟩ := lc_draw (n := n) (h := Ru.d) (P := fun r => r.fits cal us = true) (fi := iRange1 (aCons (eOp2 gMod (eCB gInt (aCons (eCall (lenOk 1 d__law_next) (aCons (eVar 0) aNil)) aNil)) (eC (.int 4))) aNil)) (t := .nm 4) (fe := eCall (lenOk 3 d__law_rule) (aCons (eVar 0) (aCons (eVar 1) (aCons (eCB gLen (aCons (eVar 2) aNil)) aNil)))) (vs := [4])
    (ρ := [some (.mu n), some (strsD cal), some (dsD us), none, none]) (st := s3) (items := rngD 0 (j % 4).toNat) (s1 := s4) (by simp [e4, m4, sizeLine_eq, rj]) p4
    (fun d hd s hs => ⟨_, by simp [wipeR]; rfl, by
      obtain ⟨r, s', q1, q2, q3⟩ := rule_ok (cal := cal) (us := us) hs hc.2.1 (by omega)
      exact ⟨r, s', by simp [q1], q2, q3⟩⟩) (fun y _ => Ru.mu y)
  rw [rngD_len] at l5
  have sp := p1.trans (p3.trans p5)
  refine ⟨cal, us, rs, s5, ?_, h1, by omega, g, by omega, hr, sp⟩
  refine den_rt rfl sp.len ?_
  have e1' : ∀ x, d__law_pick [.mu n, .lst [.tup [.str "a"], .tup [.str "a"], .tup [.str "a", .str "b"], .tup [.str "a", .str "a", .str "b"], .tup [.str "b", .str "a"]]] st = x → x = .ok (strsD cal) s1 := fun x hx => hx.symm.trans e1
  unfold b__law_any_book
  refine run_seq (ρ' := [some (.mu n), some (strsD cal), none, none, none]) (st' := s1) ?_ ?_
  · have e1'' := e1' _ rfl
    simp [sizeLine_eq, e1'', List.replicate]
  refine run_seq (ρ' := [some (.mu n), some (strsD cal), some (dsD us), none, none]) (st' := s3) (by simp [e3, dsD]) ?_
  refine run_seq (ρ' := [some (.mu n), some (strsD cal), some (dsD us), some (xsD (rsX rs)), none]) (st' := s5) (by simp [e5, xsD_rs]) ?_
  simp [bkD, sizeLine_eq]
end Lw

set_option Elab.async false
set_option linter.all false
set_option autoImplicit false
namespace Lw
/-! ### rules kept, day by day: plain lists -/
def lastN {α : Type} (l : List α) (k : Nat) : List α := l.drop (l.length - k)
theorem lastN_len {α : Type} (l : List α) (k : Nat) : (lastN l k).length = min k l.length := by simp [lastN]; omega
theorem lastN_snoc {α : Type} (l : List α) (x : α) (k : Nat) : lastN (l ++ [x]) (k + 1) = lastN l k ++ [x] := by
  unfold lastN
  rw [List.length_append, List.length_singleton, List.drop_append_of_le_length (by omega)]
  congr 2; omega
theorem lastN_lastN {α : Type} (l : List α) (k j : Nat) (h : j ≤ k) : lastN (lastN l k) j = lastN l j := by
  unfold lastN
  rw [List.drop_drop, List.length_drop]
  congr 1; omega
/-! windows -/
def winK (P : Int → Bool) (n : Nat) (vs : List Int) : Bool := (List.range (vs.length + 1 - n)).all fun i => P ((vs.drop i).take n).sum
theorem winK_snoc (P : Int → Bool) (n : Nat) (vs : List Int) (v : Int) (hn : 1 ≤ n) : winK P n (vs ++ [v]) = (winK P n vs && (!decide (n ≤ vs.length + 1) || P (lastN vs (n - 1) ++ [v]).sum)) := by
  unfold winK
  by_cases h : n ≤ vs.length + 1
  · have e : (vs ++ [v]).length + 1 - n = (vs.length + 1 - n) + 1 := by simp; omega
    have e2 : (List.drop (vs.length + 1 - n) (vs ++ [v])).take n = lastN vs (n - 1) ++ [v] := by
      rw [← lastN_snoc]
      unfold lastN
      have : n - 1 + 1 = n := by omega
      rw [this, List.length_append, List.length_singleton]
      exact List.take_of_length_le (by simp; omega)
    rw [e, List.range_succ, List.all_append]
    simp only [List.all_cons, List.all_nil, Bool.and_true, e2, decide_eq_true h, Bool.not_true, Bool.false_or]
    congr 1
    rw [Bool.eq_iff_iff, List.all_eq_true, List.all_eq_true]
    refine forall_congr' fun i => forall_congr' fun hi => ?_
    rw [List.mem_range] at hi
    have : (List.drop i (vs ++ [v])).take n = (List.drop i vs).take n := by
      rw [List.drop_append_of_le_length (by omega), List.take_append_of_le_length (by simp; omega)]
    rw [this]
  · have e : (vs ++ [v]).length + 1 - n = vs.length + 1 - n := by simp; omega
    have e0 : vs.length + 1 - n = 0 := by omega
    rw [e, e0]; simp [h]
/-! runs -/
def runM (ms : List Bool) : Nat := (ms.reverse.takeWhile id).length
theorem run_nil : runM [] = 0 := rfl
theorem run_snoc (ms : List Bool) (m : Bool) : runM (ms ++ [m]) = if m = true then runM ms + 1 else 0 := by
  cases m <;> simp [runM]
theorem run_le (ms : List Bool) : runM ms ≤ ms.length := by
  have := (List.takeWhile_sublist (p := id) (l := ms.reverse)).length_le
  simpa [runM] using this
theorem run_drop (ms : List Bool) (k : Nat) (h : k ≤ ms.length) : (ms.drop (ms.length - k)).all id = decide (k ≤ runM ms) := by
  have key : ∀ (l : List Bool) (k : Nat), k ≤ l.length → (l.take k).all id = decide (k ≤ (l.takeWhile id).length) := by
    intro l
    induction l with
    | nil => intro k h; simp at h; subst h; rfl
    | cons a l ih =>
      intro k h
      cases k with
      | zero => simp
      | succ k =>
        cases a
        · simp
        · simp at h
          simp [ih k h]
  have e : ms.drop (ms.length - k) = (ms.reverse.take k).reverse := by
    rw [List.take_reverse, List.reverse_reverse]
  rw [e, List.all_reverse, key _ _ (by simpa using h)]; rfl
def rowK (k : Nat) (ms : List Bool) : Bool := (List.range ms.length).all fun d => !(decide (k ≤ d) && ((ms.drop (d - k)).take (k + 1)).all id)
theorem rowK_snoc (k : Nat) (ms : List Bool) (m : Bool) : rowK k (ms ++ [m]) = (rowK k ms && !(m && decide (k ≤ runM ms))) := by
  unfold rowK
  rw [List.length_append, List.length_singleton, List.range_succ, List.all_append]
  simp only [List.all_cons, List.all_nil, Bool.and_true]
  congr 1
  · rw [Bool.eq_iff_iff, List.all_eq_true, List.all_eq_true]
    refine forall_congr' fun i => forall_congr' fun hi => ?_
    rw [List.mem_range] at hi
    by_cases hk : k ≤ i
    · have : (List.drop (i - k) (ms ++ [m])).take (k + 1) = (List.drop (i - k) ms).take (k + 1) := by
        rw [List.drop_append_of_le_length (by omega), List.take_append_of_le_length (by simp; omega)]
      rw [this]
    · simp [hk]
  · by_cases hk : k ≤ ms.length
    · have : (List.drop (ms.length - k) (ms ++ [m])).take (k + 1) = ms.drop (ms.length - k) ++ [m] := by
        rw [List.drop_append_of_le_length (by omega)]
        exact List.take_of_length_le (by simp; omega)
      rw [this, List.all_append, run_drop ms k hk]
      cases m <;> simp [hk]
    · have : ¬ k ≤ runM ms := by have := run_le ms; omega
      simp [hk, this]
/-! rests -/
def farK (n t : Int) : Option Int → Bool
  | some a => !decide (t - a < n)
  | none => true
def restK (n : Int) : Int → Option Int → List (Option (Int × Int)) → Bool
  | _, _, [] => true
  | d, a, none :: xs => restK n (d + 1) a xs
  | d, a, some (b, l) :: xs => farK n (24 * d + b) a && restK n (d + 1) (some (24 * d + b + l)) xs
def restA : Int → Option Int → List (Option (Int × Int)) → Option Int
  | _, a, [] => a
  | d, a, none :: xs => restA (d + 1) a xs
  | d, a, some (b, l) :: xs => restA (d + 1) (some (24 * d + b + l)) xs
theorem restA_snoc (x : Option (Int × Int)) : ∀ (xs : List (Option (Int × Int))) (d : Int) (a : Option Int), restA d a (xs ++ [x]) = restA (d + xs.length) (restA d a xs) [x]
  | [], d, a => by simp [restA]
  | none :: xs, d, a => by
    have e : d + ((none :: xs : List (Option (Int × Int))).length : Int) = d + 1 + xs.length := by simp; omega
    rw [List.cons_append, restA, restA_snoc x xs, restA, e]
  | some (b, l) :: xs, d, a => by
    have e : d + ((some (b, l) :: xs : List (Option (Int × Int))).length : Int) = d + 1 + xs.length := by simp; omega
    rw [List.cons_append, restA, restA_snoc x xs, restA, e]
theorem restK_snoc (n : Int) (x : Option (Int × Int)) : ∀ (xs : List (Option (Int × Int))) (d : Int) (a : Option Int), restK n d a (xs ++ [x]) = (restK n d a xs && restK n (d + xs.length) (restA d a xs) [x])
  | [], d, a => by simp [restA, restK]
  | none :: xs, d, a => by
    have e : d + ((none :: xs : List (Option (Int × Int))).length : Int) = d + 1 + xs.length := by simp; omega
    rw [List.cons_append, restK, restK_snoc n x xs, restA, restK, e]
  | some (b, l) :: xs, d, a => by
    have e : d + ((some (b, l) :: xs : List (Option (Int × Int))).length : Int) = d + 1 + xs.length := by simp; omega
    rw [List.cons_append, restK, restK_snoc n x xs, restA, restK, e, Bool.and_assoc]
def minI (a b : Int) : Int := if b < a then b else a
/-- the standing of a rest behind the days -/
def restS' (n t : Int) : Option Int → Int
  | none => n
  | some a => minI n (t - a)
def restS (n : Int) (xs : List (Option (Int × Int))) : Int := restS' n (24 * xs.length) (restA 0 none xs)
theorem rest_free (n : Int) (xs : List (Option (Int × Int))) : restK n 0 none (xs ++ [none]) = restK n 0 none xs ∧ restS n (xs ++ [none]) = minI n (restS n xs + 24) := by
  constructor
  · rw [restK_snoc]; simp [restK]
  · unfold restS
    rw [restA_snoc]
    simp only [restA]
    cases restA 0 none xs with
    | none => simp [minI, restS']; omega
    | some a =>
      simp only [minI, restS', List.length_append, List.length_singleton]
      split <;> split <;> (try split) <;> omega
theorem rest_duty (n : Int) (xs : List (Option (Int × Int))) (b l : Int) (hb : 0 ≤ b) : restK n 0 none (xs ++ [some (b, l)]) = (restK n 0 none xs && decide (n ≤ restS n xs + b)) ∧ restS n (xs ++ [some (b, l)]) = minI n (24 - b - l) := by
  constructor
  · rw [restK_snoc]
    congr 1
    rw [Bool.eq_iff_iff, decide_eq_true_iff]
    simp only [restK, restS, Bool.and_true]
    cases restA 0 none xs with
    | none => simp [farK, restS']; omega
    | some a =>
      simp only [minI, farK, restS']
      simp
      split <;> omega
  · unfold restS
    rw [restA_snoc]
    simp only [restA, restS', List.length_append, List.length_singleton]
    congr 1
    omega
/-! free days behind a runM -/
def trig (k : Nat) (ms : List Bool) (d : Nat) : Bool := !((ms[d]?).getD true) && decide (k ≤ runM (ms.take d))
def behK (k m : Nat) (ms ws : List Bool) : Bool := (List.range ms.length).all fun d => (List.range d).all fun b => !((decide (k ≤ d - b) && (((ms.drop b).take (d - b)).all id && !(ms[d]?).getD true)) && ((ws.drop d).take m).any id)
def behP (k m : Nat) (ms ws : List Bool) : Prop := ∀ d, d < ms.length → trig k ms d = true → ∀ j, d ≤ j → j < d + m → ws[j]? ≠ some true
theorem run_take_ge {ms : List Bool} {b d : Nat} (hb : b ≤ d) (hd : d ≤ ms.length) (h : ((ms.drop b).take (d - b)).all id = true) : d - b ≤ runM (ms.take d) := by
  have e : ((ms.take d).drop ((ms.take d).length - (d - b))) = (ms.drop b).take (d - b) := by
    rw [List.length_take, Nat.min_eq_left hd, List.drop_take]
    have : d - (d - b) = b := by omega
    rw [this]
  have := run_drop (ms.take d) (d - b) (by rw [List.length_take]; omega)
  rw [e, h] at this
  simpa using this.symm
theorem run_take_all {ms : List Bool} {k d : Nat} (hd : d ≤ ms.length) (h : k ≤ runM (ms.take d)) : k ≤ d ∧ ((ms.drop (d - k)).take (d - (d - k))).all id = true := by
  have hk : k ≤ d := by have := run_le (ms.take d); rw [List.length_take] at this; omega
  have := run_drop (ms.take d) k (by rw [List.length_take]; omega)
  rw [List.length_take, Nat.min_eq_left hd, List.drop_take, decide_eq_true h] at this
  exact ⟨hk, this⟩
theorem behK_iff (k m : Nat) (hk : 1 ≤ k) (ms ws : List Bool) (hl : ws.length = ms.length) : behK k m ms ws = true ↔ behP k m ms ws := by
  unfold behK behP
  rw [List.all_eq_true]
  refine forall_congr' fun d => ?_
  rw [List.mem_range]
  refine forall_congr' fun hd => ?_
  have anyE : ((ws.drop d).take m).any id = true ↔ ∃ j, d ≤ j ∧ j < d + m ∧ ws[j]? = some true := by
    rw [List.any_eq_true]
    constructor
    · rintro ⟨x, hx, e⟩
      obtain ⟨i, hi⟩ := List.mem_iff_getElem?.mp hx
      have e : x = true := e
      subst e
      have hm : i < m := by
        have := (List.getElem?_eq_some_iff.mp hi).1
        rw [List.length_take] at this; omega
      rw [List.getElem?_take_of_lt hm, List.getElem?_drop] at hi
      exact ⟨d + i, by omega, by omega, hi⟩
    · rintro ⟨j, h1, h2, e⟩
      refine ⟨true, List.mem_iff_getElem?.mpr ⟨j - d, ?_⟩, rfl⟩
      rw [List.getElem?_take_of_lt (by omega), List.getElem?_drop]
      have : d + (j - d) = j := by omega
      rw [this]; exact e
  constructor
  · intro h ht j h1 h2 e
    unfold trig at ht
    simp only [Bool.and_eq_true, decide_eq_true_eq] at ht
    obtain ⟨hkd, hall⟩ := run_take_all (Nat.le_of_lt hd) ht.2
    rw [List.all_eq_true] at h
    have := h (d - k) (List.mem_range.mpr (by omega))
    rw [hall, ht.1, anyE.mpr ⟨j, h1, h2, e⟩, decide_eq_true (by omega : k ≤ d - (d - k))] at this
    simp at this
  · intro h
    rw [List.all_eq_true]
    intro b hb
    rw [List.mem_range] at hb
    cases hc : decide (k ≤ d - b) && (((ms.drop b).take (d - b)).all id && !(ms[d]?).getD true) with
    | false => rfl
    | true =>
      simp only [Bool.and_eq_true, decide_eq_true_eq] at hc
      have hr := run_take_ge (Nat.le_of_lt hb) (Nat.le_of_lt hd) hc.2.1
      have ht : trig k ms d = true := by
        unfold trig
        simp only [Bool.and_eq_true, decide_eq_true_eq]
        exact ⟨hc.2.2, by omega⟩
      cases ha : ((ws.drop d).take m).any id with
      | false => rfl
      | true =>
        obtain ⟨j, h1, h2, e⟩ := anyE.mp ha
        exact absurd e (h ht j h1 h2)
/-- the standing (c, due) behind the days -/
structure BehJ (k m : Nat) (ms ws : List Bool) (c due : Nat) : Prop where
  cnt : c = min k (runM ms)
  kept : behP k m ms ws
  due : due = 0 ∧ (∀ d, d < ms.length → trig k ms d = true → d + m ≤ ms.length) ∨
    0 < due ∧ runM ms = 0 ∧ ∃ d, d < ms.length ∧ trig k ms d = true ∧ d + m = ms.length + due ∧ ∀ e, e < ms.length → trig k ms e = true → e ≤ d
theorem trig_snoc {k : Nat} {ms : List Bool} {m : Bool} {d : Nat} (h : d < ms.length) : trig k (ms ++ [m]) d = trig k ms d := by
  unfold trig
  rw [List.getElem?_append_left h, List.take_append_of_le_length (Nat.le_of_lt h)]
theorem trig_last {k : Nat} {ms : List Bool} {m : Bool} : trig k (ms ++ [m]) ms.length = (!m && decide (k ≤ runM ms)) := by
  unfold trig
  simp
theorem beh_start {k m : Nat} : BehJ k m [] [] 0 0 := ⟨by simp [run_nil], fun d h => absurd h (Nat.not_lt_zero _), .inl ⟨rfl, fun d h => absurd h (Nat.not_lt_zero _)⟩⟩
/-- what is asked of one day more -/
theorem behP_snoc {k m : Nat} {ms ws : List Bool} {x w : Bool} (hl : ws.length = ms.length) (h : behP k m ms ws) :
    behP k m (ms ++ [x]) (ws ++ [w]) ↔ (w = true → ∀ d, d ≤ ms.length → trig k (ms ++ [x]) d = true → d + m ≤ ms.length) := by
  constructor
  · intro h' hw d hd ht
    by_cases hm : d + m ≤ ms.length
    · exact hm
    · refine absurd ?_ (h' d (by simp; omega) ht ms.length hd (by omega))
      rw [← hl, List.getElem?_append_right (Nat.le_refl _)]
      simp [hw]
  · intro h' d hd ht j h1 h2 e
    have hj : j < (ws ++ [w]).length := (List.getElem?_eq_some_iff.mp e).1
    simp at hj hd
    by_cases hjl : j < ws.length
    · rw [List.getElem?_append_left hjl] at e
      have hd2 : d < ms.length := by omega
      rw [trig_snoc hd2] at ht
      exact h d hd2 ht j h1 h2 e
    · have : j = ws.length := by omega
      subst this
      rw [List.getElem?_append_right (Nat.le_refl _)] at e
      simp at e
      have := h' e d (by omega) ht
      omega
/-- where the standing leads; none where the day is against the rule -/
def behN (k m c due : Nat) (x w : Bool) : Option (Nat × Nat) :=
  if 0 < due then (if w = true then none else some (0, due - 1)) else if x = true then some (min k (c + 1), 0) else if c < k then some (0, 0) else if w = true then none else some (0, m - 1)
theorem beh_step {k m c due : Nat} {ms ws : List Bool} {x w : Bool} (hk : 1 ≤ k) (hm : 1 ≤ m) (hl : ws.length = ms.length) (hx : x = true → w = true) (J : BehJ k m ms ws c due) :
    (behP k m (ms ++ [x]) (ws ++ [w]) ↔ (behN k m c due x w).isSome = true) ∧ ∀ c' due', behN k m c due x w = some (c', due') → BehJ k m (ms ++ [x]) (ws ++ [w]) c' due' := by
  obtain ⟨jc, jk, jd⟩ := J
  have len1 : (ms ++ [x]).length = ms.length + 1 := by simp
  rcases jd with ⟨rfl, old⟩ | ⟨hd, h0, d, hd1, hd2, hd3, hd4⟩
  · -- none is due
    cases x with
    | true =>
      have hw := hx rfl
      subst hw
      have e : behN k m c 0 true true = some (min k (c + 1), 0) := by simp [behN]
      have ok : behP k m (ms ++ [true]) (ws ++ [true]) := (behP_snoc hl jk).mpr fun _ d hd ht => by
        by_cases hlt : d < ms.length
        · rw [trig_snoc hlt] at ht; exact old d hlt ht
        · have : d = ms.length := by omega
          subst this
          rw [trig_last] at ht; simp at ht
      rw [e]
      refine ⟨⟨fun _ => rfl, fun _ => ok⟩, fun c' due' h => ?_⟩
      cases h
      refine ⟨?_, ok, .inl ⟨rfl, fun d hd ht => ?_⟩⟩
      · rw [run_snoc, if_pos rfl]; omega
      · rw [len1] at hd ⊢
        by_cases hlt : d < ms.length
        · rw [trig_snoc hlt] at ht; have := old d hlt ht; omega
        · have : d = ms.length := by omega
          subst this
          rw [trig_last] at ht; simp at ht
    | false =>
      by_cases hc : c < k
      · have e : behN k m c 0 false w = some (0, 0) := by simp [behN, hc]
        have nt : trig k (ms ++ [false]) ms.length = false := by
          rw [trig_last]
          have : ¬ k ≤ runM ms := by omega
          simp [this]
        have ok : behP k m (ms ++ [false]) (ws ++ [w]) := (behP_snoc hl jk).mpr fun _ d hd ht => by
          by_cases hlt : d < ms.length
          · rw [trig_snoc hlt] at ht; exact old d hlt ht
          · have : d = ms.length := by omega
            subst this
            rw [nt] at ht; cases ht
        rw [e]
        refine ⟨⟨fun _ => rfl, fun _ => ok⟩, fun c' due' h => ?_⟩
        cases h
        refine ⟨by rw [run_snoc]; simp, ok, .inl ⟨rfl, fun d hd ht => ?_⟩⟩
        rw [len1] at hd ⊢
        by_cases hlt : d < ms.length
        · rw [trig_snoc hlt] at ht; have := old d hlt ht; omega
        · have : d = ms.length := by omega
          subst this
          rw [nt] at ht; cases ht
      · have tt : trig k (ms ++ [false]) ms.length = true := by
          rw [trig_last]
          have : k ≤ runM ms := by omega
          simp [this]
        cases w with
        | true =>
          have e : behN k m c 0 false true = none := by simp [behN, hc]
          rw [e]
          refine ⟨⟨fun h => ?_, fun h => by cases h⟩, fun c' due' h => by cases h⟩
          have := (behP_snoc hl jk).mp h rfl ms.length (Nat.le_refl _) tt
          omega
        | false =>
          have e : behN k m c 0 false false = some (0, m - 1) := by simp [behN, hc]
          have ok : behP k m (ms ++ [false]) (ws ++ [false]) := (behP_snoc hl jk).mpr fun h => by cases h
          rw [e]
          refine ⟨⟨fun _ => rfl, fun _ => ok⟩, fun c' due' h => ?_⟩
          cases h
          refine ⟨by rw [run_snoc]; simp, ok, ?_⟩
          by_cases h1 : m = 1
          · refine .inl ⟨by omega, fun d hd ht => ?_⟩
            rw [len1] at hd ⊢; omega
          · refine .inr ⟨by omega, by rw [run_snoc]; simp, ms.length, by rw [len1]; omega, tt, by rw [len1]; omega, fun e' he ht => ?_⟩
            rw [len1] at he; omega
  · -- days are due
    have c0 : c = 0 := by omega
    have nl : k ≤ runM ms → False := by omega
    cases w with
    | true =>
      have e : behN k m c due x true = none := by simp [behN, hd]
      rw [e]
      refine ⟨⟨fun h => ?_, fun h => by cases h⟩, fun c' due' h => by cases h⟩
      have := (behP_snoc hl jk).mp h rfl d (Nat.le_of_lt hd1) (by rw [trig_snoc hd1]; exact hd2)
      omega
    | false =>
      have hx0 : x = false := by cases x with
        | false => rfl
        | true => exact absurd (hx rfl) (by simp)
      subst hx0
      have e : behN k m c due false false = some (0, due - 1) := by simp [behN, hd]
      have ok : behP k m (ms ++ [false]) (ws ++ [false]) := (behP_snoc hl jk).mpr fun h => by cases h
      have nt : trig k (ms ++ [false]) ms.length = false := by
        rw [trig_last]
        have : ¬ k ≤ runM ms := nl
        simp [this]
      rw [e]
      refine ⟨⟨fun _ => rfl, fun _ => ok⟩, fun c' due' h => ?_⟩
      cases h
      have tops : ∀ e', e' < (ms ++ [false]).length → trig k (ms ++ [false]) e' = true → e' ≤ d := fun e' he ht => by
        rw [len1] at he
        by_cases hlt : e' < ms.length
        · rw [trig_snoc hlt] at ht; exact hd4 e' hlt ht
        · have : e' = ms.length := by omega
          subst this
          rw [nt] at ht; cases ht
      refine ⟨by rw [run_snoc]; simp, ok, ?_⟩
      by_cases h1 : due = 1
      · refine .inl ⟨by omega, fun e' he ht => ?_⟩
        have := tops e' he ht
        rw [len1]; omega
      · refine .inr ⟨by omega, by rw [run_snoc]; simp, d, by rw [len1]; omega, by rw [trig_snoc hd1]; exact hd2, by rw [len1]; omega, tops⟩
/-! sets in a row -/
def matS (ss : List (List Int)) (xs : List Int) (j : Nat) : Bool := decide (j ≤ xs.length) && (List.range j).all fun i => ((ss[i]?).getD []).contains ((xs[xs.length - j + i]?).getD 0)
def setK (ss : List (List Int)) (xs : List Int) : Bool := (List.range (xs.length + 1 - ss.length)).all fun b => !((List.range ss.length).all fun i => ((ss[i]?).getD []).contains ((xs[b + i]?).getD 0))
theorem matS_zero (ss : List (List Int)) (xs : List Int) : matS ss xs 0 = true := by simp [matS]
theorem matS_snoc (ss : List (List Int)) (xs : List Int) (x : Int) (j : Nat) : matS ss (xs ++ [x]) (j + 1) = (matS ss xs j && ((ss[j]?).getD []).contains x) := by
  unfold matS
  by_cases h : j ≤ xs.length
  · rw [List.range_succ, List.all_append]
    simp only [List.length_append, List.length_singleton, List.all_cons, List.all_nil, Bool.and_true]
    have e1 : xs.length + 1 - (j + 1) = xs.length - j := by omega
    rw [e1, decide_eq_true h, decide_eq_true (by omega : j + 1 ≤ xs.length + 1), Bool.true_and, Bool.true_and]
    congr 1
    · rw [Bool.eq_iff_iff, List.all_eq_true, List.all_eq_true]
      refine forall_congr' fun i => forall_congr' fun hi => ?_
      rw [List.mem_range] at hi
      rw [List.getElem?_append_left (by omega)]
    · have : xs.length - j + j = xs.length := by omega
      rw [this, List.getElem?_append_right (Nat.le_refl _)]
      simp
  · have h2 : ¬ (j + 1 ≤ (xs ++ [x]).length) := by simp; omega
    simp [h, h2]
theorem setK_snoc (ss : List (List Int)) (xs : List Int) (x : Int) : setK ss (xs ++ [x]) = (setK ss xs && !matS ss (xs ++ [x]) ss.length) := by
  unfold setK
  by_cases h : ss.length ≤ xs.length + 1
  · have e : (xs ++ [x]).length + 1 - ss.length = (xs.length + 1 - ss.length) + 1 := by simp; omega
    rw [e, List.range_succ, List.all_append]
    simp only [List.all_cons, List.all_nil, Bool.and_true]
    congr 1
    · rw [Bool.eq_iff_iff, List.all_eq_true, List.all_eq_true]
      refine forall_congr' fun b => forall_congr' fun hb => ?_
      rw [List.mem_range] at hb
      have : ((List.range ss.length).all fun i => ((ss[i]?).getD []).contains (((xs ++ [x])[b + i]?).getD 0)) = (List.range ss.length).all fun i => ((ss[i]?).getD []).contains ((xs[b + i]?).getD 0) := by
        rw [Bool.eq_iff_iff, List.all_eq_true, List.all_eq_true]
        refine forall_congr' fun i => forall_congr' fun hi => ?_
        rw [List.mem_range] at hi
        rw [List.getElem?_append_left (by omega)]
      rw [this]
    · unfold matS
      simp only [List.length_append, List.length_singleton]
      rw [decide_eq_true h, Bool.true_and]
  · have e0 : xs.length + 1 - ss.length = 0 := by omega
    have e1 : (xs ++ [x]).length + 1 - ss.length = 0 ∨ (xs ++ [x]).length + 1 - ss.length = 1 := by simp; omega
    have nm : matS ss (xs ++ [x]) ss.length = false := by
      unfold matS
      have : ¬ ss.length ≤ (xs ++ [x]).length := by simp; omega
      simp only [this, decide_false, Bool.false_and]
    have e2 : (xs ++ [x]).length + 1 - ss.length = 0 := by simp; omega
    rw [e0, e2, nm]; rfl
/-- the standing: which sets the last days match -/
def notS (ss : List (List Int)) (xs : List Int) (n : Nat) : List Nat := (List.range n).filter fun j => matS ss xs (j + 1)
theorem notS_step (ss : List (List Int)) (xs : List Int) (x : Int) (n : Nat) : ((0 :: (notS ss xs n).map (· + 1)).filter fun a => ((ss[a]?).getD []).contains x) = (List.range (n + 1)).filter fun j => matS ss (xs ++ [x]) (j + 1) := by
  have e : (0 :: (notS ss xs n).map (· + 1)) = (List.range (n + 1)).filter fun j => matS ss xs j := by
    unfold notS
    rw [List.range_succ_eq_map, List.filter_cons, if_pos (by simpa using matS_zero ss xs), List.filter_map]
    rfl
  rw [e, List.filter_filter]
  congr 1
  funext j
  rw [matS_snoc]
  exact Bool.and_comm _ _
end Lw

set_option Elab.async false
set_option linter.all false
set_option autoImplicit false
set_option maxRecDepth 100000
set_option maxHeartbeats 4000000
namespace Lw
open PySem PySem.Spec PyProof.Rows L2 Fn
/-! ### standings, typed: a number, or a row of numbers -/
inductive Sg where
  | n (i : Int) | l (xs : List Int)
def Sg.d : Sg → D
  | .n i => .int i
  | .l xs => intsT xs
@[simp] theorem Sg.mu (s : Sg) : muD s.d = false := by cases s <;> rfl
/-- a standing, or none -/
def osD : Option Sg → D
  | none => .non
  | some s => s.d
@[simp] theorem osD_mu (s : Option Sg) : muD (osD s) = false := by cases s with
  | none => rfl
  | some s => exact Sg.mu s
def du (us : List Du) (x : Int) : Du := (us[x.toNat - 1]?).getD ⟨0, 0, 0, ""⟩
def lastL (xs : List Int) (m : Int) : List Int := xs.drop (xs.length - m.toNat)
/-- where a standing leads -/
def stepS (cal : List Str) (us : List Du) (ph : Nat) (x : Int) : Ru → Sg → Option Sg
  | .rest n, .n s => if x = 0 then some (.n (minI n (s + 24))) else if n ≤ s + (du us x).b then some (.n (minI n (24 - (du us x).b - (du us x).l))) else none
  | .win m k z n c, .l p => if (if m = true then c < (p ++ [va us k z x]).sum else ((p ++ [va us k z x]).length : Int) = n ∧ (p ++ [va us k z x]).sum < c) then none else some (.l (lastL (p ++ [va us k z x]) (n - 1)))
  | .row z n, .n s => if isOf us x z = true then (if s < n then some (.n (s + 1)) else none) else some (.n 0)
  | .beh z n m, .l [c, d] => if 0 < d then (if x = 0 then some (.l [0, d - 1]) else none) else if isOf us x z = true then some (.l [minI n (c + 1), 0]) else if c < n then some (.l [0, 0]) else if x = 0 then some (.l [0, m - 1]) else none
  | .kin y n c, .l p => if cal[ph]? = some y then (if ((p ++ [if x = 0 then 1 else 0]).length : Int) = n ∧ (p ++ [if x = 0 then 1 else 0]).sum < c then none else some (.l (lastL (p ++ [if x = 0 then 1 else 0]) (n - 1)))) else some (.l p)
  | .acc lo hi pl, .n s => if lo ≤ s + wo us x - (pl[ph]?).getD 0 ∧ s + wo us x - (pl[ph]?).getD 0 ≤ hi then some (.n (s + wo us x - (pl[ph]?).getD 0)) else none
  | .nt ss, .l p => if ((((0 :: p).filter fun a => ((ss[a.toNat]?).getD []).contains x).map (· + 1)).contains (ss.length : Int)) = true then none else some (.l (((0 :: p).filter fun a => ((ss[a.toNat]?).getD []).contains x).map (· + 1)))
  | _, _ => none
end Lw

set_option Elab.async false
set_option linter.all false
set_option autoImplicit false
set_option maxRecDepth 100000
set_option maxHeartbeats 4000000
namespace Lw
open PySem PySem.Spec PyProof.Rows L2 Fn
theorem du_at {us : List Du} {x : Int} (h1 : 1 ≤ x) (h2 : x ≤ us.length) : L2.atI (us.map Du.d) (x - 1) = some (du us x).d := by
  obtain ⟨u, _, e1, e2⟩ := duty_at h1 h2
  rw [e2, du, e1]; rfl
section
variable {us : List Du} {st : Sto} {x : Int}
theorem begins_eq (h1 : 1 ≤ x) (h2 : x ≤ us.length) : d_begins [dsD us, .int x] st = .ok (.int (du us x).b) st := by
  simp [d_begins, b_begins, du_at h1 h2]
  simp [Du.d]
theorem ends_eq (h1 : 1 ≤ x) (h2 : x ≤ us.length) : d_ends [dsD us, .int x] st = .ok (.int ((du us x).b + (du us x).l)) st := by
  simp [d_ends, b_ends, du_at h1 h2]
  simp [Du.d]
theorem brest_eq (n s : Int) (h1 : 0 ≤ x) (h2 : x ≤ us.length) : d_behind_rest [dsD us, (Ru.rest n).d, .int s, .int x] st = .ok (osD (stepS [] us 0 x (.rest n) (.n s))) st := by
  by_cases hx : x = 0
  · subst hx
    simp [d_behind_rest, b_behind_rest, Ru.d, stepS, osD, Sg.d, minI]
  · have b := begins_eq (us := us) (st := st) (x := x) (by omega) h2
    have e := ends_eq (us := us) (st := st) (x := x) (by omega) h2
    by_cases h : n ≤ s + (du us x).b
    · have h' : ¬ s + (du us x).b < n := by omega
      have a : (24 : Int) - ((du us x).b + (du us x).l) = 24 - (du us x).b - (du us x).l := by omega
      simp [d_behind_rest, b_behind_rest, Ru.d, stepS, osD, Sg.d, minI, hx, b, e, h, h', a]
    · have h' : s + (du us x).b < n := by omega
      simp [d_behind_rest, b_behind_rest, Ru.d, stepS, osD, Sg.d, hx, b, e, h, h']
theorem brow_eq (z : Str) (n s : Int) (h1 : 0 ≤ x) (h2 : x ≤ us.length) : d_behind_row [dsD us, (Ru.row z n).d, .int s, .int x] st = .ok (osD (stepS [] us 0 x (.row z n) (.n s))) st := by
  cases hz : isOf us x z <;> by_cases h : s < n <;> simp [d_behind_row, b_behind_row, Ru.d, stepS, osD, Sg.d, of_eq h1 h2, hz, h]
theorem bfree_eq (z : Str) (n m c d : Int) (h1 : 0 ≤ x) (h2 : x ≤ us.length) : d_behind_free [dsD us, (Ru.beh z n m).d, intsT [c, d], .int x] st = .ok (osD (stepS [] us 0 x (.beh z n m) (.l [c, d]))) st := by
  have hof : ∀ st, d_is_of [dsD us, .int x, .str z] st = .ok (.bl (isOf us x z)) st := fun st => of_eq h1 h2 st
  rcases Decidable.em (x = 0) with rfl | hx
  · by_cases hd : 0 < d <;> cases hz : isOf us 0 z <;> by_cases h : c < n <;> rw [hz] at hof <;>
      simp [d_behind_free, b_behind_free, Ru.d, stepS, osD, Sg.d, hof, hz, h, hd, intsT, List.replicate, sizeLine_eq, minI]
  · by_cases hd : 0 < d <;> cases hz : isOf us x z <;> by_cases h : c < n <;> rw [hz] at hof <;>
      simp [d_behind_free, b_behind_free, Ru.d, stepS, osD, Sg.d, hof, hz, h, hd, hx, intsT, List.replicate, sizeLine_eq, minI]
theorem bacc_eq (lo hi : Int) (pl : List Int) (s : Int) (ph : Nat) (hp : ph < pl.length) (h1 : 0 ≤ x) (h2 : x ≤ us.length) : d_behind_account [dsD us, (Ru.acc lo hi pl).d, .int s, .int ph, .int x] st = .ok (osD (stepS [] us ph x (.acc lo hi pl) (.n s))) st := by
  have at' : L2.atI (pl.map D.int) (ph : Int) = some (.int ((pl[ph]?).getD 0)) := by
    rw [atI_map]
    unfold L2.atI L2.ixN
    rw [if_pos (by omega), if_pos (by omega)]
    have : (ph : Int).toNat = ph := by omega
    simp [this, List.getElem?_eq_getElem hp]
  have c : ∀ (v : Int) (o0 o1 o2 o3 o4 o5 o8 : Option D) st, tChn gLe gLe (eVar 6) (eVar 9) (eVar 7) [o0, o1, o2, o3, o4, o5, some (.int lo), some (.int hi), o8, some (.int v)] st = .ok (decide (lo ≤ v) && decide (v ≤ hi)) st := fun v o0 o1 o2 o3 o4 o5 o8 st => tChn_lele rfl rfl rfl
  have gx : ∀ st, gIx st (intsT pl) (.int ph) = some (.int ((pl[ph]?).getD 0)) := fun st => by simp [intsT, at']
  by_cases h : lo ≤ s + wo us x - (pl[ph]?).getD 0 <;> by_cases h' : s + wo us x - (pl[ph]?).getD 0 ≤ hi <;>
    simp [d_behind_account, b_behind_account, Ru.d, stepS, osD, Sg.d, wo_eq h1 h2, gx, c, h, h', List.replicate]
end
end Lw

set_option Elab.async false
set_option linter.all false
set_option autoImplicit false
set_option maxRecDepth 100000
set_option maxHeartbeats 4000000
namespace Lw
open PySem PySem.Spec PyProof.Rows L2 Fn
theorem cut_from {i : Int} (xs : List D) (h0 : 0 ≤ i) (h1 : i ≤ xs.length) : Fn.cutD xs (some i) none = xs.drop i.toNat := by
  have e1 : HT.sIx xs.length 0 (some i) = i.toNat := by
    simp only [HT.sIx]
    first
    | omega
    | (rw [if_neg (by omega)]; omega)
    | (split <;> omega)
    | (simp; omega)
  have e2 : HT.sIx xs.length xs.length none = xs.length := by simp [HT.sIx]
  unfold Fn.cutD
  rw [e1, e2]
  exact List.take_of_length_le (by simp)
section
variable {us : List Du} {st : Sto} {x : Int}
theorem shifted_eq (p : List Int) (e m : Int) (h0 : 0 ≤ m) (hp : p.length ≤ 1000) : d_shifted [intsT p, .int e, .int m] st = .ok (intsT (lastL (p ++ [e]) m)) st := by
  have sq : ∀ st, seqD st (intsT p) = some (p.map .int) := fun st => rfl
  have hl : p.length + 1 ≤ 16777216 := by omega
  have nm : noMu (p.map D.int) = true := noMu_map D.int (fun _ => rfl) p
  have nm2 : noMu (p.map D.int ++ [D.int e]) = true := by
    have := noMu_map D.int (fun _ => rfl) (p ++ [e])
    simpa using this
  by_cases h : m < (p.length : Int) + 1
  · have c := cut_from (i := (p.length : Int) + 1 - m) ((p ++ [e]).map .int) (by omega) (by simp; omega)
    simp at c
    have ll : lastL (p ++ [e]) m = (p ++ [e]).drop ((p.length : Int) + 1 - m).toNat := by
      unfold lastL
      congr 1
      simp
      omega
    simp [d_shifted, b_shifted, sq, sizeLine_eq, hl, nm2, h, c, ll, intsT, List.map_drop]
  · have ll : lastL (p ++ [e]) m = p ++ [e] := by
      unfold lastL
      have : (p ++ [e]).length - m.toNat = 0 := by simp; omega
      rw [this]; rfl
    simp [d_shifted, b_shifted, sq, sizeLine_eq, hl, nm2, h, ll, intsT]
end
end Lw

set_option Elab.async false
set_option linter.all false
set_option autoImplicit false
set_option maxRecDepth 100000
set_option maxHeartbeats 4000000
namespace Lw
open PySem PySem.Spec PyProof.Rows L2 Fn

theorem sumA_ints (p : List Int) (st : Sto) : gSumA st [intsT p] = some (.int p.sum) := gSumA_tup p st
section
variable {us : List Du} {st : Sto} {x : Int}
theorem bwin_eq (m : Bool) (k z : Str) (n s : Int) (p : List Int) (hn : 1 ≤ n) (hp : p.length ≤ 1000) (h1 : 0 ≤ x) (h2 : x ≤ us.length) : d_behind_window [dsD us, (Ru.win m k z n s).d, intsT p, .int x] st = .ok (osD (stepS [] us 0 x (.win m k z n s) (.l p))) st := by
  have v : ∀ st, d_measure_of [dsD us, msD k z, .int x] st = .ok (.int (va us k z x)) st := fun st => by
    have := mof_eq (us := us) (k := k) (z := z) (st := st) h1 h2
    exact this
  have sh : ∀ st, d_shifted [intsT p, .int (va us k z x), .int (n - 1)] st = .ok (intsT (lastL (p ++ [va us k z x]) (n - 1))) st := fun st => shifted_eq p _ (n - 1) (by omega) hp
  have mu : muD (intsT (lastL (p ++ [va us k z x]) (n - 1))) = false := rfl
  have e0 : (p ++ [va us k z x]).sum = p.sum + va us k z x := by simp
  have e1 : ((p.length : Int) + 1 = n) = ((p.length : Int) = n - 1) := by apply propext; omega
  cases m
  · by_cases c1 : (p.length : Int) = n - 1 <;> by_cases c2 : p.sum + va us k z x < s <;>
      simp (decide := true) [d_behind_window, b_behind_window, Ru.d, stepS, osD, Sg.d, v, sh, sumA_ints, e0, e1, c1, c2, List.replicate, exitD_d mu]
  · by_cases c2 : s < p.sum + va us k z x <;>
      simp (decide := true) [d_behind_window, b_behind_window, Ru.d, stepS, osD, Sg.d, v, sh, sumA_ints, e0, c2, List.replicate, exitD_d mu]
theorem gIx_cal {cal : List Str} {ph : Nat} (h : ph < cal.length) (st : Sto) : gIx st (strsD cal) (.int ph) = some (.str ((cal[ph]?).getD "")) := by
  have at' : L2.atI (cal.map D.str) (ph : Int) = some (.str ((cal[ph]?).getD "")) := by
    rw [atI_map]
    unfold L2.atI L2.ixN
    rw [if_pos (by omega), if_pos (by omega)]
    have : (ph : Int).toNat = ph := by omega
    simp [this, List.getElem?_eq_getElem h]
  simp [strsD, at']
theorem bkin_eq (cal : List Str) (ph : Nat) (y : Str) (n c : Int) (p : List Int) (hph : ph < cal.length) (hn : 1 ≤ n) (hp : p.length ≤ 1000) : d_behind_kinds [strsD cal, (Ru.kin y n c).d, intsT p, .int ph, .int x] st = .ok (osD (stepS cal us ph x (.kin y n c) (.l p))) st := by
  have g := fun st => gIx_cal hph st
  have ce : cal[ph]? = some ((cal[ph]?).getD "") := by rw [List.getElem?_eq_getElem hph]; rfl
  have sh : ∀ st (e : Int), d_shifted [intsT p, .int e, .int (n - 1)] st = .ok (intsT (lastL (p ++ [e]) (n - 1))) st := fun st e => shifted_eq p _ (n - 1) (by omega) hp
  have mu : ∀ e : Int, muD (intsT (lastL (p ++ [e]) (n - 1))) = false := fun _ => rfl
  have gi : ∀ st (b : Bool), gInt st [.bl b] = some (.int (if b then 1 else 0)) := fun st b => rfl
  have e1 : ((p.length : Int) + 1 = n) = ((p.length : Int) = n - 1) := by apply propext; omega
  have e0 : ∀ e : Int, (p ++ [e]).sum = p.sum + e := fun e => by simp
  by_cases hy : (cal[ph]?).getD "" = y
  · have hy' : cal[ph]? = some y := by rw [ce, hy]
    by_cases hx : x = 0
    · subst hx
      by_cases c1 : (p.length : Int) = n - 1 <;> by_cases c2 : p.sum + 1 < c <;>
        simp (decide := true) [d_behind_kinds, b_behind_kinds, Ru.d, stepS, osD, Sg.d, g, gi, sh, sumA_ints, e0, e1, c1, c2, hy, hy', List.replicate, exitD_d (mu _)]
    · by_cases c1 : (p.length : Int) = n - 1 <;> by_cases c2 : p.sum < c <;>
        simp (decide := true) [d_behind_kinds, b_behind_kinds, Ru.d, stepS, osD, Sg.d, g, gi, sh, sumA_ints, e0, e1, c1, c2, hy, hy', hx, List.replicate, exitD_d (mu _)]
  · have hy' : ¬ cal[ph]? = some y := by rw [ce]; simpa using hy
    have mu0 : muD (intsT p) = false := rfl
    simp (decide := true) [d_behind_kinds, b_behind_kinds, Ru.d, stepS, osD, Sg.d, g, hy, hy', List.replicate, exitD_d mu0]
end
/-! sets -/
theorem toVs_int (xs : List Int) : toVs (xs.map .int) = some (xs.map .int) := by
  induction xs with
  | nil => rfl
  | cons x xs ih => simp [toVs, toV, ih]
theorem inV_int (x : Int) (xs : List Int) : inV (.int x) (xs.map .int) = xs.contains x := by
  rw [Bool.eq_iff_iff]
  simp [inV, List.any_map, Function.comp_def, eqV]
theorem gIn_ints (x : Int) (xs : List Int) (st : Sto) : gIn st (.int x) (intsT xs) = some (xs.contains x) := by
  simp [gIn, gInS, gInQ, intsT, toVs_int, toV, inV_int]
theorem gIn_intsL (x : Int) (xs : List Int) (st : Sto) : gIn st (.int x) (.lst (xs.map .int)) = some (xs.contains x) := by
  simp [gIn, gInS, gInQ, toVs_int, toV, inV_int]
theorem gIx_tab {α : Type} (f : α → D) (xs : List α) (i : Nat) (h : i < xs.length) (st : Sto) : gIx st (.tup (xs.map f)) (.int i) = some (f xs[i]) := by
  show L2.atI _ _ = _
  rw [atI_map]
  unfold L2.atI L2.ixN
  rw [if_pos (by omega), if_pos (by omega)]
  have : (i : Int).toNat = i := by omega
  simp [this, List.getElem?_eq_getElem h]
/-- a comprehension with a test, without draws -/
theorem lcD_sel {α : Type} {h g : α → D} {p : α → Bool} {t : Tg} {tt : TF} {fe : EF} {vs : List Nat} {ρ : Rho} {n : Nat} {xs : List α} (hb : ∀ x ∈ xs, ∀ s, ∃ ρ1, gT s t (h x) (wipeR ρ vs) = some ρ1 ∧ tt ρ1 s = .ok (p x) s ∧ (p x = true → fe ρ1 s = .ok (g x) s)) (hm : ∀ x ∈ xs, muD (g x) = false) :
    ∀ (k : Nat) (acc : List D) (s : Sto), acc.length ≤ k → s.length = n → lcD t tt fe vs n k (xs.map h) ρ (s ++ [.ml acc]) = .ok () (s ++ [.ml (acc ++ (xs.filter p).map g)]) := by
  induction xs with
  | nil => intro k acc s _ _; simp [lcD]
  | cons x xs ih =>
    intro k acc s hk hn
    obtain ⟨ρ1, e1, e2, e3⟩ := hb x List.mem_cons_self (s ++ [.ml acc])
    have rest := ih (fun y hy => hb y (List.mem_cons_of_mem _ hy)) (fun y hy => hm y (List.mem_cons_of_mem _ hy))
    cases hp : p x with
    | false =>
      simp only [List.map_cons, lcD, e1, e2, hp, Bool.false_eq_true, if_false, List.filter_cons]
      exact rest (k + 1) acc s (by omega) hn
    | true =>
      have hget : (s ++ [MO.ml acc])[n]? = some (.ml acc) := by rw [← hn]; simp
      have hset : (s ++ [MO.ml acc]).set n (.ml (acc ++ [g x])) = s ++ [.ml (acc ++ [g x])] := by
        rw [← hn, List.set_append_right _ _ (Nat.le_refl _)]; simp
      simp only [List.map_cons, lcD, e1, e2, hp, if_true, e3 hp, hget, hm x List.mem_cons_self, true_and, hk, hset, List.filter_cons]
      rw [rest (k + 1) (acc ++ [g x]) s (by simp; omega) hn]
      simp
theorem lc_sel {α : Type} {h g : α → D} {p : α → Bool} {xs : List α} {fi : IF} {t : Tg} {tt : TF} {fe : EF} {vs : List Nat} {ρ : Rho} {st : Sto} (hfi : fi ρ st = .ok (xs.map h) st) (hb : ∀ x ∈ xs, ∀ s, ∃ ρ1, gT s t (h x) (wipeR ρ vs) = some ρ1 ∧ tt ρ1 s = .ok (p x) s ∧ (p x = true → fe ρ1 s = .ok (g x) s)) (hm : ∀ x ∈ xs, muD (g x) = false) :
    eLc false fi t tt fe vs ρ st = .ok (.lst ((xs.filter p).map g)) st := by
  simp only [eLc, hfi, R.bind]
  rw [lcD_sel hb hm 0 [] st (Nat.le_refl _) rfl]
  simp [lcEnd, R.bind]
theorem bnot_eq {us : List Du} {st : Sto} {x : Int} (ss : List (List Int)) (p : List Int) (hs : 1 ≤ ss.length) (hl : p.length ≤ 1000) (hp : ∀ a ∈ p, 0 ≤ a ∧ a < ss.length) : d_behind_not [(Ru.nt ss).d, intsT p, .int x] st = .ok (osD (stepS [] us 0 x (.nt ss) (.l p))) st := by
  have hp0 : ∀ a ∈ (0 : Int) :: p, 0 ≤ a ∧ a < ss.length := fun a ha => by
    rcases List.mem_cons.mp ha with rfl | h
    · omega
    · exact hp a h
  have c : ∀ o4 o5 st, c1_behind_not [some (Ru.nt ss).d, some (intsT p), some (.int x), some (.tup (ss.map intsT)), o4, o5] st = .ok (.lst ((((0 :: p).filter fun a => ((ss[a.toNat]?).getD []).contains x).map (· + 1)).map .int)) st := fun o4 o5 st => by
    have q := lc_sel (h := D.int) (g := fun a => .int (a + 1)) (p := fun a => ((ss[a.toNat]?).getD []).contains x) (xs := 0 :: p) (fi := iSeq (eTup (aCons (eC (.int 0)) (aStar (eVar 1) aNil)))) (t := .nm 5) (tt := tCm gIn (eVar 2) (eOp2 gIx (eVar 3) (eVar 5))) (fe := eOp2 gAdd (eVar 5) (eC (.int 1))) (vs := [5])
      (ρ := [some (Ru.nt ss).d, some (intsT p), some (.int x), some (.tup (ss.map intsT)), o4, o5]) (st := st) (by
        have sq : ∀ st, seqD st (intsT p) = some (p.map .int) := fun st => rfl
        have nm : noMu (p.map D.int) = true := noMu_map D.int (fun _ => rfl) p
        have hl : p.length + 1 ≤ sizeLine := by rw [sizeLine_eq]; omega
        simp [sq, nm, hl])
      (fun a ha s => by
        obtain ⟨h0, h1⟩ := hp0 a ha
        have e : a = ((a.toNat : Nat) : Int) := by omega
        have hi : a.toNat < ss.length := by omega
        have gx := gIx_tab intsT ss a.toNat hi
        rw [← e] at gx
        refine ⟨_, by simp [wipeR]; rfl, ?_, fun _ => by simp⟩
        simp only [tCm_q, eOp2_q, eVar_q, List.getElem?_cons_succ, List.getElem?_cons_zero, R.bind, gx, gIn_ints]
        rw [List.getElem?_eq_getElem hi]; rfl) fun _ _ => rfl
    rw [List.map_map]
    exact q
  have mu : ∀ l : List Int, muD (intsT l) = false := fun _ => rfl
  have gt : ∀ (l : List Int) st, gTuple st [.lst (l.map .int)] = some (intsT l) := fun l st => rfl
  have g1 : ∀ st, gIx st (Ru.nt ss).d (.int 1) = some (.tup (ss.map intsT)) := fun st => rfl
  simp only [stepS]
  generalize (((0 :: p).filter fun a => ((ss[a.toNat]?).getD []).contains x).map (· + 1)) = fo at c ⊢
  by_cases hc : (ss.length : Int) ∈ fo <;>
    simp [d_behind_not, b_behind_not, g1, c, gt, gIn_intsL, hc, List.replicate, exitD_d (mu _), osD, Sg.d]
end Lw

set_option Elab.async false
set_option linter.all false
set_option autoImplicit false
set_option maxRecDepth 100000
set_option maxHeartbeats 4000000
namespace Lw
open PySem PySem.Spec PyProof.Rows L2 Fn
/-! ### the step of any rule: the program's, the law's -/
/-- a standing of the rule's form -/
def okS : Ru → Sg → Prop
  | .rest _, .n s => -1000 ≤ s ∧ s ≤ 1000
  | .win _ _ _ _ _, .l p => p.length ≤ 13 ∧ ∀ v ∈ p, -1000 ≤ v ∧ v ≤ 1000
  | .row _ _, .n s => -1000 ≤ s ∧ s ≤ 1000
  | .beh _ _ _, .l [c, d] => (-1000 ≤ c ∧ c ≤ 1000) ∧ -1000 ≤ d ∧ d ≤ 1000
  | .kin _ _ _, .l p => p.length ≤ 13 ∧ ∀ v ∈ p, -1000 ≤ v ∧ v ≤ 1000
  | .acc _ _ _, .n s => -1000 ≤ s ∧ s ≤ 1000
  | .nt ss, .l p => p.length ≤ 6 ∧ ∀ a ∈ p, 0 ≤ a ∧ a < ss.length
  | _, _ => False
theorem b2_iff {a x c : Int} : b2 a x c = true ↔ a ≤ x ∧ x ≤ c := by simp [b2]
theorem fits_win {m : Bool} {k z : Str} {n s : Int} {cal us} (h : (Ru.win m k z n s).fits cal us = true) : isMs k z = true ∧ (1 ≤ n ∧ n ≤ 14) ∧ 0 ≤ s ∧ s ≤ 400 := by
  simp only [Ru.fits, Bool.and_eq_true, b2_iff] at h; exact h
theorem fits_kin {y : Str} {n c : Int} {cal us} (h : (Ru.kin y n c).fits cal us = true) : inL y cal = true ∧ (1 ≤ n ∧ n ≤ 14) ∧ 0 ≤ c ∧ c ≤ n := by
  simp only [Ru.fits, Bool.and_eq_true, b2_iff] at h; exact h
theorem fits_row {z : Str} {n : Int} {cal us} (h : (Ru.row z n).fits cal us = true) : isSo z = true ∧ 0 ≤ n ∧ n ≤ 14 := by
  simp only [Ru.fits, Bool.and_eq_true, b2_iff] at h; exact h
theorem fits_beh {z : Str} {n m : Int} {cal us} (h : (Ru.beh z n m).fits cal us = true) : isSo z = true ∧ (1 ≤ n ∧ n ≤ 14) ∧ 1 ≤ m ∧ m ≤ 14 := by
  simp only [Ru.fits, Bool.and_eq_true, b2_iff] at h; exact h
theorem fits_acc {lo hi : Int} {pl : List Int} {cal us} (h : (Ru.acc lo hi pl).fits cal us = true) : (-400 ≤ lo ∧ lo ≤ 0 ∧ 0 ≤ hi ∧ hi ≤ 400) ∧ pl.length = cal.length ∧ ∀ e ∈ pl, 0 ≤ e ∧ e ≤ 24 := by
  simp only [Ru.fits, Bool.and_eq_true, decide_eq_true_eq, List.all_eq_true, b2_iff] at h; exact ⟨h.1.1, h.1.2, h.2⟩
theorem fits_nt {ss : List (List Int)} {cal us} (h : (Ru.nt ss).fits cal us = true) : 1 ≤ ss.length ∧ ss.length ≤ 6 := by
  simp only [Ru.fits, Bool.and_eq_true, b2_iff] at h; omega
theorem in2 (x a b : Str) (st : Sto) : gIn st (.str x) (.tup [.str a, .str b]) = some (decide (x = a) || decide (x = b)) := gIn2 x a b st
theorem in2L (x a b : Str) (st : Sto) : gIn st (.str x) (.lst [.str a, .str b]) = some (decide (x = a) || decide (x = b)) := gIn2 x a b st
theorem in3L (x a b c : Str) (st : Sto) : gIn st (.str x) (.lst [.str a, .str b, .str c]) = some (decide (x = a) || (decide (x = b) || decide (x = c))) := by
  have := gIn_strs x [a, b, c] st
  have e : gIn st (.str x) (.lst [.str a, .str b, .str c]) = gIn st (.str x) (.tup [.str a, .str b, .str c]) := rfl
  rw [e]
  refine this.trans ?_
  have e2 : ∀ y : Str, (y == x) = decide (x = y) := fun y => by rw [Bool.beq_eq_decide_eq]; exact decide_eq_decide.mpr ⟨Eq.symm, Eq.symm⟩
  simp only [inL, List.any_cons, List.any_nil, Bool.or_false, e2]
section
variable {cal : List Str} {us : List Du} {ph : Nat} {x : Int} {st : Sto}
theorem stood_eq {r : Ru} {s : Sg} (hr : r.fits cal us = true) (hs : okS r s) (hph : ph < cal.length) (h1 : 0 ≤ x) (h2 : x ≤ us.length) :
    d_stood [strsD cal, dsD us, r.d, s.d, .int ph, .int x] st = .ok (osD (stepS cal us ph x r s)) st := by
  have mu := osD_mu (stepS cal us ph x r s)
  cases r with
  | rest n => cases s with
    | n i =>
      have q : ∀ st, d_behind_rest [dsD us, .tup [.str "rest", .int n], .int i, .int x] st = .ok (osD (stepS cal us ph x (.rest n) (.n i))) st := fun st => brest_eq n i h1 h2
      simp (decide := true) [d_stood, b_stood, Ru.d, Sg.d, in2, q, exitD_d mu, List.replicate]
    | l p => exact hs.elim
  | win m k z n c => cases s with
    | n i => exact hs.elim
    | l p =>
      obtain ⟨f1, f2, f3⟩ := fits_win hr
      have q : ∀ st, d_behind_window [dsD us, (Ru.win m k z n c).d, intsT p, .int x] st = .ok (osD (stepS cal us ph x (.win m k z n c) (.l p))) st := fun st => bwin_eq m k z n c p f2.1 (by have := hs.1; omega) h1 h2
      cases m <;> simp only [Ru.d] at q <;> simp (decide := true) [d_stood, b_stood, Ru.d, Sg.d, in2, q, exitD_d mu, List.replicate]
  | row z n => cases s with
    | n i =>
      have q : ∀ st, d_behind_row [dsD us, .tup [.str "row", .str z, .int n], .int i, .int x] st = .ok (osD (stepS cal us ph x (.row z n) (.n i))) st := fun st => brow_eq z n i h1 h2
      simp (decide := true) [d_stood, b_stood, Ru.d, Sg.d, in2, q, exitD_d mu, List.replicate]
    | l p => exact hs.elim
  | beh z n m => match s, hs with
    | .l [c, d], hs =>
      have q : ∀ st, d_behind_free [dsD us, .tup [.str "behind", .str z, .int n, .int m], intsT [c, d], .int x] st = .ok (osD (stepS cal us ph x (.beh z n m) (.l [c, d]))) st := fun st => bfree_eq z n m c d h1 h2
      simp (decide := true) [d_stood, b_stood, Ru.d, Sg.d, in2, q, exitD_d mu, List.replicate]
  | kin y n c => cases s with
    | n i => exact hs.elim
    | l p =>
      obtain ⟨f1, f2, f3⟩ := fits_kin hr
      have q : ∀ st, d_behind_kinds [strsD cal, .tup [.str "kinds", .str y, .int n, .int c], intsT p, .int ph, .int x] st = .ok (osD (stepS cal us ph x (.kin y n c) (.l p))) st := fun st => bkin_eq cal ph y n c p hph f2.1 (by have := hs.1; omega)
      simp (decide := true) [d_stood, b_stood, Ru.d, Sg.d, in2, q, exitD_d mu, List.replicate]
  | acc lo hi pl => cases s with
    | n i =>
      have f := fits_acc hr
      have q : ∀ st, d_behind_account [dsD us, .tup [.str "account", .int lo, .int hi, intsT pl], .int i, .int ph, .int x] st = .ok (osD (stepS cal us ph x (.acc lo hi pl) (.n i))) st := fun st => bacc_eq lo hi pl i ph (by rw [f.2.1]; exact hph) h1 h2
      simp (decide := true) [d_stood, b_stood, Ru.d, Sg.d, in2, q, exitD_d mu, List.replicate]
    | l p => exact hs.elim
  | nt ss => cases s with
    | n i => exact hs.elim
    | l p =>
      have f := fits_nt hr
      have q : ∀ st, d_behind_not [.tup [.str "not", .tup (ss.map intsT)], intsT p, .int x] st = .ok (osD (stepS cal us ph x (.nt ss) (.l p))) st := fun st => bnot_eq (us := us) ss p f.1 (by have := hs.1; omega) hs.2
      simp (decide := true) [d_stood, b_stood, Ru.d, Sg.d, in2, q, exitD_d mu, List.replicate]
end
end Lw

set_option Elab.async false
set_option linter.all false
set_option autoImplicit false
set_option maxRecDepth 100000
set_option maxHeartbeats 4000000
namespace Lw
open PySem PySem.Spec PyProof.Rows L2 Fn
/-! ### the law's step -/
theorem gMax2_int {i j : Int} {st : Sto} : gMax2 st [.int i, .int j] = some (.int (if i < j then j else i)) := rfl
section
variable {cal : List Str} {us : List Du} {xs : List Xr} {ph : Nat} {x : Int} {st : Sto}
theorem llast_eq (p : List Int) (m : Int) (h0 : 0 ≤ m) : d__law_last [intsT p, .int m] st = .ok (intsT (lastL p m)) st := by
  have e : lastL p m = p.drop (if (0 : Int) < (p.length : Int) - m then (p.length : Int) - m else 0).toNat := by
    unfold lastL
    congr 1
    split <;> omega
  have c := cut_from (i := if (0 : Int) < (p.length : Int) - m then (p.length : Int) - m else 0) (p.map .int) (by split <;> omega) (by simp; split <;> omega)
  have sl : ∀ st i, sliceD st (intsT p) (some i) none = some (.tup (Fn.cutD (p.map .int) (some i) none)) := fun st i => rfl
  simp only [d__law_last, b__law_last, denOf_q, sRet_q, eSl_q, eCB_q, aCons_q, aNil_q, eC_q, eVar_q, eOp2_q, pSome_q, pNone_q, List.map_cons, List.map_nil, List.length_cons, List.length_nil, List.replicate, List.cons_append, List.nil_append, List.getElem?_cons_zero, List.getElem?_cons_succ, R.bind, gLen_ints, gSub_int, gMax2_int, sl, c, bindS_ok, endR_rt, exitD_tup, List.take_length]
  rw [e, ← List.map_drop]; rfl
theorem gLen_tupI (p : List Int) (e : Int) (st : Sto) : gLen st [.tup (p.map .int ++ [.int e])] = some (.int ((p ++ [e]).length : Int)) := by simp
theorem gAdd_ints (p q : List Int) (h : p.length + q.length ≤ 16777216) (st : Sto) : gAdd st (intsT p) (intsT q) = some (intsT (p ++ q)) := by
  have h' : p.length + q.length ≤ sizeLine := by rw [sizeLine_eq]; exact h
  simp [intsT, h']
theorem intsT_one (e : Int) : D.tup [.int e] = intsT [e] := rfl
theorem lwin_eq (m : Bool) (k z : Str) (n s : Int) (p : List Int) (hk : k ∈ kindsL) (hn : 1 ≤ n) (hp : p.length ≤ 1000) (h1 : 0 ≤ x) (h2 : x ≤ us.length) : d__law_window [bkD cal us xs, (Ru.win m k z n s).d, intsT p, .int ph, .int x] st = .ok (osD (stepS cal us ph x (.win m k z n s) (.l p))) st := by
  have v : ∀ st, d__law_value [dsD us, msD k z, .int x] st = .ok (.int (va us k z x)) st := fun st => value_eq h1 h2 hk
  have la : ∀ st, d__law_last [intsT (p ++ [va us k z x]), .int (n - 1)] st = .ok (intsT (lastL (p ++ [va us k z x]) (n - 1))) st := fun st => llast_eq _ _ (by omega)
  have mu : muD (intsT (lastL (p ++ [va us k z x]) (n - 1))) = false := rfl
  have ad : ∀ st, gAdd st (intsT p) (intsT [va us k z x]) = some (intsT (p ++ [va us k z x])) := fun st => gAdd_ints _ _ (by simp; omega) st
  have sz : (1 : Nat) ≤ sizeLine := by rw [sizeLine_eq]; omega
  have e1 : ((p.length : Int) + 1 = n) = ((p.length : Int) = n - 1) := by apply propext; omega
  cases m
  · by_cases c1 : (p.length : Int) = n - 1 <;> by_cases c2 : p.sum + va us k z x < s <;>
      simp (decide := true) [d__law_window, b__law_window, Ru.d, bkD, stepS, osD, Sg.d, v, la, intsT_one, ad, sumA_ints, e1, c1, c2, List.replicate, exitD_d mu, sz]
  · by_cases c2 : s < p.sum + va us k z x <;>
      simp (decide := true) [d__law_window, b__law_window, Ru.d, bkD, stepS, osD, Sg.d, v, la, intsT_one, ad, sumA_ints, c2, List.replicate, exitD_d mu, sz]
theorem lkin_eq (y : Str) (n c : Int) (p : List Int) (hph : ph < cal.length) (hn : 1 ≤ n) (hp : p.length ≤ 1000) : d__law_window [bkD cal us xs, (Ru.kin y n c).d, intsT p, .int ph, .int x] st = .ok (osD (stepS cal us ph x (.kin y n c) (.l p))) st := by
  have g := fun st => gIx_cal hph st
  have ce : cal[ph]? = some ((cal[ph]?).getD "") := by rw [List.getElem?_eq_getElem hph]; rfl
  have la : ∀ st (e : Int), d__law_last [intsT (p ++ [e]), .int (n - 1)] st = .ok (intsT (lastL (p ++ [e]) (n - 1))) st := fun st e => llast_eq _ _ (by omega)
  have mu : ∀ e : Int, muD (intsT (lastL (p ++ [e]) (n - 1))) = false := fun _ => rfl
  have gi : ∀ st (b : Bool), gInt st [.bl b] = some (.int (if b then 1 else 0)) := fun st b => rfl
  have ad : ∀ st (e : Int), gAdd st (intsT p) (intsT [e]) = some (intsT (p ++ [e])) := fun st e => gAdd_ints _ _ (by simp; omega) st
  have sz : (1 : Nat) ≤ sizeLine := by rw [sizeLine_eq]; omega
  have e1 : ((p.length : Int) + 1 = n) = ((p.length : Int) = n - 1) := by apply propext; omega
  by_cases hy : (cal[ph]?).getD "" = y
  · have hy' : cal[ph]? = some y := by rw [ce, hy]
    by_cases hx : x = 0
    · subst hx
      by_cases c1 : (p.length : Int) = n - 1 <;> by_cases c2 : p.sum + 1 < c <;>
        simp (decide := true) [d__law_window, b__law_window, Ru.d, bkD, stepS, osD, Sg.d, g, gi, la, intsT_one, ad, sumA_ints, e1, c1, c2, hy, hy', List.replicate, exitD_d (mu _), sz]
    · by_cases c1 : (p.length : Int) = n - 1 <;> by_cases c2 : p.sum < c <;>
        simp (decide := true) [d__law_window, b__law_window, Ru.d, bkD, stepS, osD, Sg.d, g, gi, la, intsT_one, ad, sumA_ints, e1, c1, c2, hy, hy', hx, List.replicate, exitD_d (mu _), sz]
  · have hy' : ¬ cal[ph]? = some y := by rw [ce]; simpa using hy
    have mu0 : muD (intsT p) = false := rfl
    simp (decide := true) [d__law_window, b__law_window, Ru.d, bkD, stepS, osD, Sg.d, g, hy, hy', List.replicate, exitD_d mu0]
theorem lfree_eq (z : Str) (n m c d : Int) (h1 : 0 ≤ x) (h2 : x ≤ us.length) : d__law_free [dsD us, (Ru.beh z n m).d, intsT [c, d], .int x] st = .ok (osD (stepS cal us ph x (.beh z n m) (.l [c, d]))) st := by
  have hof : ∀ st, d__law_has [dsD us, .int x, .str z] st = .ok (.bl (isOf us x z)) st := fun st => has_eq h1 h2 st
  rcases Decidable.em (x = 0) with rfl | hx
  · by_cases hd : 0 < d <;> cases hz : isOf us 0 z <;> by_cases h : c < n <;> rw [hz] at hof <;>
      simp [d__law_free, b__law_free, Ru.d, stepS, osD, Sg.d, hof, hz, h, hd, intsT, List.replicate, sizeLine_eq, minI]
  · by_cases hd : 0 < d <;> cases hz : isOf us x z <;> by_cases h : c < n <;> rw [hz] at hof <;>
      simp [d__law_free, b__law_free, Ru.d, stepS, osD, Sg.d, hof, hz, h, hd, hx, intsT, List.replicate, sizeLine_eq, minI]
theorem lnot_eq (ss : List (List Int)) (p : List Int) (hs : 1 ≤ ss.length) (hl : p.length ≤ 1000) (hp : ∀ a ∈ p, 0 ≤ a ∧ a < ss.length) : d__law_part [bkD cal us xs, (Ru.nt ss).d, intsT p, .int ph, .int x] st = .ok (osD (stepS cal us ph x (.nt ss) (.l p))) st := by
  have hp0 : ∀ a ∈ (0 : Int) :: p, 0 ≤ a ∧ a < ss.length := fun a ha => by
    rcases List.mem_cons.mp ha with rfl | h
    · omega
    · exact hp a h
  have g1 : ∀ st, gIx st (Ru.nt ss).d (.int 1) = some (.tup (ss.map intsT)) := fun st => rfl
  have g0 : ∀ st, gIx st (Ru.nt ss).d (.int 0) = some (.str "not") := fun st => rfl
  have c : ∀ o5 o6 o7 o8 o9 o10 st, c1__law_part [some (bkD cal us xs), some (Ru.nt ss).d, some (intsT p), some (.int ph), some (.int x), o5, o6, o7, o8, o9, o10] st = .ok (.lst ((((0 :: p).filter fun a => ((ss[a.toNat]?).getD []).contains x).map (· + 1)).map .int)) st := fun o5 o6 o7 o8 o9 o10 st => by
    have q := lc_sel (h := D.int) (g := fun a => .int (a + 1)) (p := fun a => ((ss[a.toNat]?).getD []).contains x) (xs := 0 :: p) (fi := iSeq (eOp2 gAdd (eTup (aCons (eC (.int 0)) aNil)) (eVar 2))) (t := .nm 10) (tt := tCm gIn (eVar 4) (eOp2 gIx (eOp2 gIx (eVar 1) (eC (.int 1))) (eVar 10))) (fe := eOp2 gAdd (eVar 10) (eC (.int 1))) (vs := [10])
      (ρ := [some (bkD cal us xs), some (Ru.nt ss).d, some (intsT p), some (.int ph), some (.int x), o5, o6, o7, o8, o9, o10]) (st := st) (by
        have ad : ∀ st, gAdd st (intsT [0]) (intsT p) = some (intsT (0 :: p)) := fun st => gAdd_ints _ _ (by simp; omega) st
        have sz : (1 : Nat) ≤ sizeLine := by rw [sizeLine_eq]; omega
        have it : ∀ st, itemsD st (intsT (0 :: p)) = some ((0 :: p).map .int, st) := fun st => rfl
        simp only [iSeq_q, eOp2_q, eTup_q, aCons_q, aNil_q, eC_q, eVar_q, R.bind, noMu_cons, noMu_nil, muD_int, List.getElem?_cons_zero, List.getElem?_cons_succ]
        simp [intsT_one, ad, it, sz])
      (fun a ha s => by
        obtain ⟨h0, h1⟩ := hp0 a ha
        have e : a = ((a.toNat : Nat) : Int) := by omega
        have hi : a.toNat < ss.length := by omega
        have gx := gIx_tab intsT ss a.toNat hi
        rw [← e] at gx
        refine ⟨_, by simp [wipeR]; rfl, ?_, fun _ => by simp⟩
        simp only [tCm_q, eOp2_q, eVar_q, eC_q, List.getElem?_cons_succ, List.getElem?_cons_zero, R.bind, g1, gx, gIn_ints]
        rw [List.getElem?_eq_getElem hi]; rfl) fun _ _ => rfl
    rw [List.map_map]
    exact q
  have mu : ∀ l : List Int, muD (intsT l) = false := fun _ => rfl
  have gt : ∀ (l : List Int) st, gTuple st [.lst (l.map .int)] = some (intsT l) := fun l st => rfl
  simp only [stepS]
  generalize (((0 :: p).filter fun a => ((ss[a.toNat]?).getD []).contains x).map (· + 1)) = fo at c ⊢
  have b1 : ∀ st, gIx st (bkD cal us xs) (.int 1) = some (dsD us) := fun st => rfl
  by_cases hc : (ss.length : Int) ∈ fo <;>
    simp (decide := true) [d__law_part, b__law_part, g1, g0, b1, in3L, c, gt, gIn_ints, hc, List.replicate, exitD_d (mu _), osD, Sg.d]
theorem isMs_k {k z : Str} (h : isMs k z = true) : k ∈ kindsL := by
  simp [isMs] at h
  rcases h.1 with rfl | rfl <;> decide
theorem part_eq {r : Ru} {s : Sg} (hr : r.fits cal us = true) (hs : okS r s) (hph : ph < cal.length) (h1 : 0 ≤ x) (h2 : x ≤ us.length) :
    d__law_part [bkD cal us xs, r.d, s.d, .int ph, .int x] st = .ok (osD (stepS cal us ph x r s)) st := by
  have mu := osD_mu (stepS cal us ph x r s)
  have b1 : ∀ st, gIx st (bkD cal us xs) (.int 1) = some (dsD us) := fun st => rfl
  cases r with
  | rest n => cases s with
    | n i =>
      by_cases hx : x = 0
      · subst hx
        simp (decide := true) [d__law_part, b__law_part, Ru.d, Sg.d, b1, stepS, osD, minI, List.replicate]
      · have da := du_at (us := us) (x := x) (by omega) h2
        have gd : ∀ st, gIx st (dsD us) (.int (x - 1)) = some (du us x).d := fun st => by simp [dsD, da]
        have g0 : ∀ st, gIx st (du us x).d (.int 0) = some (.int (du us x).b) := fun st => rfl
        have g1 : ∀ st, gIx st (du us x).d (.int 1) = some (.int (du us x).l) := fun st => rfl
        by_cases h : n ≤ i + (du us x).b <;>
          simp (decide := true) [d__law_part, b__law_part, Ru.d, Sg.d, b1, stepS, osD, minI, hx, gd, g0, g1, h, List.replicate, sPar]
    | l p => exact hs.elim
  | win m k z n c => cases s with
    | n i => exact hs.elim
    | l p =>
      obtain ⟨f1, f2, f3⟩ := fits_win hr
      have q : ∀ st, d__law_window [bkD cal us xs, (Ru.win m k z n c).d, intsT p, .int ph, .int x] st = .ok (osD (stepS cal us ph x (.win m k z n c) (.l p))) st := fun st => lwin_eq m k z n c p (isMs_k f1) f2.1 (by have := hs.1; omega) h1 h2
      cases m <;> simp only [Ru.d] at q <;> simp (decide := true) [d__law_part, b__law_part, Ru.d, Sg.d, b1, in3L, q, exitD_d mu, List.replicate]
  | row z n => cases s with
    | n i =>
      have hh : ∀ st, d__law_has [dsD us, .int x, .str z] st = .ok (.bl (isOf us x z)) st := fun st => has_eq h1 h2 st
      cases hz : isOf us x z <;> by_cases h : i < n <;> simp (decide := true) [d__law_part, b__law_part, Ru.d, Sg.d, b1, in3L, hh, hz, h, stepS, osD, List.replicate]
    | l p => exact hs.elim
  | beh z n m => match s, hs with
    | .l [c, d], hs =>
      have q : ∀ st, d__law_free [dsD us, .tup [.str "behind", .str z, .int n, .int m], intsT [c, d], .int x] st = .ok (osD (stepS cal us ph x (.beh z n m) (.l [c, d]))) st := fun st => lfree_eq z n m c d h1 h2
      simp (decide := true) [d__law_part, b__law_part, Ru.d, Sg.d, b1, in3L, q, exitD_d mu, List.replicate]
  | kin y n c => cases s with
    | n i => exact hs.elim
    | l p =>
      obtain ⟨f1, f2, f3⟩ := fits_kin hr
      have q : ∀ st, d__law_window [bkD cal us xs, .tup [.str "kinds", .str y, .int n, .int c], intsT p, .int ph, .int x] st = .ok (osD (stepS cal us ph x (.kin y n c) (.l p))) st := fun st => lkin_eq y n c p hph f2.1 (by have := hs.1; omega)
      simp (decide := true) [d__law_part, b__law_part, Ru.d, Sg.d, b1, in3L, q, exitD_d mu, List.replicate]
  | acc lo hi pl => cases s with
    | n i =>
      have f := fits_acc hr
      have hpl : ph < pl.length := by rw [f.2.1]; exact hph
      have gx : ∀ st, gIx st (intsT pl) (.int ph) = some (.int ((pl[ph]?).getD 0)) := fun st => by
        have := gIx_tab D.int pl ph hpl st
        rw [List.getElem?_eq_getElem hpl]; exact this
      have w : ∀ st, d__law_worth [dsD us, .int x] st = .ok (.int (wo us x)) st := fun st => lwo_eq h1 h2 st
      have c : ∀ (v : Int) (o0 o2 o3 o4 o5 o6 o7 o9 o10 : Option D) st, tChn gLe gLe (eOp2 gIx (eVar 1) (eC (.int 1))) (eVar 8) (eOp2 gIx (eVar 1) (eC (.int 2))) [o0, some (.tup [.str "account", .int lo, .int hi, intsT pl]), o2, o3, o4, o5, o6, o7, some (.int v), o9, o10] st = .ok (decide (lo ≤ v) && decide (v ≤ hi)) st := fun v o0 o2 o3 o4 o5 o6 o7 o9 o10 st => tChn_lele rfl rfl rfl
      by_cases h : lo ≤ i + wo us x - (pl[ph]?).getD 0 <;> by_cases h' : i + wo us x - (pl[ph]?).getD 0 ≤ hi <;>
        simp (decide := true) [d__law_part, b__law_part, Ru.d, Sg.d, b1, in3L, gx, w, c, h, h', stepS, osD, List.replicate]
    | l p => exact hs.elim
  | nt ss => cases s with
    | n i => exact hs.elim
    | l p =>
      have f := fits_nt hr
      exact lnot_eq ss p f.1 (by have := hs.1; omega) hs.2
end
end Lw

set_option Elab.async false
set_option linter.all false
set_option autoImplicit false
set_option maxRecDepth 100000
set_option maxHeartbeats 4000000
namespace Lw
open PySem PySem.Spec PyProof.Rows L2 Fn
/-! ### the law's look at a roster, day by day -/
def ev (us : List Du) (x : Int) : Option (Int × Int) := if x = 0 then none else some ((du us x).b, (du us x).l)
/-- the numbers are there -/
def okR (us : List Du) (xs : List Int) : Prop := ∀ x ∈ xs, 0 ≤ x ∧ x ≤ us.length
def oint : Option Int → D
  | none => .non
  | some a => .int a
section
variable {cal : List Str} {us : List Du} {st : Sto}
theorem gIx_ints (xs : List Int) (i : Nat) (h : i < xs.length) (st : Sto) : gIx st (intsT xs) (.int i) = some (.int ((xs[i]?).getD 0)) := by
  rw [List.getElem?_eq_getElem h]; exact gIx_at D.int xs i h st
theorem restK_fold (n : Int) (xs : List Int) : ∀ (k : Nat) (a : Option Int), (restK n k a ((xs.drop k).map (ev us)) = true → ∃ a', foldO (fun (i : Nat) (a : Option Int) => match ev us ((xs[i]?).getD 0) with
    | none => some a
    | some (b, l) => if farK n (24 * i + b) a = true then some (some (24 * i + b + l)) else none) (List.range' k (xs.length - k)) a = some a') ∧ (restK n k a ((xs.drop k).map (ev us)) = false → foldO (fun (i : Nat) (a : Option Int) => match ev us ((xs[i]?).getD 0) with
    | none => some a
    | some (b, l) => if farK n (24 * i + b) a = true then some (some (24 * i + b + l)) else none) (List.range' k (xs.length - k)) a = none) := by
  intro k
  generalize hm : xs.length - k = m
  induction m generalizing k with
  | zero =>
    intro a
    have : xs.drop k = [] := List.drop_of_length_le (by omega)
    rw [this]
    exact ⟨fun _ => ⟨a, rfl⟩, fun h => by simp [restK] at h⟩
  | succ m ih =>
    intro a
    have hk : k < xs.length := by omega
    have e : xs.drop k = xs[k] :: xs.drop (k + 1) := List.drop_eq_getElem_cons hk
    have ek : (xs[k]?).getD 0 = xs[k] := by rw [List.getElem?_eq_getElem hk]; rfl
    have cs : ((k + 1 : Nat) : Int) = (k : Int) + 1 := by omega
    rw [List.range'_succ, e]
    simp only [foldO, List.map_cons, ek]
    cases q : ev us xs[k] with
    | none =>
      have := ih (k + 1) (by omega) a
      rw [cs] at this
      simpa only [restK] using this
    | some p =>
      obtain ⟨b, l⟩ := p
      have := ih (k + 1) (by omega) (some (24 * k + b + l))
      rw [cs] at this
      simp only [restK]
      cases hf : farK n (24 * k + b) a with
      | false => simp
      | true => simpa using this
end
end Lw

set_option Elab.async false
set_option linter.all false
set_option autoImplicit false
set_option maxRecDepth 100000
set_option maxHeartbeats 4000000
namespace Lw
open PySem PySem.Spec PyProof.Rows L2 Fn
def intsL (xs : List Int) : D := .lst (xs.map .int)
theorem sl_mid (xs : List Int) (i j : Nat) (st : Sto) : sliceD st (intsL xs) (some (i : Int)) (some (j : Int)) = some (intsL ((xs.drop i).take (j - i))) := by
  show some (D.lst (Fn.cutD _ _ _)) = _
  rw [cut_mid, ← List.map_drop, ← List.map_take]; rfl
theorem sl_midT (xs : List Int) (i j : Nat) (st : Sto) : sliceD st (intsT xs) (some (i : Int)) (some (j : Int)) = some (intsT ((xs.drop i).take (j - i))) := by
  show some (D.tup (Fn.cutD _ _ _)) = _
  rw [cut_mid, ← List.map_drop, ← List.map_take]; rfl
theorem gSumA_L (xs : List Int) (st : Sto) : gSumA st [intsL xs] = some (.int xs.sum) := gSumA_lst xs st
theorem gLen_L (xs : List Int) (st : Sto) : gLen st [intsL xs] = some (.int xs.length) := by simp [intsL]
section
variable {cal : List Str} {us : List Du} {st : Sto}
/-! accounts -/
def accK (lo hi : Int) (pl : List Int) : Nat → Int → List Int → Bool
  | _, _, [] => true
  | d, a, w :: ws => (decide (lo ≤ a + w - (pl[d % pl.length]?).getD 0) && decide (a + w - (pl[d % pl.length]?).getD 0 ≤ hi)) && accK lo hi pl (d + 1) (a + w - (pl[d % pl.length]?).getD 0) ws
def accA (pl : List Int) : Nat → Int → List Int → Int
  | _, a, [] => a
  | d, a, w :: ws => accA pl (d + 1) (a + w - (pl[d % pl.length]?).getD 0) ws
theorem accK_fold (lo hi : Int) (pl : List Int) (xs : List Int) : ∀ (m k : Nat) (a : Int), xs.length - k = m → (accK lo hi pl k a ((xs.drop k).map (wo us)) = true → ∃ a', foldO (fun (i : Nat) (a : Int) => if (decide (lo ≤ a + wo us ((xs[i]?).getD 0) - (pl[i % pl.length]?).getD 0) && decide (a + wo us ((xs[i]?).getD 0) - (pl[i % pl.length]?).getD 0 ≤ hi)) = true then some (a + wo us ((xs[i]?).getD 0) - (pl[i % pl.length]?).getD 0) else none) (List.range' k m) a = some a') ∧
    (accK lo hi pl k a ((xs.drop k).map (wo us)) = false → foldO (fun (i : Nat) (a : Int) => if (decide (lo ≤ a + wo us ((xs[i]?).getD 0) - (pl[i % pl.length]?).getD 0) && decide (a + wo us ((xs[i]?).getD 0) - (pl[i % pl.length]?).getD 0 ≤ hi)) = true then some (a + wo us ((xs[i]?).getD 0) - (pl[i % pl.length]?).getD 0) else none) (List.range' k m) a = none) := by
  intro m
  induction m with
  | zero =>
    intro k a hm
    have : xs.drop k = [] := List.drop_of_length_le (by omega)
    rw [this]
    exact ⟨fun _ => ⟨a, rfl⟩, fun h => by simp [accK] at h⟩
  | succ m ih =>
    intro k a hm
    have hk : k < xs.length := by omega
    have e : xs.drop k = xs[k] :: xs.drop (k + 1) := List.drop_eq_getElem_cons hk
    have ek : (xs[k]?).getD 0 = xs[k] := by rw [List.getElem?_eq_getElem hk]; rfl
    rw [List.range'_succ, e]
    simp only [foldO, List.map_cons, ek, accK]
    generalize a + wo us xs[k] - (pl[k % pl.length]?).getD 0 = v
    cases hc : (decide (lo ≤ v) && decide (v ≤ hi)) with
    | false => simp
    | true =>
      simp only [if_true, Bool.true_and]
      exact ih (k + 1) v (by omega)
/-! sets in a row -/
end
end Lw

set_option Elab.async false
set_option linter.all false
set_option autoImplicit false
set_option maxRecDepth 100000
set_option maxHeartbeats 4000000
namespace Lw
open PySem PySem.Spec PyProof.Rows L2 Fn
/-! rows and what is due behind them -/
def blsL (bs : List Bool) : D := .lst (bs.map .bl)
theorem sl_bls (xs : List Bool) (i j : Nat) (st : Sto) : sliceD st (blsL xs) (some (i : Int)) (some (j : Int)) = some (blsL ((xs.drop i).take (j - i))) := by
  show some (D.lst (Fn.cutD _ _ _)) = _
  rw [cut_mid, ← List.map_drop, ← List.map_take]; rfl
theorem gAll_L (bs : List Bool) (st : Sto) : gAll st [blsL bs] = some (.bl (bs.all id)) := gAll_bls bs st
theorem gAny_L (bs : List Bool) (st : Sto) : gAny st [blsL bs] = some (.bl (bs.any id)) := gAny_bls bs st
theorem gIx_bls (bs : List Bool) (i : Nat) (h : i < bs.length) (st : Sto) : gIx st (blsL bs) (.int i) = some (.bl ((bs[i]?).getD true)) := by
  rw [List.getElem?_eq_getElem h]; exact gIx_atL D.bl bs i h st
section
variable {cal : List Str} {us : List Du} {st : Sto}
end
end Lw

set_option Elab.async false
set_option linter.all false
set_option autoImplicit false
set_option maxRecDepth 100000
set_option maxHeartbeats 4000000
namespace Lw
open PySem PySem.Spec PyProof.Rows L2 Fn
/-! ### what a roster keeps -/
def kinV (cal : List Str) (y : Str) (xs : List Int) : List Int := ((List.range xs.length).filter fun d => decide ((cal[d % cal.length]?).getD "" = y)).map fun d => if (xs[d]?).getD 0 = 0 then 1 else 0
def keepsL (cal : List Str) (us : List Du) : Ru → List Int → Bool
  | .rest n, xs => restK n 0 none (xs.map (ev us))
  | .win m k z n s, xs => if m = true then winK (fun t => decide (t ≤ s)) n.toNat (List.replicate (n - 1).toNat 0 ++ xs.map (va us k z)) else winK (fun t => decide (s ≤ t)) n.toNat (xs.map (va us k z))
  | .row z n, xs => rowK n.toNat (xs.map fun x => isOf us x z)
  | .beh z n m, xs => behK n.toNat m.toNat (xs.map fun x => isOf us x z) (xs.map fun x => decide (0 < x))
  | .kin y n c, xs => winK (fun t => decide (c ≤ t)) n.toNat (kinV cal y xs)
  | .acc lo hi pl, xs => accK lo hi pl 0 0 (xs.map (wo us))
  | .nt ss, xs => setK ss xs
section
variable {cal : List Str} {us : List Du} {st : Sto}
theorem va_zero (k z : Str) : va us k z 0 = 0 := by simp [va, isOf]
theorem okR_zeros (n : Nat) (ys : List Int) (hx : okR us ys) : okR us (List.replicate n 0 ++ ys) := fun x h => by
  rcases List.mem_append.mp h with h | h
  · have := List.eq_of_mem_replicate h; subst this; omega
  · exact hx x h
end
end Lw

set_option Elab.async false
set_option linter.all false
set_option autoImplicit false
set_option maxRecDepth 100000
set_option maxHeartbeats 4000000
namespace Lw
open PySem PySem.Spec PyProof.Rows L2 Fn
/-! ### the standing of a roster, and that its step is the law's look -/
def Ru.sg : Ru → Sg
  | .rest n => .n n
  | .win m _ _ n _ => .l (if m = true then List.replicate (n - 1).toNat 0 else [])
  | .row _ _ => .n 0
  | .beh _ _ _ => .l [0, 0]
  | .kin _ _ _ => .l []
  | .acc _ _ _ => .n 0
  | .nt _ => .l []
theorem begin_sg (r : Ru) : r.begin = r.sg.d := by
  cases r with
  | win m k z n s => cases m <;> simp [Ru.begin, Ru.sg, Sg.d, intsT, zeros]
  | _ => simp [Ru.begin, Ru.sg, Sg.d, intsT]
def winV (us : List Du) (m : Bool) (k z : Str) (n : Int) (xs : List Int) : List Int := (if m = true then List.replicate (n - 1).toNat 0 else []) ++ xs.map (va us k z)
/-- s is the standing of the roster xs, which keeps the rule -/
def JS (cal : List Str) (us : List Du) (r : Ru) (xs : List Int) (s : Sg) : Prop := keepsL cal us r xs = true ∧ okS r s ∧ match r with
  | .rest n => s = .n (restS n (xs.map (ev us)))
  | .win m k z n _ => s = .l (lastN (winV us m k z n xs) (n - 1).toNat)
  | .row z n => s = .n (runM (xs.map fun x => isOf us x z)) ∧ (runM (xs.map fun x => isOf us x z) : Int) ≤ n
  | .beh z n m => ∃ c due : Nat, s = .l [(c : Int), (due : Int)] ∧ BehJ n.toNat m.toNat (xs.map fun x => isOf us x z) (xs.map fun x => decide (0 < x)) c due
  | .kin y n _ => s = .l (lastN (kinV cal y xs) (n - 1).toNat)
  | .acc _ _ pl => s = .n (accA pl 0 0 (xs.map (wo us)))
  | .nt ss => s = .l ((notS ss xs (ss.length - 1)).map fun j => ((j + 1 : Nat) : Int))
theorem lastL_N (xs : List Int) (m : Int) : lastL xs m = lastN xs m.toNat := rfl
section
variable {cal : List Str} {us : List Du}
theorem duties_in (h : okDs us = true) {x : Int} (h1 : 1 ≤ x) (h2 : x ≤ us.length) : (0 ≤ (du us x).b ∧ (du us x).b < 24) ∧ (1 ≤ (du us x).l ∧ (du us x).l ≤ 24) ∧ 0 ≤ (du us x).p ∧ (du us x).p < (du us x).l := by
  obtain ⟨u, hu, e1, _⟩ := duty_at h1 h2
  have e : du us x = u := by rw [du, e1]; rfl
  rw [e]
  simp only [okDs, Bool.and_eq_true, List.all_eq_true] at h
  have := h.2 u hu
  simp only [okDu, Bool.and_eq_true, decide_eq_true_eq] at this
  exact ⟨this.1, this.2.1, this.2.2.1⟩
theorem wo_in (h : okDs us = true) {x : Int} (h1 : 0 ≤ x) (h2 : x ≤ us.length) : 0 ≤ wo us x ∧ wo us x ≤ 24 := by
  unfold wo
  split
  · omega
  · next hx =>
    have := duties_in h (x := x) (by omega) h2
    obtain ⟨u, hu, e1, _⟩ := duty_at (us := us) (n := x) (by omega) h2
    have e : du us x = u := by rw [du, e1]; rfl
    rw [e] at this
    rw [e1]
    show 0 ≤ u.l - u.p ∧ u.l - u.p ≤ 24
    omega
theorem va_in (h : okDs us = true) {x : Int} (k z : Str) (h1 : 0 ≤ x) (h2 : x ≤ us.length) : 0 ≤ va us k z x ∧ va us k z x ≤ 24 := by
  unfold va
  have := wo_in h h1 h2
  split
  · split <;> omega
  · omega
theorem isOf_pos {x : Int} {z : Str} (h : isOf us x z = true) : x ≠ 0 := by
  intro e; subst e; simp [isOf] at h
theorem kinV_snoc (y : Str) (xs : List Int) (x : Int) : kinV cal y (xs ++ [x]) = if (cal[xs.length % cal.length]?).getD "" = y then kinV cal y xs ++ [if x = 0 then 1 else 0] else kinV cal y xs := by
  unfold kinV
  rw [List.length_append, List.length_singleton, List.range_succ, List.filter_append, List.map_append]
  have e : ((List.range xs.length).filter fun d => decide ((cal[d % cal.length]?).getD "" = y)).map (fun d => if ((xs ++ [x])[d]?).getD 0 = 0 then (1 : Int) else 0) = ((List.range xs.length).filter fun d => decide ((cal[d % cal.length]?).getD "" = y)).map fun d => if (xs[d]?).getD 0 = 0 then (1 : Int) else 0 := by
    apply List.map_congr_left
    intro d hd
    have : d < xs.length := List.mem_range.mp (List.mem_filter.mp hd).1
    rw [List.getElem?_append_left this]
  rw [e]
  by_cases h : (cal[xs.length % cal.length]?).getD "" = y
  · rw [if_pos h]
    simp [h]
  · rw [if_neg h]
    simp [h]
theorem accK_snoc (lo hi : Int) (pl : List Int) (w : Int) : ∀ (ws : List Int) (d : Nat) (a : Int), accK lo hi pl d a (ws ++ [w]) = (accK lo hi pl d a ws && accK lo hi pl (d + ws.length) (accA pl d a ws) [w])
  | [], d, a => (Bool.true_and _).symm
  | v :: ws, d, a => by
    have e : d + (v :: ws).length = d + 1 + ws.length := by simp; omega
    have ih := accK_snoc lo hi pl w ws (d + 1) (a + v - (pl[d % pl.length]?).getD 0)
    rw [e, List.cons_append]
    show (_ && accK lo hi pl (d + 1) (a + v - (pl[d % pl.length]?).getD 0) (ws ++ [w])) = ((_ && accK lo hi pl (d + 1) (a + v - (pl[d % pl.length]?).getD 0) ws) && accK lo hi pl (d + 1 + ws.length) (accA pl (d + 1) (a + v - (pl[d % pl.length]?).getD 0) ws) [w])
    rw [ih]; exact (Bool.and_assoc _ _ _).symm
theorem accA_snoc (pl : List Int) (w : Int) : ∀ (ws : List Int) (d : Nat) (a : Int), accA pl d a (ws ++ [w]) = accA pl (d + ws.length) (accA pl d a ws) [w]
  | [], d, a => rfl
  | v :: ws, d, a => by
    have e : d + (v :: ws).length = d + 1 + ws.length := by simp; omega
    rw [e]
    exact accA_snoc pl w ws (d + 1) (a + v - (pl[d % pl.length]?).getD 0)
theorem lastN_small (vs : List Int) (k : Nat) (hk : k ≤ 13) (h : ∀ v ∈ vs, -1000 ≤ v ∧ v ≤ 1000) : (lastN vs k).length ≤ 13 ∧ ∀ v ∈ lastN vs k, -1000 ≤ v ∧ v ≤ 1000 :=
  ⟨by rw [lastN_len]; omega, fun v hv => h v (List.mem_of_mem_drop hv)⟩
theorem stand_begin (r : Ru) (hr : r.fits cal us = true) : JS cal us r [] r.sg := by
  cases r with
  | rest n =>
    simp only [Ru.fits, b2_iff] at hr
    exact ⟨rfl, ⟨by omega, by omega⟩, rfl⟩
  | win m k z n s =>
    obtain ⟨f1, f2, f3⟩ := fits_win hr
    have ev : winV us m k z n [] = if m = true then List.replicate (n - 1).toNat 0 else [] := by simp [winV]
    have el : lastN (if m = true then List.replicate (n - 1).toNat 0 else []) (n - 1).toNat = if m = true then List.replicate (n - 1).toNat (0 : Int) else [] := by
      cases m <;> simp [lastN]
    refine ⟨?_, ?_, ?_⟩
    · have e1 : (n - 1).toNat + 1 - n.toNat = 0 := by omega
      have e2 : 1 - n.toNat = 0 := by omega
      cases m <;> simp [keepsL, winK, e1, e2] <;> omega
    · show _ ∧ _
      cases m
      · exact ⟨Nat.zero_le _, fun v hv => by simp at hv⟩
      · refine ⟨by simp; omega, fun v hv => ?_⟩
        have := List.eq_of_mem_replicate hv
        omega
    · simp only
      rw [ev, el]; rfl
  | row z n =>
    obtain ⟨f1, f2⟩ := fits_row hr
    exact ⟨rfl, ⟨by omega, by omega⟩, rfl, by simp [run_nil]; omega⟩
  | beh z n m => exact ⟨rfl, ⟨⟨by omega, by omega⟩, by omega, by omega⟩, 0, 0, rfl, beh_start⟩
  | kin y n c =>
    obtain ⟨f1, f2, f3⟩ := fits_kin hr
    refine ⟨?_, ⟨Nat.zero_le _, fun v hv => by simp at hv⟩, by simp [kinV, lastN, Ru.sg]⟩
    have e2 : 1 - n.toNat = 0 := by omega
    simp [keepsL, winK, kinV, e2]
  | acc lo hi pl => exact ⟨rfl, ⟨by omega, by omega⟩, rfl⟩
  | nt ss =>
    have f := fits_nt hr
    refine ⟨?_, ⟨Nat.zero_le _, fun v hv => by simp at hv⟩, ?_⟩
    · have e2 : 1 - ss.length = 0 := by omega
      simp [keepsL, setK, e2]
    · have : notS ss [] (ss.length - 1) = [] := by
        unfold notS
        rw [List.filter_eq_nil_iff]
        intro j _
        simp [matS]
      simp only [this]; rfl
end
end Lw

set_option Elab.async false
set_option linter.all false
set_option autoImplicit false
set_option maxRecDepth 100000
set_option maxHeartbeats 4000000
namespace Lw
open PySem PySem.Spec PyProof.Rows L2 Fn
section
variable {cal : List Str} {us : List Du}
/-- the last days of one day more -/
theorem lastN_next (V : List Int) (v : Int) (k : Nat) : lastN (lastN V k ++ [v]) k = lastN (V ++ [v]) k := by
  rw [← lastN_snoc]; exact lastN_lastN _ _ _ (Nat.le_succ k)
theorem win_cond (V : List Int) (n : Int) (hn : 1 ≤ n) : (((lastN V (n - 1).toNat ++ [(0 : Int)]).length : Int) = n) = (n.toNat ≤ V.length + 1) := by
  apply propext
  rw [List.length_append, lastN_len, List.length_singleton]
  omega
theorem JS_step {r : Ru} {xs : List Int} {s : Sg} {x : Int} (hr : r.fits cal us = true) (hd : okDs us = true) (hc : cal ≠ []) (hx : okR us xs) (h1 : 0 ≤ x) (h2 : x ≤ us.length) (J : JS cal us r xs s) :
    keepsL cal us r (xs ++ [x]) = (stepS cal us (xs.length % cal.length) x r s).isSome ∧ ∀ s', stepS cal us (xs.length % cal.length) x r s = some s' → JS cal us r (xs ++ [x]) s' := by
  obtain ⟨K, ok, J⟩ := J
  cases r with
  | rest n =>
    simp only at J
    subst J
    simp only [Ru.fits, b2_iff] at hr
    have ok' : -1000 ≤ restS n (xs.map (ev us)) ∧ restS n (xs.map (ev us)) ≤ 1000 := ok
    simp only [keepsL] at K
    by_cases hz : x = 0
    · subst hz
      have e : (xs ++ [0]).map (ev us) = xs.map (ev us) ++ [none] := by simp [ev]
      obtain ⟨q1, q2⟩ := rest_free n (xs.map (ev us))
      have st : stepS cal us (xs.length % cal.length) 0 (.rest n) (.n (restS n (xs.map (ev us)))) = some (.n (minI n (restS n (xs.map (ev us)) + 24))) := by simp [stepS]
      rw [st]
      have k' : keepsL cal us (.rest n) (xs ++ [0]) = true := by simp only [keepsL, e, q1, K]
      refine ⟨by rw [k']; rfl, fun s' h => ?_⟩
      cases h
      refine ⟨k', ⟨?_, ?_⟩, by simp only [e, q2]⟩ <;> (unfold minI; split <;> omega)
    · have e : (xs ++ [x]).map (ev us) = xs.map (ev us) ++ [some ((du us x).b, (du us x).l)] := by simp [ev, hz]
      obtain ⟨d1, d2, d3⟩ := duties_in hd (x := x) (by omega) h2
      obtain ⟨q1, q2⟩ := rest_duty n (xs.map (ev us)) (du us x).b (du us x).l d1.1
      by_cases hb : n ≤ restS n (xs.map (ev us)) + (du us x).b
      · have st : stepS cal us (xs.length % cal.length) x (.rest n) (.n (restS n (xs.map (ev us)))) = some (.n (minI n (24 - (du us x).b - (du us x).l))) := by simp [stepS, hz, hb]
        rw [st]
        have k' : keepsL cal us (.rest n) (xs ++ [x]) = true := by simp only [keepsL, e, q1, K, decide_eq_true hb, Bool.and_self]
        refine ⟨by rw [k']; rfl, fun s' h => ?_⟩
        cases h
        refine ⟨k', ⟨?_, ?_⟩, by simp only [e, q2]⟩ <;> (unfold minI; split <;> omega)
      · have st : stepS cal us (xs.length % cal.length) x (.rest n) (.n (restS n (xs.map (ev us)))) = none := by simp [stepS, hz, hb]
        rw [st]
        have k' : keepsL cal us (.rest n) (xs ++ [x]) = false := by simp only [keepsL, e, q1, K, decide_eq_false hb, Bool.and_false]
        exact ⟨by rw [k']; rfl, fun s' h => by cases h⟩
  | win m k z n c =>
    simp only at J
    subst J
    obtain ⟨f1, f2, f3⟩ := fits_win hr
    have ew : winV us m k z n (xs ++ [x]) = winV us m k z n xs ++ [va us k z x] := by simp [winV]
    have vb := va_in hd k z h1 h2
    have hv : ∀ v ∈ winV us m k z n (xs ++ [x]), -1000 ≤ v ∧ v ≤ 1000 := fun v hv => by
      unfold winV at hv
      rcases List.mem_append.mp hv with h | h
      · cases m
        · simp at h
        · have := List.eq_of_mem_replicate h; omega
      · obtain ⟨y, hy, rfl⟩ := List.mem_map.mp h
        have : 0 ≤ y ∧ y ≤ us.length := by
          rcases List.mem_append.mp hy with hy | hy
          · exact hx y hy
          · simp at hy; subst hy; exact ⟨h1, h2⟩
        have := va_in hd k z this.1 this.2
        omega
    have sm := lastN_small _ (n - 1).toNat (by omega) hv
    have kw : ∀ ys, keepsL cal us (.win m k z n c) ys = winK (fun t => if m = true then decide (t ≤ c) else decide (c ≤ t)) n.toNat (winV us m k z n ys) := fun ys => by
      cases m <;> simp [keepsL, winV]
    rw [kw] at K
    have sn := winK_snoc (fun t => if m = true then decide (t ≤ c) else decide (c ≤ t)) n.toNat (winV us m k z n xs) (va us k z x) (by omega)
    have nn : n.toNat - 1 = (n - 1).toNat := by omega
    rw [← ew, ← kw, K, Bool.true_and, nn] at sn
    have hlen : m = true → n.toNat ≤ (winV us m k z n xs).length + 1 := fun h => by subst h; simp [winV]; omega
    have lc : (((lastN (winV us m k z n xs) (n - 1).toNat ++ [va us k z x]).length : Int) = n) = (n.toNat ≤ (winV us m k z n xs).length + 1) := by
      have := win_cond (winV us m k z n xs) n f2.1
      rw [← this]; simp
    have nx := lastN_next (winV us m k z n xs) (va us k z x) (n - 1).toNat
    rw [← ew] at nx
    have res : ∀ b : Bool, (if b = true then none else some (Sg.l (lastL (lastN (winV us m k z n xs) (n - 1).toNat ++ [va us k z x]) (n - 1)))) = stepS cal us (xs.length % cal.length) x (.win m k z n c) (.l (lastN (winV us m k z n xs) (n - 1).toNat)) → keepsL cal us (.win m k z n c) (xs ++ [x]) = !b →
        keepsL cal us (.win m k z n c) (xs ++ [x]) = (stepS cal us (xs.length % cal.length) x (.win m k z n c) (.l (lastN (winV us m k z n xs) (n - 1).toNat))).isSome ∧ ∀ s', stepS cal us (xs.length % cal.length) x (.win m k z n c) (.l (lastN (winV us m k z n xs) (n - 1).toNat)) = some s' → JS cal us (.win m k z n c) (xs ++ [x]) s' := by
      intro b hb hk
      rw [← hb]
      cases b with
      | true => exact ⟨by rw [hk]; rfl, fun s' h => by cases h⟩
      | false =>
        refine ⟨by rw [hk]; rfl, fun s' h => ?_⟩
        simp only [Bool.false_eq_true, if_false] at h
        cases h
        rw [lastL_N, nx]
        exact ⟨by rw [hk]; rfl, sm, rfl⟩
    cases m with
    | true =>
      refine res (decide (c < (lastN (winV us true k z n xs) (n - 1).toNat ++ [va us k z x]).sum)) ?_ ?_
      · simp only [stepS, if_true, decide_eq_true_eq]
      · rw [sn, decide_eq_true (hlen rfl)]
        simp only [if_true, Bool.not_true, Bool.false_or]
        rw [Bool.eq_iff_iff]; simp
    | false =>
      refine res (decide (n.toNat ≤ (winV us false k z n xs).length + 1 ∧ (lastN (winV us false k z n xs) (n - 1).toNat ++ [va us k z x]).sum < c)) ?_ ?_
      · simp only [stepS, Bool.false_eq_true, if_false, lc, decide_eq_true_eq]
      · rw [sn]
        simp only [Bool.false_eq_true, if_false]
        rw [Bool.eq_iff_iff]; simp
  | row z n =>
    obtain ⟨J, jn⟩ := J
    subst J
    obtain ⟨f1, f2⟩ := fits_row hr
    have e : (xs ++ [x]).map (fun x => isOf us x z) = xs.map (fun x => isOf us x z) ++ [isOf us x z] := by simp
    have sn := rowK_snoc n.toNat (xs.map fun x => isOf us x z) (isOf us x z)
    have rn := run_snoc (xs.map fun x => isOf us x z) (isOf us x z)
    simp only [keepsL] at K
    have kx : keepsL cal us (.row z n) (xs ++ [x]) = !(isOf us x z && decide (n.toNat ≤ runM (xs.map fun x => isOf us x z))) := by
      simp only [keepsL, e, sn, K, Bool.true_and]
    rw [← e] at rn
    cases hm : isOf us x z with
    | false =>
      have st : stepS cal us (xs.length % cal.length) x (.row z n) (.n (runM (xs.map fun x => isOf us x z))) = some (.n 0) := by simp [stepS, hm]
      rw [st, kx, hm]
      rw [hm] at rn kx
      refine ⟨rfl, fun s' h => ?_⟩
      cases h
      simp only [Bool.false_eq_true, if_false] at rn
      exact ⟨by rw [kx]; rfl, ⟨by omega, by omega⟩, by rw [rn]; rfl, by rw [rn]; omega⟩
    | true =>
      rw [hm] at rn kx
      simp only [if_true] at rn
      by_cases hb : (runM (xs.map fun x => isOf us x z) : Int) < n
      · have st : stepS cal us (xs.length % cal.length) x (.row z n) (.n (runM (xs.map fun x => isOf us x z))) = some (.n ((runM (xs.map fun x => isOf us x z) : Int) + 1)) := by simp [stepS, hm, hb]
        have nb : ¬ n.toNat ≤ runM (xs.map fun x => isOf us x z) := by omega
        rw [decide_eq_false nb] at kx
        rw [st, kx]
        refine ⟨rfl, fun s' h => ?_⟩
        cases h
        exact ⟨by rw [kx]; rfl, ⟨by omega, by omega⟩, by rw [rn]; rfl, by rw [rn]; omega⟩
      · have st : stepS cal us (xs.length % cal.length) x (.row z n) (.n (runM (xs.map fun x => isOf us x z))) = none := by simp [stepS, hm, hb]
        have nb : n.toNat ≤ runM (xs.map fun x => isOf us x z) := by omega
        rw [decide_eq_true nb] at kx
        rw [st, kx]
        exact ⟨rfl, fun s' h => by cases h⟩
  | beh z n m =>
    obtain ⟨c, due, J, B⟩ := J
    subst J
    obtain ⟨f1, f2, f3⟩ := fits_beh hr
    have e : (xs ++ [x]).map (fun x => isOf us x z) = xs.map (fun x => isOf us x z) ++ [isOf us x z] := by simp
    have e' : (xs ++ [x]).map (fun x => decide (0 < x)) = xs.map (fun x => decide (0 < x)) ++ [decide (0 < x)] := by simp
    have hl : (xs.map fun x => decide (0 < x)).length = (xs.map fun x => isOf us x z).length := by simp
    obtain ⟨q1, q2⟩ := beh_step (x := isOf us x z) (w := decide (0 < x)) (by omega) (by omega) hl (fun h => by have := isOf_pos h; simp; omega) B
    rw [← e, ← e', ← behK_iff n.toNat m.toNat (by omega) _ _ (by simp)] at q1
    have st : stepS cal us (xs.length % cal.length) x (.beh z n m) (.l [(c : Int), (due : Int)]) = (behN n.toNat m.toNat c due (isOf us x z) (decide (0 < x))).map fun p => .l [(p.1 : Int), (p.2 : Int)] := by
      have hx0 : (x = 0) = ¬ (0 < x) := by apply propext; omega
      have mi : minI n ((c : Int) + 1) = ((min n.toNat (c + 1) : Nat) : Int) := by unfold minI; split <;> omega
      have cn : ((c : Int) < n) = (c < n.toNat) := by apply propext; omega
      have mm : m - 1 = ((m.toNat - 1 : Nat) : Int) := by omega
      simp only [stepS, behN, mi, cn, mm, hx0, Int.natCast_pos, decide_eq_true_eq]
      by_cases a1 : 0 < due <;> by_cases a2 : 0 < x <;> cases a3 : isOf us x z <;> by_cases a4 : c < n.toNat <;> simp [a1, a2, a3, a4]
      all_goals omega
    rw [st]
    have kx : keepsL cal us (.beh z n m) (xs ++ [x]) = (behN n.toNat m.toNat c due (isOf us x z) (decide (0 < x))).isSome := by
      rw [Bool.eq_iff_iff]; exact q1
    rw [Option.isSome_map]
    refine ⟨kx, fun s' h => ?_⟩
    obtain ⟨⟨c', d'⟩, h3, rfl⟩ := Option.map_eq_some_iff.mp h
    have B' := q2 c' d' h3
    rw [← e, ← e'] at B'
    have b1 : c' ≤ n.toNat := by have := B'.cnt; omega
    have b2 : d' ≤ m.toNat := by
      rcases B'.due with ⟨z, _⟩ | ⟨z, _, d, hd1, hd2, hd3, _⟩ <;> omega
    exact ⟨by rw [kx, h3]; rfl, ⟨⟨by simp only; omega, by simp only; omega⟩, by simp only; omega, by simp only; omega⟩, c', d', rfl, B'⟩
  | kin y n c =>
    simp only at J
    subst J
    obtain ⟨f1, f2, f3⟩ := fits_kin hr
    have hph : xs.length % cal.length < cal.length := Nat.mod_lt _ (List.length_pos_iff.mpr hc)
    have ce : cal[xs.length % cal.length]? = some ((cal[xs.length % cal.length]?).getD "") := by rw [List.getElem?_eq_getElem hph]; rfl
    have kv := kinV_snoc (cal := cal) y xs x
    have hv : ∀ v ∈ kinV cal y (xs ++ [x]), -1000 ≤ v ∧ v ≤ 1000 := fun v hv => by
      unfold kinV at hv
      obtain ⟨d, _, rfl⟩ := List.mem_map.mp hv
      split <;> omega
    have sm := lastN_small _ (n - 1).toNat (by omega) hv
    simp only [keepsL] at K
    by_cases hy : (cal[xs.length % cal.length]?).getD "" = y
    · have hy' : cal[xs.length % cal.length]? = some y := by rw [ce, hy]
      rw [if_pos hy] at kv
      generalize hvv : (if x = 0 then (1 : Int) else 0) = v at kv
      have sn := winK_snoc (fun t => decide (c ≤ t)) n.toNat (kinV cal y xs) v (by omega)
      have nn : n.toNat - 1 = (n - 1).toNat := by omega
      rw [← kv, K, Bool.true_and, nn] at sn
      have lc : (((lastN (kinV cal y xs) (n - 1).toNat ++ [v]).length : Int) = n) = (n.toNat ≤ (kinV cal y xs).length + 1) := by
        have := win_cond (kinV cal y xs) n f2.1
        rw [← this]; simp
      have nx := lastN_next (kinV cal y xs) v (n - 1).toNat
      rw [← kv] at nx
      have st : stepS cal us (xs.length % cal.length) x (.kin y n c) (.l (lastN (kinV cal y xs) (n - 1).toNat)) = if n.toNat ≤ (kinV cal y xs).length + 1 ∧ (lastN (kinV cal y xs) (n - 1).toNat ++ [v]).sum < c then none else some (.l (lastN (kinV cal y (xs ++ [x])) (n - 1).toNat)) := by
        simp only [stepS, hvv, if_pos hy', lc, lastL_N, nx]
      have kx : keepsL cal us (.kin y n c) (xs ++ [x]) = !decide (n.toNat ≤ (kinV cal y xs).length + 1 ∧ (lastN (kinV cal y xs) (n - 1).toNat ++ [v]).sum < c) := by
        simp only [keepsL]
        rw [sn, Bool.eq_iff_iff]; simp
      rw [st]
      by_cases hcnd : n.toNat ≤ (kinV cal y xs).length + 1 ∧ (lastN (kinV cal y xs) (n - 1).toNat ++ [v]).sum < c
      · rw [if_pos hcnd]
        rw [decide_eq_true hcnd] at kx
        exact ⟨by rw [kx]; rfl, fun s' h => by cases h⟩
      · rw [if_neg hcnd]
        rw [decide_eq_false hcnd] at kx
        refine ⟨by rw [kx]; rfl, fun s' h => ?_⟩
        cases h
        exact ⟨by rw [kx]; rfl, sm, rfl⟩
    · have hy' : ¬ cal[xs.length % cal.length]? = some y := by rw [ce]; simpa using hy
      rw [if_neg hy] at kv
      have st : stepS cal us (xs.length % cal.length) x (.kin y n c) (.l (lastN (kinV cal y xs) (n - 1).toNat)) = some (.l (lastN (kinV cal y (xs ++ [x])) (n - 1).toNat)) := by
        simp only [stepS, if_neg hy', kv]
      have kx : keepsL cal us (.kin y n c) (xs ++ [x]) = true := by simp only [keepsL, kv, K]
      rw [st]
      refine ⟨by rw [kx]; rfl, fun s' h => ?_⟩
      cases h
      exact ⟨kx, sm, rfl⟩
  | acc lo hi pl =>
    simp only at J
    subst J
    have f := fits_acc hr
    have e : (xs ++ [x]).map (wo us) = xs.map (wo us) ++ [wo us x] := by simp
    have sn := accK_snoc lo hi pl (wo us x) (xs.map (wo us)) 0 0
    have an := accA_snoc pl (wo us x) (xs.map (wo us)) 0 0
    simp only [keepsL] at K
    rw [← e] at sn an
    rw [K, Bool.true_and, Nat.zero_add, List.length_map] at sn
    rw [Nat.zero_add, List.length_map] at an
    have hm : xs.length % pl.length = xs.length % cal.length := by rw [f.2.1]
    simp only [accK, accA, hm, Bool.and_true] at sn an
    simp only [stepS]
    generalize accA pl 0 0 (xs.map (wo us)) + wo us x - (pl[xs.length % cal.length]?).getD 0 = v at sn an ⊢
    by_cases hb : lo ≤ v ∧ v ≤ hi
    · have kx : keepsL cal us (.acc lo hi pl) (xs ++ [x]) = true := by
        simp only [keepsL, sn, decide_eq_true hb.1, decide_eq_true hb.2, Bool.and_self]
      rw [if_pos hb]
      refine ⟨by rw [kx]; rfl, fun s' h => ?_⟩
      cases h
      exact ⟨kx, ⟨by omega, by omega⟩, by simp only [an]⟩
    · have kx : keepsL cal us (.acc lo hi pl) (xs ++ [x]) = false := by
        simp only [keepsL, sn]
        rw [Bool.eq_false_iff]
        intro z
        simp only [Bool.and_eq_true, decide_eq_true_eq] at z
        exact hb z
      rw [if_neg hb]
      exact ⟨by rw [kx]; rfl, fun s' h => by cases h⟩
  | nt ss =>
    simp only at J
    subst J
    have f := fits_nt hr
    have sn := setK_snoc ss xs x
    simp only [keepsL] at K
    rw [K, Bool.true_and] at sn
    have ns := notS_step ss xs x (ss.length - 1)
    have n1 : ss.length - 1 + 1 = ss.length := by omega
    rw [n1] at ns
    have fo : ((((0 : Int) :: (notS ss xs (ss.length - 1)).map fun j => ((j + 1 : Nat) : Int)).filter fun a => ((ss[a.toNat]?).getD []).contains x).map (· + 1)) = ((List.range ss.length).filter fun j => matS ss (xs ++ [x]) (j + 1)).map fun j => ((j + 1 : Nat) : Int) := by
      rw [← ns]
      have e1 : ((0 : Int) :: (notS ss xs (ss.length - 1)).map fun j => ((j + 1 : Nat) : Int)) = (0 :: (notS ss xs (ss.length - 1)).map (· + 1)).map fun j : Nat => (j : Int) := by simp
      rw [e1, List.filter_map, List.map_map]
      rfl
    have last : ((List.range ss.length).filter fun j => matS ss (xs ++ [x]) (j + 1)) = notS ss (xs ++ [x]) (ss.length - 1) ++ if matS ss (xs ++ [x]) ss.length = true then [ss.length - 1] else [] := by
      have : List.range ss.length = List.range (ss.length - 1) ++ [ss.length - 1] := by rw [← List.range_succ, Nat.succ_eq_add_one, n1]
      rw [this, List.filter_append]
      unfold notS
      simp only [List.filter_cons, List.filter_nil, n1]
    have mem : ((ss.length : Int) ∈ ((List.range ss.length).filter fun j => matS ss (xs ++ [x]) (j + 1)).map fun j => ((j + 1 : Nat) : Int)) = (matS ss (xs ++ [x]) ss.length = true) := by
      apply propext
      constructor
      · intro h
        obtain ⟨j, hj, e⟩ := List.mem_map.mp h
        have : j + 1 = ss.length := by omega
        have := (List.mem_filter.mp hj).2
        rw [‹j + 1 = ss.length›] at this
        exact this
      · intro h
        refine List.mem_map.mpr ⟨ss.length - 1, List.mem_filter.mpr ⟨List.mem_range.mpr (by omega), by rw [n1]; exact h⟩, by rw [n1]⟩
    simp only [stepS, fo, List.contains_iff_mem, mem]
    cases hm : matS ss (xs ++ [x]) ss.length with
    | true =>
      have kx : keepsL cal us (.nt ss) (xs ++ [x]) = false := by simp only [keepsL, sn, hm]; rfl
      simp only [if_true]
      exact ⟨by rw [kx]; rfl, fun s' h => by cases h⟩
    | false =>
      have kx : keepsL cal us (.nt ss) (xs ++ [x]) = true := by simp only [keepsL, sn, hm]; rfl
      simp only [Bool.false_eq_true, if_false]
      refine ⟨by rw [kx]; rfl, fun s' h => ?_⟩
      cases h
      rw [last, hm]
      simp only [Bool.false_eq_true, if_false, List.append_nil]
      refine ⟨kx, ⟨?_, fun a ha => ?_⟩, rfl⟩
      · rw [List.length_map]
        unfold notS
        have := List.length_filter_le (fun j => matS ss (xs ++ [x]) (j + 1)) (List.range (ss.length - 1))
        rw [List.length_range] at this
        omega
      · obtain ⟨j, hj, rfl⟩ := List.mem_map.mp ha
        have := List.mem_range.mp (List.mem_filter.mp hj).1
        omega
end
end Lw

set_option Elab.async false
set_option linter.all false
set_option autoImplicit false
set_option maxRecDepth 100000
set_option maxHeartbeats 4000000
namespace Lw
open PySem PySem.Spec PyProof.Rows L2 Fn
/-! ### texts of standings -/
theorem ints_small : ∀ xs : List Int, (∀ v ∈ xs, -1000 ≤ v ∧ v ≤ 1000) → smallPs (toPs (xs.map .int)) = true ∧ PyData.depthAll (toPs (xs.map .int)) = 0 ∧ PyData.weightAll (toPs (xs.map .int)) ≤ 42 * xs.length
  | [], _ => by simp [toPs, smallPs, PyData.depthAll, PyData.weightAll]
  | x :: xs, h => by
    have a := h x List.mem_cons_self
    have b := ints_small xs fun v hv => h v (List.mem_cons_of_mem _ hv)
    have hn : x.natAbs < 10 ^ 12 := by omega
    have w := weight_int hn
    simp only [List.map_cons, toPs, toP, smallPs, smallP, PyData.depthAll, PyData.weightAll, PyData.depth, b.1, b.2.1, List.length_cons]
    refine ⟨by rw [decide_eq_true hn]; rfl, by simp, ?_⟩
    have := b.2.2
    omega
def Sg.small : Sg → Prop
  | .n i => -1000 ≤ i ∧ i ≤ 1000
  | .l xs => xs.length ≤ 14 ∧ ∀ v ∈ xs, -1000 ≤ v ∧ v ≤ 1000
theorem sg_sm {s : Sg} (h : s.small) : smallP (toP s.d) = true ∧ (toP s.d).depth ≤ 1 ∧ (toP s.d).weight ≤ 700 := by
  cases s with
  | n i =>
    have hn : i.natAbs < 10 ^ 12 := by have := h.1; have := h.2; omega
    have w := weight_int hn
    simp only [Sg.d, toP, smallP, PyData.depth]
    exact ⟨decide_eq_true hn, by omega, by omega⟩
  | l xs =>
    have q := ints_small xs h.2
    have hl : xs.length ≤ 14 := h.1
    simp only [Sg.d, intsT, toP, smallP, PyData.depth, PyData.weight, q.1, q.2.1]
    exact ⟨trivial, by omega, by omega⟩
theorem okS_small {r : Ru} {s : Sg} {cal us} (hr : r.fits cal us = true) (h : okS r s) : s.small := by
  cases r with
  | rest n => cases s with
    | n i => exact h
    | l xs => exact h.elim
  | win m k z n c => cases s with
    | n i => exact h.elim
    | l xs => exact ⟨by have := h.1; omega, h.2⟩
  | row z n => cases s with
    | n i => exact h
    | l xs => exact h.elim
  | beh z n m => match s, h with
    | .l [c, d], h => exact ⟨by simp, fun v hv => by
        simp at hv
        rcases hv with rfl | rfl
        · exact h.1
        · exact h.2⟩
  | kin y n c => cases s with
    | n i => exact h.elim
    | l xs => exact ⟨by have := h.1; omega, h.2⟩
  | acc lo hi pl => cases s with
    | n i => exact h
    | l xs => exact h.elim
  | nt ss => cases s with
    | n i => exact h.elim
    | l xs =>
      have f := fits_nt hr
      exact ⟨by have := h.1; omega, fun v hv => by have := h.2 v hv; omega⟩
theorem repr_sg {s : Sg} (h : s.small) (st : Sto) : gRepr st [s.d] = some (.str (toP s.d).shown) := by
  have a := sg_sm h
  exact gRepr_of (Sg.mu s) a.1 (by omega) (by have : (2 : Nat) ^ 20 = 1048576 := by decide
                                              omega)
theorem repr_os {s : Option Sg} (h : ∀ t, s = some t → t.small) (st : Sto) : gRepr st [osD s] = some (.str (toP (osD s)).shown) := by
  cases s with
  | none => exact gRepr_of rfl rfl (by simp [osD, toP, PyData.depth]) (by simp [osD, toP, PyData.weight])
  | some t => exact repr_sg (h t rfl) st
end Lw

set_option Elab.async false
set_option linter.all false
set_option autoImplicit false
set_option maxRecDepth 100000
set_option maxHeartbeats 4000000
namespace Lw
open PySem PySem.Spec PyProof.Rows L2 Fn
/-! ### standings of a book -/
def allR (rs : List Ru) : List Ru := Ru.rest 0 :: rs
abbrev Std := Nat × List Sg
def stdD (s : Std) : D := .tup (.int (s.1 : Nat) :: s.2.map Sg.d)
def osbD : Option Std → D
  | none => .non
  | some s => stdD s
def partsB (cal : List Str) (us : List Du) (x : Int) (rs : List Ru) (s : Std) : List (Option Sg) := ((allR rs).zip s.2).map fun p => stepS cal us s.1 x p.1 p.2
def unOpt {α : Type} : List (Option α) → Option (List α)
  | [] => some []
  | none :: _ => none
  | some a :: r => (unOpt r).map (a :: ·)
def behB (cal : List Str) (us : List Du) (rs : List Ru) (x : Int) (s : Std) : Option Std := (unOpt (partsB cal us x rs s)).map fun l => ((s.1 + 1) % cal.length, l)
def startB (rs : List Ru) : Std := (0, (allR rs).map Ru.sg)
theorem unOpt_none {α : Type} : ∀ {l : List (Option α)}, unOpt l = none ↔ l.any Option.isNone = true
  | [] => by simp [unOpt]
  | none :: r => by simp [unOpt]
  | some a :: r => by simp [unOpt, unOpt_none]
theorem unOpt_some {α : Type} : ∀ {l : List (Option α)} {r : List α}, unOpt l = some r ↔ l = r.map some
  | [], r => by cases r <;> simp [unOpt]
  | none :: l, r => by cases r <;> simp [unOpt]
  | some a :: l, r => by
    cases r with
    | nil => simp [unOpt]
    | cons b r =>
      simp only [unOpt, Option.map_eq_some_iff, List.map_cons, List.cons.injEq, Option.some.injEq]
      constructor
      · rintro ⟨q, h1, h2, h3⟩
        subst h2 h3
        exact ⟨rfl, unOpt_some.mp h1⟩
      · rintro ⟨h1, h2⟩
        exact ⟨r, unOpt_some.mpr h2, h1, rfl⟩
/-- the standings fit the rules -/
structure OkStd (cal : List Str) (rs : List Ru) (s : Std) : Prop where
  ph : s.1 < cal.length
  len : s.2.length = (allR rs).length
  ok : ∀ p ∈ (allR rs).zip s.2, okS p.1 p.2
/-- s is the standing of the roster xs, which keeps all rules -/
structure JB (cal : List Str) (us : List Du) (rs : List Ru) (xs : List Int) (s : Std) : Prop where
  ph : s.1 = xs.length % cal.length
  len : s.2.length = (allR rs).length
  js : ∀ p ∈ (allR rs).zip s.2, JS cal us p.1 xs p.2
theorem JB.std {cal us rs xs s} (h : JB cal us rs xs s) (hc : cal ≠ []) : OkStd cal rs s := ⟨by rw [h.ph]; exact Nat.mod_lt _ (List.length_pos_iff.mpr hc), h.len, fun p hp => (h.js p hp).2.1⟩
def fitsAll (cal : List Str) (us : List Du) (rs : List Ru) : Prop := ∀ r ∈ allR rs, r.fits cal us = true
theorem fitsAll_of {cal us rs} (h : ∀ r ∈ rs, Ru.fits cal us r = true) : fitsAll cal us rs := fun r hr => by
  rcases List.mem_cons.mp hr with rfl | hr
  · rfl
  · exact h r hr
def rightL (cal : List Str) (us : List Du) (rs : List Ru) (xs : List Int) : Bool := (allR rs).all fun r => keepsL cal us r xs
section
variable {cal : List Str} {us : List Du} {rs : List Ru} {st : Sto} {x : Int}
theorem zip_own {α β : Type} (f : α → β) : ∀ l : List α, l.zip (l.map f) = l.map fun a => (a, f a)
  | [] => rfl
  | a :: l => by simp [zip_own f l]
theorem JB_start (h : fitsAll cal us rs) : JB cal us rs [] (startB rs) := ⟨rfl, by simp [startB], fun p hp => by
  have : p ∈ (allR rs).map fun r => (r, r.sg) := by
    have e : (allR rs).zip (startB rs).2 = (allR rs).map fun r => (r, r.sg) := zip_own _ _
    rw [← e]; exact hp
  obtain ⟨r, hr, rfl⟩ := List.mem_map.mp this
  exact stand_begin r (h r hr)⟩
theorem JB_right {xs s} (h : JB cal us rs xs s) : rightL cal us rs xs = true := by
  unfold rightL
  rw [List.all_eq_true]
  intro r hr
  obtain ⟨i, hi, e⟩ := List.mem_iff_getElem.mp hr
  have hi2 : i < s.2.length := by rw [h.len]; exact hi
  have hm : (r, s.2[i]) ∈ (allR rs).zip s.2 := by
    rw [List.mem_iff_getElem]
    exact ⟨i, by rw [List.length_zip]; omega, by simp [e]⟩
  exact (h.js _ hm).1
/-- one day more, rule by rule -/
theorem JB_parts {xs s} (hf : fitsAll cal us rs) (hd : okDs us = true) (hc : cal ≠ []) (hx : okR us xs) (h1 : 0 ≤ x) (h2 : x ≤ us.length) (J : JB cal us rs xs s) :
    (partsB cal us x rs s).map Option.isSome = (allR rs).map fun r => keepsL cal us r (xs ++ [x]) := by
  unfold partsB
  apply List.ext_getElem
  · simp [J.len]
  · intro i hi1 hi2
    simp only [List.length_map, List.length_zip] at hi1 hi2
    have hi3 : i < s.2.length := by rw [J.len]; exact hi2
    simp only [List.getElem_map, List.getElem_zip]
    have hm : ((allR rs)[i], s.2[i]) ∈ (allR rs).zip s.2 := by
      rw [List.mem_iff_getElem]
      exact ⟨i, by rw [List.length_zip]; omega, by simp⟩
    have q := JS_step (hf _ (List.getElem_mem hi2)) hd hc hx h1 h2 (J.js _ hm)
    rw [← J.ph] at q
    exact q.1.symm
theorem JB_step {xs s} (hf : fitsAll cal us rs) (hd : okDs us = true) (hc : cal ≠ []) (hx : okR us xs) (h1 : 0 ≤ x) (h2 : x ≤ us.length) (J : JB cal us rs xs s) :
    rightL cal us rs (xs ++ [x]) = (behB cal us rs x s).isSome ∧ ∀ s', behB cal us rs x s = some s' → JB cal us rs (xs ++ [x]) s' := by
  have P := JB_parts (x := x) hf hd hc hx h1 h2 J
  constructor
  · have e : rightL cal us rs (xs ++ [x]) = (partsB cal us x rs s).all Option.isSome := by
      have : ((allR rs).map fun r => keepsL cal us r (xs ++ [x])).all id = rightL cal us rs (xs ++ [x]) := by
        rw [List.all_map]; rfl
      rw [← this, ← P, List.all_map]; rfl
    rw [e]
    unfold behB
    rw [Option.isSome_map]
    cases q : unOpt (partsB cal us x rs s) with
    | none =>
      have := unOpt_none.mp q
      rw [List.any_eq_true] at this
      obtain ⟨o, ho, hn⟩ := this
      cases o with
      | some a => cases hn
      | none =>
        show _ = false
        rw [Bool.eq_false_iff]
        intro z
        have z2 := List.all_eq_true.mp z none ho
        cases z2
    | some l =>
      rw [unOpt_some.mp q, List.all_map]
      show _ = true
      rw [List.all_eq_true]
      intro a _; rfl
  · intro s' h
    unfold behB at h
    obtain ⟨l, hl, rfl⟩ := Option.map_eq_some_iff.mp h
    have hl2 := unOpt_some.mp hl
    have len : l.length = (allR rs).length := by
      have := congrArg List.length hl2
      simp only [partsB, List.length_map, List.length_zip, J.len, Nat.min_self] at this
      exact this.symm
    refine ⟨?_, len, fun p hp => ?_⟩
    · simp only [J.ph, List.length_append, List.length_singleton, Nat.mod_add_mod]
    · obtain ⟨i, hi, e⟩ := List.mem_iff_getElem.mp hp
      rw [List.length_zip] at hi
      have hi1 : i < (allR rs).length := by omega
      have hi2 : i < l.length := by omega
      have hi3 : i < s.2.length := by rw [J.len]; exact hi1
      simp only [List.getElem_zip] at e
      subst e
      have hm : ((allR rs)[i], s.2[i]) ∈ (allR rs).zip s.2 := by
        rw [List.mem_iff_getElem]
        exact ⟨i, by rw [List.length_zip]; omega, by simp⟩
      have q := JS_step (hf _ (List.getElem_mem hi1)) hd hc hx h1 h2 (J.js _ hm)
      rw [← J.ph] at q
      refine q.2 l[i] ?_
      have z := congrArg (fun t : List (Option Sg) => t[i]?) hl2
      simp only [partsB, List.getElem?_map] at z
      rw [List.getElem?_eq_getElem (by rw [List.length_zip]; omega), List.getElem?_eq_getElem hi2] at z
      simpa using z
theorem behB_ok {s : Std} (hf : fitsAll cal us rs) (hd : okDs us = true) (hc : cal ≠ []) : True := trivial
/-! ### the program's book -/
theorem allr_eq (hl : rs.length ≤ 1000) (st : Sto) : d_all_rules [bkD cal us (rsX rs)] st = .ok (.tup ((allR rs).map Ru.d)) st := by
  have b2 : ∀ st, gIx st (bkD cal us (rsX rs)) (.int 2) = some (.tup (rs.map Ru.d)) := fun st => by rw [← xsD_rs]; rfl
  have nm : noMu (rs.map Ru.d) = true := noMu_map Ru.d Ru.mu rs
  have sz : rs.length + 1 ≤ sizeLine := by rw [sizeLine_eq]; omega
  simp [d_all_rules, b_all_rules, List.replicate, b2, nm, sz, allR, Ru.d]
theorem osD_mus (l : List (Option Sg)) : noMu (l.map osD) = true := noMu_map osD osD_mu l
theorem parts_eq {s : Std} (hl : rs.length ≤ 1000) (hf : fitsAll cal us rs) (hs : OkStd cal rs s) (h1 : 0 ≤ x) (h2 : x ≤ us.length) (st : Sto) :
    d_parts_behind [bkD cal us (rsX rs), stdD s, .int x] st = .ok (.lst ((partsB cal us x rs s).map osD)) st := by
  have ar := fun st => allr_eq (cal := cal) (us := us) hl st
  have i0 : ∀ st, gIx st (stdD s) (.int 0) = some (.int (s.1 : Nat)) := fun st => by simp [stdD, at0_cons]
  have sl : ∀ st, sliceD st (stdD s) (some 1) none = some (.tup (s.2.map Sg.d)) := fun st => by
    show some (D.tup (Fn.cutD _ _ _)) = _
    rw [cut1]; rfl
  have c : ∀ o5 o7 o8 st, c1_parts_behind [some (bkD cal us (rsX rs)), some (stdD s), some (.int x), some (strsD cal), some (dsD us), o5, some (.int (s.1 : Nat)), o7, o8] st = .ok (.lst ((partsB cal us x rs s).map osD)) st := fun o5 o7 o8 st => by
    have q := lc_map (h := fun p : Ru × Sg => .tup [p.1.d, p.2.d]) (g := fun p => osD (stepS cal us s.1 x p.1 p.2)) (xs := (allR rs).zip s.2) (fi := iZip2 (aCons (eCall (lenOk 1 d_all_rules) (aCons (eVar 0) aNil)) (aCons (eSl (eVar 1) (pSome (eC (.int 1))) pNone) aNil))) (t := .tp [.nm 7, .nm 8])
      (fe := eCall (lenOk 6 d_stood) (aCons (eVar 3) (aCons (eVar 4) (aCons (eVar 7) (aCons (eVar 8) (aCons (eVar 6) (aCons (eVar 2) aNil))))))) (vs := [7, 8]) (ρ := [some (bkD cal us (rsX rs)), some (stdD s), some (.int x), some (strsD cal), some (dsD us), o5, some (.int (s.1 : Nat)), o7, o8]) (st := st)
      (by simp [ar, sl, zipD_map]) (fun p hp st => by
        have q : ∀ st, d_stood [strsD cal, dsD us, p.1.d, p.2.d, .int (s.1 : Nat), .int x] st = .ok (osD (stepS cal us s.1 x p.1 p.2)) st := fun st => stood_eq (hf p.1 (List.of_mem_zip hp).1) (hs.ok p hp) hs.ph h1 h2
        exact ⟨_, by simp [wipeR]; rfl, by simp [q]⟩) fun p _ => osD_mu _
    unfold partsB
    rw [List.map_map]
    exact q
  have hb : bkD cal us (rsX rs) = .tup [strsD cal, dsD us, xsD (rsX rs)] := rfl
  generalize hbk : bkD cal us (rsX rs) = bk at c ar hb
  subst hb
  simp [d_parts_behind, b_parts_behind, List.replicate, i0, c]
theorem isNon_os (o : Option Sg) : isNonD (osD o) = o.isNone := by
  cases o with
  | none => rfl
  | some s => cases s <;> rfl
theorem parts_small {s : Std} (hf : fitsAll cal us rs) (hd : okDs us = true) : True := trivial
end
end Lw

set_option Elab.async false
set_option linter.all false
set_option autoImplicit false
set_option maxRecDepth 100000
set_option maxHeartbeats 4000000
namespace Lw
open PySem PySem.Spec PyProof.Rows L2 Fn
theorem ints_lay : ∀ xs : List Int, PyData.canLayAll0 (toPs (xs.map .int)) = true ∧ PyData.depthAll (toPs (xs.map .int)) = 0
  | [] => ⟨rfl, rfl⟩
  | x :: xs => by
    have b := ints_lay xs
    simp only [List.map_cons, toPs, toP, PyData.canLayAll0, PyData.canLay0, PyData.depthAll, PyData.depth, b.1, b.2]
    exact ⟨rfl, rfl⟩
theorem os_lay (o : Option Sg) : (toP (osD o)).canLay0 = true ∧ (toP (osD o)).depth ≤ 1 := by
  cases o with
  | none => exact ⟨rfl, by simp [osD, toP, PyData.depth]⟩
  | some s => cases s with
    | n i => exact ⟨rfl, by simp [osD, Sg.d, toP, PyData.depth]⟩
    | l xs =>
      have b := ints_lay xs
      simp only [osD, Sg.d, intsT, toP, PyData.canLay0, PyData.depth, b.1, b.2]
      exact ⟨trivial, by omega⟩
theorem oss_lay : ∀ l : List (Option Sg), PyData.canLayAll0 (toPs (l.map osD)) = true ∧ PyData.depthAll (toPs (l.map osD)) ≤ 1
  | [] => ⟨rfl, by simp [toPs, PyData.depthAll]⟩
  | o :: l => by
    have a := os_lay o
    have b := oss_lay l
    simp only [List.map_cons, toPs, PyData.canLayAll0, PyData.depthAll, a.1, b.1]
    exact ⟨rfl, by omega⟩
theorem sh_os (l : List (Option Sg)) : shD (.lst (l.map osD)) = true := by
  have b := oss_lay l
  simp only [shD, SeqAt.shaped, toP, PyData.canLay0, PyData.depth, b.1, Bool.true_and]
  exact decide_eq_true (by omega)
theorem any_os (l : List (Option Sg)) : (l.map osD).any isNonD = l.any Option.isNone := by
  rw [List.any_map]
  congr 1
  funext o
  exact isNon_os o
theorem noIn_os (l : List (Option Sg)) (st : Sto) : gNoIn false st .non (.lst (l.map osD)) = some (l.any Option.isNone) := by
  rw [noIn_lst (sh_os l), any_os]; rfl
theorem osbD_mu (o : Option Std) : muD (osbD o) = false := by cases o <;> rfl
theorem osbD_is (o : Option Std) (st : Sto) : gIs st (osbD o) .non = some o.isNone := by cases o <;> rfl
theorem osbD_isn (o : Option Std) (st : Sto) : gIsNot st (osbD o) .non = some o.isSome := by cases o <;> rfl
section
variable {cal : List Str} {us : List Du} {rs : List Ru} {st : Sto} {x : Int}
theorem std_i0 (s : Std) (st : Sto) : gIx st (stdD s) (.int 0) = some (.int (s.1 : Nat)) := by simp [stdD, at0_cons]
theorem ph_next {s : Std} (hc : 0 < cal.length) (st : Sto) : gMod st (.int ((s.1 : Int) + 1)) (.int (cal.length : Int)) = some (.int (((s.1 + 1) % cal.length : Nat) : Int)) := by
  rw [gMod_int (by omega), Int.natCast_emod]; simp
theorem bk_i0 (st : Sto) : gIx st (bkD cal us (rsX rs)) (.int 0) = some (strsD cal) := rfl
theorem bk_i1 (st : Sto) : gIx st (bkD cal us (rsX rs)) (.int 1) = some (dsD us) := rfl
theorem cal_len (st : Sto) : gLen st [strsD cal] = some (.int cal.length) := by simp [strsD]
theorem us_len (st : Sto) : gLen st [dsD us] = some (.int us.length) := by simp [dsD]
theorem parts_none {s : Std} : behB cal us rs x s = none ↔ (partsB cal us x rs s).any Option.isNone = true := by
  unfold behB
  rw [Option.map_eq_none_iff]
  exact unOpt_none
theorem parts_some {s s' : Std} (h : behB cal us rs x s = some s') : (partsB cal us x rs s).any Option.isNone = false ∧ (partsB cal us x rs s).map osD = s'.2.map Sg.d ∧ s'.1 = (s.1 + 1) % cal.length := by
  unfold behB at h
  obtain ⟨l, hl, rfl⟩ := Option.map_eq_some_iff.mp h
  have e := unOpt_some.mp hl
  refine ⟨?_, ?_, rfl⟩
  · rw [Bool.eq_false_iff]
    intro z
    rw [unOpt_none.mpr z] at hl; cases hl
  · rw [e, List.map_map]; rfl
theorem behind_eq {s : Std} (hl : rs.length ≤ 1000) (hf : fitsAll cal us rs) (hs : OkStd cal rs s) (h1 : 0 ≤ x) (h2 : x ≤ us.length) (st : Sto) :
    d_behind [bkD cal us (rsX rs), stdD s, .int x] st = .ok (osbD (behB cal us rs x s)) st := by
  have pe := fun st => parts_eq hl hf hs h1 h2 st
  have no := noIn_os (partsB cal us x rs s)
  have hc0 : 0 < cal.length := by have := hs.ph; omega
  have i0 := std_i0 s
  have b0 := bk_i0 (cal := cal) (us := us) (rs := rs)
  cases q : behB cal us rs x s with
  | none =>
    have a := parts_none.mp q
    rw [a] at no
    simp [d_behind, b_behind, List.replicate, pe, no, osbD]
  | some s' =>
    obtain ⟨a, b, c⟩ := parts_some q
    rw [a] at no
    rw [b] at pe no
    have nm : noMu (s'.2.map Sg.d) = true := noMu_map Sg.d Sg.mu _
    have len : s'.2.length = (allR rs).length := by
      have := congrArg List.length b
      simp only [partsB, List.length_map, List.length_zip, hs.len, Nat.min_self] at this
      exact this.symm
    have sz : s'.2.length + 1 ≤ sizeLine := by rw [sizeLine_eq, len]; simp [allR]; omega
    have gm := ph_next (cal := cal) (s := s) hc0
    have cl := cal_len (cal := cal)
    rw [← c] at gm
    simp [d_behind, b_behind, List.replicate, pe, no, osbD, i0, b0, gm, cl, nm, sz]
    rfl
theorem beh_std {s s' : Std} (hs : OkStd cal rs s) (hc : cal ≠ []) (h : behB cal us rs x s = some s') (hok : ∀ p ∈ (allR rs).zip s'.2, okS p.1 p.2) : OkStd cal rs s' := by
  obtain ⟨a, b, c⟩ := parts_some h
  refine ⟨by rw [c]; exact Nat.mod_lt _ (List.length_pos_iff.mpr hc), ?_, hok⟩
  have := congrArg List.length b
  simp only [partsB, List.length_map, List.length_zip, hs.len, Nat.min_self] at this
  exact this.symm
def movesB (cal : List Str) (us : List Du) (rs : List Ru) (s : Std) : List Int := (upTo (us.length + 1)).filter fun x => (behB cal us rs x s).isSome
theorem upTo_in {n : Nat} {y : Int} (h : y ∈ upTo (n + 1)) : 0 ≤ y ∧ y ≤ n := by have := up_mem h; omega
theorem cbook_ok (hb : bookEr cal us (rsX rs) = none) (st : Sto) : d_check_book [bkD cal us (rsX rs)] st = .ok .non st := by rw [cbook_eq, hb]
theorem small_all {rs : List Ru} (h : ∀ r ∈ rs, Ru.fits cal us r = true) : ∀ r ∈ rs, r.small = true := fun r hr => by
  have hf := h r hr
  cases r with
  | win m k z n c =>
    obtain ⟨f1, f2, f3⟩ := fits_win hf
    exact b2_of (by omega) (by omega)
  | _ => rfl
theorem firstD_std (rs : List Ru) : firstD rs = stdD (startB rs) := by
  simp only [firstD, stdD, startB, allR, List.map_map]
  congr 2
  apply List.map_congr_left
  intro r _
  exact begin_sg r
theorem start_eq2 (h : ∀ r ∈ rs, Ru.fits cal us r = true) (hl : rs.length ≤ 1000) (st : Sto) : d_start [bkD cal us (rsX rs)] st = .ok (stdD (startB rs)) st := by
  rw [← firstD_std]; exact start_all (small_all h) hl
/-! rosters -/
theorem isrow_eq (xs : List Int) (st : Sto) : d_is_row [dsD us, intsT xs] st = .ok (.bl (xs.all fun (n : Int) => b2 0 n us.length)) st := by
  have c : ∀ o2 st, c1_is_row [some (dsD us), some (intsT xs), o2] st = .ok (.lst (xs.map fun (n : Int) => .bl (b2 0 n us.length))) st := fun o2 st =>
    lc_map (h := D.int) (by
      have it : ∀ st, itemsD st (intsT xs) = some (xs.map .int, st) := fun st => rfl
      simp [it]) (fun n _ s => ⟨_, by simp [wipeR]; rfl, eChain_lele rfl rfl (by simp [us_len])⟩) fun _ _ => rfl
  simp [d_is_row, b_is_row, List.replicate, c, gAll_map]
theorem okR_iff {xs : List Int} : (xs.all fun (n : Int) => b2 0 n us.length) = true ↔ okR us xs := by
  rw [List.all_eq_true]; simp only [b2_iff]; exact Iff.rfl
end
end Lw

set_option Elab.async false
set_option linter.all false
set_option autoImplicit false
set_option maxRecDepth 100000
set_option maxHeartbeats 4000000
namespace Lw
open PySem PySem.Spec PyProof.Rows L2 Fn
/-! ### a loop by its step; `.error d`: the def returns d -/
def foldE {α σ : Type} (f : α → σ → Except D σ) : List α → σ → Except D σ
  | [], a => .ok a
  | x :: xs, a => match f x a with
    | .ok a' => foldE f xs a'
    | .error d => .error d
theorem forD_foldE {α σ : Type} {h : α → D} {f : α → σ → Except D σ} {I : σ → Rho → Prop} {t : Tg} {body : SF} {st : Sto} :
    ∀ {xs : List α} {a : σ} {ρ : Rho}, (∀ x ∈ xs, ∀ a ρ, I a ρ → ∃ ρ1, gT st t (h x) ρ = some ρ1 ∧ match f x a with
      | .ok a' => ∃ ρ2, (body ρ1 st = .nx ρ2 st ∨ body ρ1 st = .ct ρ2 st) ∧ I a' ρ2
      | .error d => body ρ1 st = .rt d st) → I a ρ → match foldE f xs a with
    | .ok a' => ∃ ρ', forD t body (xs.map h) ρ st = .nx ρ' st ∧ I a' ρ'
    | .error d => forD t body (xs.map h) ρ st = .rt d st
  | [], a, ρ, _, i => ⟨ρ, rfl, i⟩
  | x :: xs, a, ρ, hb, i => by
    obtain ⟨ρ1, e1, e2⟩ := hb x List.mem_cons_self a ρ i
    unfold foldE
    cases q : f x a with
    | error d =>
      rw [q] at e2
      simp only [List.map_cons, forD, e1, e2]
    | ok a' =>
      rw [q] at e2
      obtain ⟨ρ2, e3, i2⟩ := e2
      have := forD_foldE (xs := xs) (fun y hy => hb y (List.mem_cons_of_mem _ hy)) i2
      rcases e3 with e3 | e3 <;> simp only [List.map_cons, forD, e1, e3] <;> exact this
/-- the first that is not so -/
def idxF : List Bool → Nat → Option Nat
  | [], _ => none
  | b :: r, i => if b = true then idxF r (i + 1) else some i
theorem idxF_none : ∀ {l : List Bool} {i : Nat}, idxF l i = none ↔ l.all id = true
  | [], i => by simp [idxF]
  | b :: r, i => by
    cases b
    · simp [idxF]
    · simpa [idxF] using idxF_none (l := r) (i := i + 1)
theorem firstNon_os : ∀ (l : List (Option Sg)) (i : Nat), firstNon (l.map osD) i = idxF (l.map Option.isSome) i
  | [], i => rfl
  | none :: l, i => by simp [firstNon, idxF, osD, isNonD]
  | some s :: l, i => by
    have e : isNonD (osD (some s)) = false := isNon_os (some s)
    simp only [List.map_cons, firstNon, e, Bool.false_eq_true, if_false, idxF, Option.isSome_some, if_true]
    exact firstNon_os l (i + 1)
theorem filt_idx : ∀ (l : List Bool) (k : Nat), ((List.range' k l.length).filter fun i => !(l[i - k]?).getD true).head? = idxF l k
  | [], k => rfl
  | b :: l, k => by
    have e : (List.range' (k + 1) l.length).filter (fun i => !((b :: l)[i - k]?).getD true) = (List.range' (k + 1) l.length).filter fun i => !(l[i - (k + 1)]?).getD true := by
      apply List.filter_congr
      intro i hi
      have := List.mem_range'_1.mp hi
      have e2 : i - k = (i - (k + 1)) + 1 := by omega
      rw [e2, List.getElem?_cons_succ]
    rw [List.length_cons, List.range'_succ, List.filter_cons, e]
    cases b
    · simp [idxF]
    · simp only [Nat.sub_self, List.getElem?_cons_zero, Option.getD_some, Bool.not_true, Bool.false_eq_true, if_false, idxF, if_true]
      exact filt_idx l (k + 1)
theorem enumD_map {α : Type} (h : α → D) : ∀ (xs : List α) (k : Nat), enumD k (xs.map h) = (xs.zipIdx k).map fun p => .tup [.int (p.2 : Nat), h p.1]
  | [], k => rfl
  | x :: xs, k => by simp only [List.map_cons, enumD, List.zipIdx_cons, enumD_map h xs (k + 1)]
section
variable {cal : List Str} {us : List Du} {rs : List Ru} {st : Sto}
def behAll (cal : List Str) (us : List Du) (rs : List Ru) (xs : List Int) (s : Std) : Option Std := foldO (fun x s => behB cal us rs x s) xs s
/-- the first day and rule that are broken, behind pre -/
def wrF (cal : List Str) (us : List Du) (rs : List Ru) : List Int → List Int → Option (Nat × Nat)
  | _, [] => none
  | pre, x :: xs => match idxF ((allR rs).map fun r => keepsL cal us r (pre ++ [x])) 0 with
    | some j => some (pre.length, j)
    | none => wrF cal us rs (pre ++ [x]) xs
def wrD : Option (Nat × Nat) → D
  | none => .non
  | some p => .tup [.int (p.1 : Nat), .int ((p.2 : Int) - 1)]
theorem okR_app {xs : List Int} {x : Int} (h : okR us xs) (h1 : 0 ≤ x) (h2 : x ≤ us.length) : okR us (xs ++ [x]) := fun y hy => by
  rcases List.mem_append.mp hy with hy | hy
  · exact h y hy
  · simp at hy; subst hy; exact ⟨h1, h2⟩
/-- the facts that all of a book's defs rest on -/
structure Bk (cal : List Str) (us : List Du) (rs : List Ru) : Prop where
  hc : cal ≠ []
  okc : okCal cal = true
  hd : okDs us = true
  hr : ∀ r ∈ rs, Ru.fits cal us r = true
  len : rs.length ≤ 6
theorem Bk.fits (B : Bk cal us rs) : fitsAll cal us rs := fitsAll_of B.hr
theorem Bk.us7 (B : Bk cal us rs) : us.length ≤ 7 := by
  have := B.hd
  simp only [okDs, Bool.and_eq_true, decide_eq_true_eq] at this
  exact this.1.2
theorem Bk.no (B : Bk cal us rs) : bookEr cal us (rsX rs) = none := by
  have h1 : (rsX rs).all (Xr.fits cal us) = true := by
    simp only [rsX, List.all_map, List.all_eq_true, Function.comp_def, Xr.fits]
    exact B.hr
  have h2 : (rsX rs).length = rs.length := by simp [rsX]
  have := B.len
  simp [bookEr, B.okc, B.hd, h1, h2, this]
theorem behall_eq (B : Bk cal us rs) {xs ys : List Int} {s : Std} (J : JB cal us rs ys s) (hy : okR us ys) (hx : okR us xs) (st : Sto) :
    d_behind_all [bkD cal us (rsX rs), stdD s, intsT xs] st = .ok (osbD (behAll cal us rs xs s)) st := by
  have key := forD_fold (h := D.int) (f := fun x s => behB cal us rs x s) (I := fun s ρ => (∃ o3, ρ = [some (bkD cal us (rsX rs)), some (stdD s), some (intsT xs), o3]) ∧ ∃ ys, JB cal us rs ys s ∧ okR us ys) (t := .nm 3) (body := l1_behind_all) (st := st) (d := .non) (xs := xs) (a := s)
    (ρ := [some (bkD cal us (rsX rs)), some (stdD s), some (intsT xs), none]) (fun x hxm s ρ ⟨⟨o3, e⟩, ys, J, hy⟩ => by
      subst e
      have hxi := hx x hxm
      have be := fun st => behind_eq (by have := B.len; omega) B.fits (J.std B.hc) hxi.1 hxi.2 st
      have js := (JB_step B.fits B.hd B.hc hy hxi.1 hxi.2 J).2
      refine ⟨_, by simp only [gT_nm, List.set]; rfl, ?_⟩
      cases q : behB cal us rs x s with
      | none =>
        rw [q] at be
        simp [be, osbD]
      | some s' =>
        rw [q] at be
        refine ⟨_, .inl ?_, ⟨some (.int x), rfl⟩, ys ++ [x], js s' q, okR_app hy hxi.1 hxi.2⟩
        have ni : ∀ st, gIs st (stdD s') .non = some false := fun st => rfl
        simp [be, osbD, ni]) ⟨⟨none, rfl⟩, ys, J, hy⟩
  have it : iSeq (eVar 2) [some (bkD cal us (rsX rs)), some (stdD s), some (intsT xs), none] st = .ok (xs.map D.int) st := by
    have it : ∀ st, itemsD st (intsT xs) = some (xs.map .int, st) := fun st => rfl
    simp [it]
  unfold behAll
  cases q : foldO (fun x s => behB cal us rs x s) xs s with
  | none =>
    rw [q] at key
    exact den_rt rfl rfl (run_ret (for_rt it key))
  | some s' =>
    rw [q] at key
    obtain ⟨ρ', e1, ⟨o3, rfl⟩, _⟩ := key
    exact den_rt rfl rfl (run_seq (for_nx it e1) (by simp [osbD]))
/-- what stands behind a right roster -/
theorem behall_JB (B : Bk cal us rs) : ∀ {xs ys : List Int} {s s' : Std}, JB cal us rs ys s → okR us ys → okR us xs → behAll cal us rs xs s = some s' → JB cal us rs (ys ++ xs) s'
  | [], ys, s, s', J, hy, hx, h => by
    cases h
    simpa using J
  | x :: xs, ys, s, s', J, hy, hx, h => by
    have hxi := hx x List.mem_cons_self
    unfold behAll foldO at h
    cases q : behB cal us rs x s with
    | none => rw [q] at h; cases h
    | some s1 =>
      rw [q] at h
      have J1 := (JB_step B.fits B.hd B.hc hy hxi.1 hxi.2 J).2 s1 q
      have := behall_JB B (xs := xs) J1 (okR_app hy hxi.1 hxi.2) (fun y hy => hx y (List.mem_cons_of_mem _ hy)) h
      simpa using this
end
end Lw

set_option Elab.async false
set_option linter.all false
set_option autoImplicit false
set_option maxRecDepth 100000
set_option maxHeartbeats 4000000
namespace Lw
open PySem PySem.Spec PyProof.Rows L2 Fn
/-! ### the law's book -/
theorem sl_to (xs : List Int) (j : Nat) (st : Sto) : sliceD st (intsT xs) none (some (j : Int)) = some (intsT (xs.take j)) := by
  have q := sl_midT xs 0 j st
  have e : sliceD st (intsT xs) none (some (j : Int)) = sliceD st (intsT xs) (some ((0 : Nat) : Int)) (some (j : Int)) := by
    show some (D.tup (Fn.cutD _ _ _)) = some (D.tup (Fn.cutD _ _ _))
    unfold Fn.cutD
    have : ∀ n, HT.sIx n 0 none = HT.sIx n 0 (some ((0 : Nat) : Int)) := fun n => by simp [HT.sIx]
    rw [this]
  rw [e, q]; simp
section
variable {cal : List Str} {us : List Du} {rs : List Ru} {st : Sto}
theorem bk_i2 (st : Sto) : gIx st (bkD cal us (rsX rs)) (.int 2) = some (.tup (rs.map Ru.d)) := by rw [← xsD_rs]; rfl
theorem lrules_eq (hl : rs.length ≤ 1000) (st : Sto) : d__law_rules [bkD cal us (rsX rs)] st = .ok (.tup ((allR rs).map Ru.d)) st := by
  have sz : 1 + rs.length ≤ sizeLine := by rw [sizeLine_eq]; omega
  have sz2 : (2 : Nat) ≤ sizeLine := by rw [sizeLine_eq]; omega
  have sz1 : (1 : Nat) ≤ sizeLine := by rw [sizeLine_eq]; omega
  simp [d__law_rules, b__law_rules, List.replicate, bk_i2, sz, sz1, sz2, allR, Ru.d]
theorem lstep_eq (B : Bk cal us rs) {s : Std} {x : Int} (hs : OkStd cal rs s) (h1 : 0 ≤ x) (h2 : x ≤ us.length) (st : Sto) : d__law_step [bkD cal us (rsX rs), stdD s, .int x] st = .ok (osbD (behB cal us rs x s)) st := by
  have lr := fun st => lrules_eq (cal := cal) (us := us) (rs := rs) (by have := B.len; omega) st
  have hn : (allR rs).length = rs.length + 1 := rfl
  have hlen := B.len
  have c : ∀ o4 o5 st, c1__law_step [some (bkD cal us (rsX rs)), some (stdD s), some (.int x), some (.tup ((allR rs).map Ru.d)), o4, o5] st = .ok (.lst ((partsB cal us x rs s).map osD)) st := fun o4 o5 st => by
    have q := lc_map (h := fun i : Nat => D.int (i : Int)) (g := fun i : Nat => osD (stepS cal us s.1 x (((allR rs)[i]?).getD (.rest 0)) ((s.2[i]?).getD (.n 0)))) (xs := List.range (allR rs).length) (fi := iRange1 (aCons (eCB gLen (aCons (eVar 3) aNil)) aNil)) (t := .nm 5)
      (fe := eCall (lenOk 5 d__law_part) (aCons (eVar 0) (aCons (eOp2 gIx (eVar 3) (eVar 5)) (aCons (eOp2 gIx (eVar 1) (eOp2 gAdd (eVar 5) (eC (.int 1)))) (aCons (eOp2 gIx (eVar 1) (eC (.int 0))) (aCons (eVar 2) aNil)))))) (vs := [5]) (ρ := [some (bkD cal us (rsX rs)), some (stdD s), some (.int x), some (.tup ((allR rs).map Ru.d)), o4, o5]) (st := st)
      (range_of _ (i := (allR rs).length) (by simp) (by omega) (by omega) (by omega)) (fun i hi st => by
        rw [List.mem_range] at hi
        have hi2 : i < s.2.length := by rw [hs.len]; exact hi
        have g1 := fun st => gIx_tab Ru.d (allR rs) i hi st
        have g2 : ∀ st, gIx st (stdD s) (.int ((i : Int) + 1)) = some (s.2[i]).d := fun st => by
          have hl : i + 1 < (s.2.map Sg.d).length + 1 := by simp; omega
          show L2.atI (.int (s.1 : Nat) :: s.2.map Sg.d) ((i : Int) + 1) = _
          unfold L2.atI L2.ixN
          rw [if_pos (by omega), if_pos (by simp; omega)]
          have : ((i : Int) + 1).toNat = i + 1 := by omega
          simp [this, List.getElem?_eq_getElem hi2]
        have hm : ((allR rs)[i], s.2[i]) ∈ (allR rs).zip s.2 := by
          rw [List.mem_iff_getElem]
          exact ⟨i, by rw [List.length_zip]; omega, by simp⟩
        have pq : ∀ st, d__law_part [bkD cal us (rsX rs), ((allR rs)[i]).d, (s.2[i]).d, .int (s.1 : Nat), .int x] st = .ok (osD (stepS cal us s.1 x (allR rs)[i] s.2[i])) st := fun st => part_eq (B.fits _ (List.getElem_mem hi)) (hs.ok _ hm) hs.ph h1 h2
        have i0 := std_i0 s
        rw [List.getElem?_eq_getElem hi, List.getElem?_eq_getElem hi2]
        exact ⟨_, by simp [wipeR]; rfl, by simp [g1, g2, i0, pq]⟩) fun i _ => osD_mu _
    have e : (List.range (allR rs).length).map (fun i : Nat => osD (stepS cal us s.1 x (((allR rs)[i]?).getD (.rest 0)) ((s.2[i]?).getD (.n 0)))) = (partsB cal us x rs s).map osD := by
      unfold partsB
      apply List.ext_getElem
      · simp [hs.len]
      · intro i hi1 hi2
        simp only [List.length_map, List.length_range] at hi1
        have hi3 : i < s.2.length := by rw [hs.len]; exact hi1
        simp [List.getElem?_eq_getElem hi1, List.getElem?_eq_getElem hi3]
    rw [← e]; exact q
  have no := noIn_os (partsB cal us x rs s)
  have hc0 : 0 < cal.length := List.length_pos_iff.mpr B.hc
  have i0 := std_i0 s
  have b0 := bk_i0 (cal := cal) (us := us) (rs := rs)
  have cl := cal_len (cal := cal)
  cases q : behB cal us rs x s with
  | none =>
    have a := parts_none.mp q
    rw [a] at no
    simp [d__law_step, b__law_step, List.replicate, lr, c, no, osbD]
  | some s' =>
    obtain ⟨a, b, e⟩ := parts_some q
    rw [a] at no
    rw [b] at c no
    have len : s'.2.length = (allR rs).length := by
      have := congrArg List.length b
      simp only [partsB, List.length_map, List.length_zip, hs.len, Nat.min_self] at this
      exact this.symm
    have sz : 1 + s'.2.length ≤ sizeLine := by rw [sizeLine_eq, len]; omega
    have sz1 : (1 : Nat) ≤ sizeLine := by rw [sizeLine_eq]; omega
    have gm := ph_next (cal := cal) (s := s) hc0
    rw [← e] at gm
    simp [d__law_step, b__law_step, List.replicate, lr, c, no, osbD, i0, b0, cl, gm, sz, sz1]
    rfl
theorem okR_take {xs : List Int} (h : okR us xs) (n : Nat) : okR us (xs.take n) := fun y hy => h y (List.mem_of_mem_take hy)
end
end Lw

set_option Elab.async false
set_option linter.all false
set_option autoImplicit false
set_option maxRecDepth 100000
set_option maxHeartbeats 1000000
namespace Lw
open PySem PySem.Spec PyProof.Rows L2 Fn
theorem kN : kindD "BadNumber" = some (.str "!number") := by rfl
theorem kC : kindD "NotCalendar" = some (.str "!calendar") := by rfl
theorem kO : kindD "NotRoster" = some (.str "!roster") := by rfl
/-! ### what is asked -/
/-! ### texts -/
theorem sgs_sm : ∀ l : List Sg, (∀ s ∈ l, s.small) → smallPs (toPs (l.map Sg.d)) = true ∧ PyData.depthAll (toPs (l.map Sg.d)) ≤ 1 ∧ PyData.weightAll (toPs (l.map Sg.d)) ≤ 701 * l.length
  | [], _ => ⟨rfl, by simp [toPs, PyData.depthAll], by simp [toPs, PyData.weightAll]⟩
  | s :: l, h => by
    have a := sg_sm (h s List.mem_cons_self)
    have b := sgs_sm l fun x hx => h x (List.mem_cons_of_mem _ hx)
    simp only [List.map_cons, toPs, smallPs, PyData.depthAll, PyData.weightAll, a.1, b.1, List.length_cons]
    exact ⟨rfl, by omega, by omega⟩
section
variable {cal : List Str} {us : List Du} {rs : List Ru} {st : Sto}
theorem std_sm (B : Bk cal us rs) {s : Std} (hs : OkStd cal rs s) : smallP (toP (stdD s)) = true ∧ (toP (stdD s)).depth ≤ 2 ∧ (toP (stdD s)).weight ≤ 6000 := by
  have hlen := B.len
  have hl : s.2.length ≤ 7 := by rw [hs.len]; simp [allR]; omega
  have q := sgs_sm s.2 fun g hg => by
    obtain ⟨i, hi, e⟩ := List.mem_iff_getElem.mp hg
    have hi2 : i < (allR rs).length := by rw [← hs.len]; exact hi
    have hm : ((allR rs)[i], g) ∈ (allR rs).zip s.2 := by
      rw [List.mem_iff_getElem]
      exact ⟨i, by rw [List.length_zip]; omega, by simp [e]⟩
    exact okS_small (B.fits _ (List.getElem_mem hi2)) (hs.ok _ hm)
  have hc : cal.length ≤ 14 := by
    have := B.okc
    simp only [okCal, Bool.and_eq_true, decide_eq_true_eq] at this
    exact this.1.2
  have hp := hs.ph
  have hn : ((s.1 : Nat) : Int).natAbs < 10 ^ 12 := by omega
  have w := weight_int hn
  simp only [stdD, toP, toPs, smallP, smallPs, PyData.depth, PyData.depthAll, PyData.weight, PyData.weightAll, q.1] at w ⊢
  refine ⟨by rw [decide_eq_true hn]; rfl, by omega, by omega⟩
theorem osb_sm (B : Bk cal us rs) {o : Option Std} (hs : ∀ s, o = some s → OkStd cal rs s) : smallP (toP (osbD o)) = true ∧ (toP (osbD o)).depth ≤ 2 ∧ (toP (osbD o)).weight ≤ 6000 := by
  cases o with
  | none => exact ⟨rfl, by simp [osbD, toP, PyData.depth], by simp [osbD, toP, PyData.weight]⟩
  | some s => exact std_sm B (hs s rfl)
theorem two20 : (2 : Nat) ^ 20 = 1048576 := by decide
theorem repr_osb (B : Bk cal us rs) {o : Option Std} (hs : ∀ s, o = some s → OkStd cal rs s) (st : Sto) : gRepr st [osbD o] = some (.str (toP (osbD o)).shown) := by
  have a := osb_sm B hs
  exact gRepr_of (osbD_mu o) a.1 (by omega) (by have := two20; omega)
theorem repr_intsL {xs : List Int} (h : ∀ v ∈ xs, -1000 ≤ v ∧ v ≤ 1000) (hl : xs.length ≤ 1000) (st : Sto) : gRepr st [intsL xs] = some (.str (toP (intsL xs)).shown) := by
  have q := ints_small xs h
  refine gRepr_of rfl ?_ ?_ ?_
  · simp only [intsL, toP, smallP, q.1]
  · simp only [intsL, toP, PyData.depth, q.2.1]; omega
  · simp only [intsL, toP, PyData.weight]; have := two20; omega
theorem wrD_sm {o : Option (Nat × Nat)} (h : ∀ p, o = some p → p.1 ≤ 1000 ∧ p.2 ≤ 1000) : smallP (toP (wrD o)) = true ∧ (toP (wrD o)).depth ≤ 2 ∧ (toP (wrD o)).weight ≤ 6000 := by
  cases o with
  | none => exact ⟨rfl, by simp [wrD, toP, PyData.depth], by simp [wrD, toP, PyData.weight]⟩
  | some p =>
    obtain ⟨h1, h2⟩ := h p rfl
    have n1 : ((p.1 : Nat) : Int).natAbs < 10 ^ 12 := by omega
    have n2 : ((p.2 : Nat) - 1 : Int).natAbs < 10 ^ 12 := by omega
    have w1 := weight_int n1
    have w2 := weight_int n2
    simp only [wrD, toP, toPs, smallP, smallPs, PyData.depth, PyData.depthAll, PyData.weight, PyData.weightAll] at w1 w2 ⊢
    refine ⟨by rw [decide_eq_true n1, decide_eq_true n2]; rfl, by omega, by omega⟩
theorem repr_due (B : Bk cal us rs) {o : Option Std} {b : Bool} {q : Option (Nat × Nat)} (hs : ∀ s, o = some s → OkStd cal rs s) (h : ∀ p, q = some p → p.1 ≤ 1000 ∧ p.2 ≤ 1000) (st : Sto) :
    gRepr st [.lst [osbD o, .bl b, wrD q]] = some (.str (toP (.lst [osbD o, .bl b, wrD q])).shown) := by
  have a := osb_sm B hs
  have c := wrD_sm h
  refine gRepr_of rfl ?_ ?_ ?_
  · simp only [toP, toPs, smallP, smallPs, a.1, c.1, Bool.and_self]
  · simp only [toP, toPs, PyData.depth, PyData.depthAll]; omega
  · simp only [toP, toPs, PyData.weight, PyData.weightAll]; have := two20; omega
theorem wrF_in {xs : List Int} : ∀ {pre : List Int} {p : Nat × Nat}, wrF cal us rs pre xs = some p → p.1 ≤ pre.length + xs.length ∧ p.2 < (allR rs).length := by
  have lt : ∀ {l : List Bool} {i j : Nat}, idxF l i = some j → j < i + l.length := by
    intro l
    induction l with
    | nil => intro i j h; cases h
    | cons b l ih =>
      intro i j h
      unfold idxF at h
      split at h
      · have := ih h; simp; omega
      · cases h; simp
  induction xs with
  | nil => intro pre p h; cases h
  | cons x xs ih =>
    intro pre p h
    unfold wrF at h
    split at h
    · next j hj =>
      cases h
      have q := lt hj
      rw [List.length_map] at q
      exact ⟨by simp, by simpa using q⟩
    · have q := ih h
      rw [List.length_append, List.length_singleton] at q
      exact ⟨by simp; omega, q.2⟩
/-- right just if nothing is wrong -/
theorem wrF_right (B : Bk cal us rs) : ∀ {xs pre : List Int} {s : Std}, okR us xs → okR us pre → JB cal us rs pre s → (wrF cal us rs pre xs).isNone = (behAll cal us rs xs s).isSome
  | [], pre, s, _, _, _ => rfl
  | x :: xs, pre, s, hx, hp, J => by
    have hxi := hx x List.mem_cons_self
    have JP := JB_parts B.fits B.hd B.hc hp hxi.1 hxi.2 J
    have js := JB_step B.fits B.hd B.hc hp hxi.1 hxi.2 J
    unfold wrF behAll foldO
    rw [← JP]
    cases q : behB cal us rs x s with
    | some s' =>
      have z : idxF ((partsB cal us x rs s).map Option.isSome) 0 = none := by
        rw [idxF_none, List.all_map]
        obtain ⟨a, _⟩ := parts_some q
        rw [List.all_eq_true]
        intro o ho
        cases o with
        | some b => rfl
        | none => rw [List.any_eq_false] at a; exact absurd rfl (a none ho)
      simp only [z]
      exact wrF_right B (fun y hy => hx y (List.mem_cons_of_mem _ hy)) (okR_app hp hxi.1 hxi.2) (js.2 s' q)
    | none =>
      have a := parts_none.mp q
      cases z : idxF ((partsB cal us x rs s).map Option.isSome) 0 with
      | some j => rfl
      | none =>
        have z2 := idxF_none.mp z
        rw [List.all_map] at z2
        rw [List.any_eq_true] at a
        obtain ⟨o, ho, hn⟩ := a
        have := List.all_eq_true.mp z2 o ho
        cases o with
        | none => cases this
        | some b => cases hn
theorem foldO_app {α σ : Type} (f : α → σ → Option σ) : ∀ (xs ys : List α) (a : σ), foldO f (xs ++ ys) a = (foldO f xs a).bind fun b => foldO f ys b
  | [], ys, a => rfl
  | x :: xs, ys, a => by
    simp only [List.cons_append, foldO]
    cases f x a with
    | none => rfl
    | some b => exact foldO_app f xs ys b
theorem behAll_snoc (xs : List Int) (x : Int) (s : Std) : behAll cal us rs (xs ++ [x]) s = (behAll cal us rs xs s).bind (behB cal us rs x) := by
  unfold behAll
  rw [foldO_app]
  congr 1
  funext b
  simp only [foldO]
  cases behB cal us rs x b <;> rfl
end
end Lw

set_option Elab.async false
set_option linter.all false
set_option autoImplicit false
set_option maxRecDepth 100000
set_option maxHeartbeats 1000000
namespace Lw
open PySem PySem.Spec PyProof.Rows L2 Fn
/-! ### demands and houses -/
structure Tri where
  z : Str
  lo : Int
  hi : Int
def Tri.d (t : Tri) : D := .tup [.str t.z, .int t.lo, .int t.hi]
abbrev Ent := List Tri
def entD (e : Ent) : D := .tup (e.map Tri.d)
def demD (dm : List Ent) : D := .tup (dm.map entD)
@[simp] theorem tri_mu (t : Tri) : muD t.d = false := rfl
@[simp] theorem entD_mu (e : Ent) : muD (entD e) = false := rfl
@[simp] theorem demD_mu (e : List Ent) : muD (demD e) = false := rfl
def okTri (t : Tri) : Bool := isSo t.z && (decide (0 ≤ t.lo) && (decide (t.lo ≤ t.hi) && decide (t.hi ≤ 6)))
def okEnt (e : Ent) : Bool := decide (e.length ≤ 4) && e.all okTri
def okDem (n : Nat) (dm : List Ent) : Bool := decide (dm.length = n) && dm.all okEnt
def okCrew (n : Int) : Bool := decide (1 ≤ n) && decide (n ≤ 6)
theorem entry_eq (e : Ent) (st : Sto) : d_is_entry [entD e] st = .ok (.bl (okEnt e)) st := by
  have z : ∀ st, c1_is_entry [some (entD e), none, none, none] st = .ok (.lst (e.map fun t => .bl (okTri t))) st := fun st =>
    lc_map (h := Tri.d) (by simp [entD]) (fun t ht s => ⟨_, by simp [wipeR, Tri.d]; rfl, by
      obtain ⟨z, lo, hi⟩ := t
      cases h0 : isSo z with
      | false => simp [sort_eq, h0, okTri]
      | true =>
        cases h1 : decide (0 ≤ lo) with
        | false => simp [sort_eq, h0, okTri, h1, chnR]
        | true => cases h2 : decide (lo ≤ hi) with
          | false => simp [sort_eq, h0, okTri, h1, h2, chnR]
          | true => cases h3 : decide (hi ≤ 6) <;> simp [sort_eq, h0, okTri, h1, h2, h3, chnR]⟩) fun p hp => rfl
  have l : ∀ st, gLen st [entD e] = some (.int e.length) := fun st => by simp [entD]
  have e1 : decide ((4 : Int) < e.length) = !decide (e.length ≤ 4) := by
    rw [← decide_not]; apply decide_eq_decide.mpr; omega
  cases h : decide (e.length ≤ 4) with
  | false => simp [d_is_entry, b_is_entry, List.replicate, l, okEnt, h, e1]
  | true => simp [d_is_entry, b_is_entry, List.replicate, l, okEnt, h, e1, z, gAll_map]
theorem demand_eq {cal : List Str} {u x : D} (dm : List Ent) (st : Sto) : d_is_demand [.tup [strsD cal, u, x], demD dm] st = .ok (.bl (okDem cal.length dm)) st := by
  have z : ∀ st, c1_is_demand [some (.tup [strsD cal, u, x]), some (demD dm), none] st = .ok (.lst (dm.map fun t => .bl (okEnt t))) st := fun st =>
    lc_map (h := entD) (by simp [demD]) (fun t ht s => ⟨_, by simp [wipeR]; rfl, by simp [entry_eq]⟩) fun p hp => rfl
  have l : ∀ st, gLen st [demD dm] = some (.int dm.length) := fun st => by simp [demD]
  have l2 : ∀ st, gLen st [strsD cal] = some (.int cal.length) := fun st => by simp [strsD]
  have e1 : decide ((dm.length : Int) = cal.length) = decide (dm.length = cal.length) := by
    apply decide_eq_decide.mpr; omega
  cases h : decide (dm.length = cal.length) with
  | false => simp [d_is_demand, b_is_demand, List.replicate, l, l2, okDem, h, e1]
  | true => simp [d_is_demand, b_is_demand, List.replicate, l, l2, okDem, h, e1, z, gAll_map]
theorem crew_eq (n : Int) (st : Sto) : d_is_crew [.int n] st = .ok (.bl (okCrew n)) st := by
  have c : ∀ st, eChain gLe gLe (eC (.int 1)) (eVar 0) (eC (.int 6)) [some (.int n)] st = .ok (.bl (okCrew n)) st := fun st => eChain_lele rfl (by simp) rfl
  simp [d_is_crew, b_is_crew, List.replicate, c]
def hsD (cal : List Str) (us : List Du) (rs : List Ru) (n : Int) (dm : List Ent) : D := .tup [bkD cal us (rsX rs), .int n, demD dm]
section
variable {cal : List Str} {us : List Du} {rs : List Ru} {n : Int} {dm : List Ent}
theorem ishouse_eq (B : Bk cal us rs) (st : Sto) : d_is_house [bkD cal us (rsX rs), .int n, demD dm] st = .ok (.bl (okCrew n && okDem cal.length dm)) st := by
  have bo : okBook cal us (rsX rs) = true := by
    have h1 : (rsX rs).all (Xr.fits cal us) = true := by
      simp only [rsX, List.all_map, List.all_eq_true, Function.comp_def, Xr.fits]
      exact B.hr
    have h2 : (rsX rs).length = rs.length := by simp [rsX]
    have := B.len
    simp [okBook, B.okc, B.hd, h1, h2, this]
  have be : ∀ st, d_is_book [strsD cal, dsD us, xsD (rsX rs)] st = .ok (.bl true) st := fun st => by rw [book_eq, bo]
  have de : ∀ st, d_is_demand [bkD cal us (rsX rs), demD dm] st = .ok (.bl (okDem cal.length dm)) st := fun st => demand_eq dm st
  have sq : ∀ st, seqD st (bkD cal us (rsX rs)) = some [strsD cal, dsD us, xsD (rsX rs)] := fun st => rfl
  cases h : okCrew n with
  | false => simp [d_is_house, b_is_house, List.replicate, be, sq, crew_eq, h]
  | true => simp [d_is_house, b_is_house, List.replicate, be, sq, crew_eq, h, de]
structure Hs (cal : List Str) (us : List Du) (rs : List Ru) (n : Nat) (dm : List Ent) : Prop extends Bk cal us rs where
  crew : 1 ≤ n ∧ n ≤ 6
  dem : okDem cal.length dm = true
theorem chouse_ok {n : Nat} (B : Hs cal us rs n dm) (st : Sto) : d_check_house [hsD cal us rs n dm] st = .ok .non st := by
  have cb := fun st => cbook_ok B.no st
  have de : ∀ st, d_is_demand [bkD cal us (rsX rs), demD dm] st = .ok (.bl true) st := fun st => by rw [← B.dem]; exact demand_eq dm st
  have cr : ∀ st, d_is_crew [.int (n : Nat)] st = .ok (.bl true) st := fun st => by
    rw [crew_eq]
    have : okCrew n = true := by have := B.crew; simp [okCrew]; omega
    rw [this]
  simp [d_check_house, b_check_house, List.replicate, hsD, cb, cr, de]
theorem chouse_n (B : Bk cal us rs) (X : D) (st : Sto) : d_check_house [.tup [bkD cal us (rsX rs), .int 0, X]] st = .er ⟨"BadNumber", none⟩ st := by
  have cb := fun st => cbook_ok B.no st
  have cr : ∀ st, d_is_crew [.int 0] st = .ok (.bl false) st := fun st => crew_eq 0 st
  simp [d_check_house, b_check_house, List.replicate, cb, cr]
theorem chouse_d {n : Nat} (B : Bk cal us rs) (hn : 1 ≤ n ∧ n ≤ 6) (h : okDem cal.length dm = false) (st : Sto) : d_check_house [hsD cal us rs n dm] st = .er ⟨"NotDemand", none⟩ st := by
  have cb := fun st => cbook_ok B.no st
  have de : ∀ st, d_is_demand [bkD cal us (rsX rs), demD dm] st = .ok (.bl false) st := fun st => by rw [← h]; exact demand_eq dm st
  have cr : ∀ st, d_is_crew [.int (n : Nat)] st = .ok (.bl true) st := fun st => by
    rw [crew_eq]
    have : okCrew n = true := by simp [okCrew]; omega
    rw [this]
  simp [d_check_house, b_check_house, List.replicate, hsD, cb, cr, de]
theorem chouse_c (u X : D) (m : D) (Y : D) (st : Sto) : d_check_house [.tup [.tup [.tup [], u, X], m, Y]] st = .er ⟨"NotCalendar", none⟩ st := by
  have e : ∀ st, d_check_calendar [.tup []] st = .er ⟨"NotCalendar", none⟩ st := fun st => ccal_er (cal := []) (by simp [okCal])
  have cb : ∀ st, d_check_book [.tup [.tup [], u, X]] st = .er ⟨"NotCalendar", none⟩ st := fun st => by simp [d_check_book, b_check_book, List.replicate, e]
  simp [d_check_house, b_check_house, List.replicate, cb]
def okDay (us : List Du) (n : Nat) (xs : List Int) : Bool := decide (xs.length = n) && xs.all fun (x : Int) => b2 0 x us.length
theorem isday_eq {n : Nat} (xs : List Int) (st : Sto) : d_is_day [hsD cal us rs n dm, intsT xs] st = .ok (.bl (okDay us n xs)) st := by
  have ir := isrow_eq (us := us) xs
  have l : ∀ st, gLen st [intsT xs] = some (.int xs.length) := fun st => by simp [intsT]
  have h0 : ∀ st, gIx st (hsD cal us rs n dm) (.int 0) = some (bkD cal us (rsX rs)) := fun st => rfl
  have h1 : ∀ st, gIx st (hsD cal us rs n dm) (.int 1) = some (.int n) := fun st => rfl
  have b1 := bk_i1 (cal := cal) (us := us) (rs := rs)
  have e1 : decide ((xs.length : Int) = n) = decide (xs.length = n) := by
    apply decide_eq_decide.mpr; omega
  cases h : decide (xs.length = n) with
  | false => simp [d_is_day, b_is_day, List.replicate, l, h0, h1, b1, e1, h, okDay]
  | true => simp [d_is_day, b_is_day, List.replicate, l, h0, h1, b1, e1, h, okDay, ir]
/-! a day meets an entry -/
def cntL (us : List Du) (xs : List Int) (z : Str) : Nat := (xs.filter fun x => isOf us x z).length
def metT (us : List Du) (xs : List Int) (t : Tri) : Bool := decide (t.lo ≤ cntL us xs t.z) && decide ((cntL us xs t.z : Int) ≤ t.hi)
def metL (us : List Du) (e : Ent) (xs : List Int) : Bool := e.all (metT us xs)
theorem lmet_eq {xs : List Int} (hx : okR us xs) (e : Ent) (st : Sto) : d__law_met [dsD us, entD e, intsT xs] st = .ok (.bl (metL us e xs)) st := by
  have c1 : ∀ (z : Str) o4 o5 o6 st, c1__law_met [some (dsD us), some (entD e), some (intsT xs), some (.str z), o4, o5, o6] st = .ok (.lst ((xs.filter fun x => isOf us x z).map .int)) st := fun z o4 o5 o6 st =>
    lc_sel (h := D.int) (g := D.int) (by simp [intsT]) (fun x hxm st => by
      have h := hx x hxm
      have he := fun st => has_eq (us := us) (z := z) h.1 h.2 st
      exact ⟨_, by simp [wipeR]; rfl, by simp [he], fun _ => by simp⟩) fun _ _ => rfl
  have c2 : ∀ st, c2__law_met [some (dsD us), some (entD e), some (intsT xs), none, none, none, none] st = .ok (.lst (e.map fun t => .bl (metT us xs t))) st := fun st =>
    lc_map (h := Tri.d) (by simp [entD]) (fun t ht st => ⟨[some (dsD us), some (entD e), some (intsT xs), some (.str t.z), some (.int t.lo), some (.int t.hi), none], by simp [wipeR, Tri.d], by
      have q : ∀ st, eCB gLen (aCons c1__law_met aNil) [some (dsD us), some (entD e), some (intsT xs), some (.str t.z), some (.int t.lo), some (.int t.hi), none] st = .ok (.int (cntL us xs t.z : Nat)) st := fun st => by
        have := c1 t.z (some (.int t.lo)) (some (.int t.hi)) none
        simp [this, cntL]
      exact eChain_lele (by simp) (q _) (by simp)⟩) fun _ _ => rfl
  simp [d__law_met, b__law_met, List.replicate, c2, gAll_map, metL]
theorem h_i0 {n : Int} (st : Sto) : gIx st (hsD cal us rs n dm) (.int 0) = some (bkD cal us (rsX rs)) := rfl
theorem h_i1 {n : Int} (st : Sto) : gIx st (hsD cal us rs n dm) (.int 1) = some (.int n) := rfl
theorem h_i2 {n : Int} (st : Sto) : gIx st (hsD cal us rs n dm) (.int 2) = some (demD dm) := rfl
theorem gIx_dem {ph : Nat} (h : ph < dm.length) (st : Sto) : gIx st (demD dm) (.int (ph : Nat)) = some (entD ((dm[ph]?).getD [])) := by
  have := gIx_tab entD dm ph h st
  rw [List.getElem?_eq_getElem h]
  exact this
theorem met_eq {n : Int} {xs : List Int} (hx : okR us xs) {ph : Nat} (h : ph < dm.length) (st : Sto) : d_met [hsD cal us rs n dm, .int (ph : Nat), intsT xs] st = .ok (.bl (metL us ((dm[ph]?).getD []) xs)) st := by
  have gd := gIx_dem (dm := dm) h
  have b1 := bk_i1 (cal := cal) (us := us) (rs := rs)
  generalize (dm[ph]?).getD [] = e at gd
  have c1 : ∀ (z : Str) o5 o6 o7 st, c1_met [some (hsD cal us rs n dm), some (.int (ph : Nat)), some (intsT xs), some (dsD us), some (.str z), o5, o6, o7] st = .ok (.lst ((xs.filter fun x => isOf us x z).map .int)) st := fun z o5 o6 o7 st =>
    lc_sel (h := D.int) (g := D.int) (by simp [intsT]) (fun x hxm st => by
      have h := hx x hxm
      have he := fun st => of_eq (us := us) (z := z) h.1 h.2 st
      exact ⟨_, by simp [wipeR]; rfl, by simp [he], fun _ => by simp⟩) fun _ _ => rfl
  have key := forD_look (h := Tri.d) (p := metT us xs) (I := fun ρ => ∃ o4 o5 o6 o7, ρ = [some (hsD cal us rs n dm), some (.int (ph : Nat)), some (intsT xs), some (dsD us), o4, o5, o6, o7]) (t := .tp [.nm 4, .nm 5, .nm 6]) (body := l1_met) (st := st) (d := .bl false) (xs := e)
    (ρ := [some (hsD cal us rs n dm), some (.int (ph : Nat)), some (intsT xs), some (dsD us), none, none, none, none]) (fun t ht ρ ⟨o4, o5, o6, o7, er⟩ => by
      subst er
      have q : ∀ st, eCB gLen (aCons c1_met aNil) [some (hsD cal us rs n dm), some (.int (ph : Nat)), some (intsT xs), some (dsD us), some (.str t.z), some (.int t.lo), some (.int t.hi), o7] st = .ok (.int (cntL us xs t.z : Nat)) st := fun st => by
        have := c1 t.z (some (.int t.lo)) (some (.int t.hi)) o7
        simp [this, cntL]
      have w : ∀ st, tChn gLe gLe (eVar 5) (eCB gLen (aCons c1_met aNil)) (eVar 6) [some (hsD cal us rs n dm), some (.int (ph : Nat)), some (intsT xs), some (dsD us), some (.str t.z), some (.int t.lo), some (.int t.hi), o7] st = .ok (metT us xs t) st := fun st => tChn_lele (by simp) (q _) (by simp)
      refine ⟨[some (hsD cal us rs n dm), some (.int (ph : Nat)), some (intsT xs), some (dsD us), some (.str t.z), some (.int t.lo), some (.int t.hi), o7], by simp [Tri.d], fun hp => ⟨[some (hsD cal us rs n dm), some (.int (ph : Nat)), some (intsT xs), some (dsD us), some (.str t.z), some (.int t.lo), some (.int t.hi), o7], .inl ?_, _, _, _, _, rfl⟩, fun hp => ?_⟩
      · rw [hp] at w; simp only [sIf_q, tNotF_q, w, R.bind]; simp
      · rw [hp] at w; simp only [sIf_q, tNotF_q, w, R.bind]; simp) ⟨_, _, _, _, rfl⟩
  have it : iSeq (eOp2 gIx (eOp2 gIx (eVar 0) (eC (.int 2))) (eVar 1)) [some (hsD cal us rs n dm), some (.int (ph : Nat)), some (intsT xs), some (dsD us), none, none, none, none] st = .ok (e.map Tri.d) st := by
    have ie : ∀ st, itemsD st (entD e) = some (e.map Tri.d, st) := fun st => rfl
    simp [h_i2, gd, ie]
  have s0 : sAsg (.nm 3) (eOp2 gIx (eOp2 gIx (eVar 0) (eC (.int 0))) (eC (.int 1))) [some (hsD cal us rs n dm), some (.int (ph : Nat)), some (intsT xs), none, none, none, none, none] st = .nx [some (hsD cal us rs n dm), some (.int (ph : Nat)), some (intsT xs), some (dsD us), none, none, none, none] st := by
    simp [h_i0, b1]
  unfold metL
  cases q : e.all (metT us xs) with
  | true =>
    obtain ⟨ρ', e1, o4, o5, o6, o7, rfl⟩ := key.1 q
    exact den_rt rfl rfl (run_seq s0 (run_seq (for_nx it e1) (by simp)))
  | false => exact den_rt rfl rfl (run_seq s0 (run_ret (for_rt it (key.2 q))))
theorem b2_okR {xs : List Int} (h : (xs.all fun (x : Int) => b2 0 x us.length) = true) : okR us xs := okR_iff.mp h
theorem meets_ok {n : Nat} (B : Hs cal us rs n dm) {xs : List Int} (hl : xs.length = n) (hx : okR us xs) {ph : Nat} (h : ph < cal.length) (st : Sto) : d_meets [hsD cal us rs n dm, .int (ph : Nat), intsT xs] st = .ok (.bl (metL us ((dm[ph]?).getD []) xs)) st := by
  have hd : dm.length = cal.length := by have := B.dem; simp only [okDem, Bool.and_eq_true, decide_eq_true_eq] at this; exact this.1
  have ch := chouse_ok B
  have dy : ∀ st, d_is_day [hsD cal us rs n dm, intsT xs] st = .ok (.bl true) st := fun st => by
    rw [isday_eq]
    have : okDay us n xs = true := by simp only [okDay, hl, decide_true, Bool.true_and]; exact okR_iff.mpr hx
    rw [this]
  have c : ∀ st, tChn gLe gLt (eC (.int 0)) (eVar 1) (eCB gLen (aCons (eOp2 gIx (eOp2 gIx (eVar 0) (eC (.int 0))) (eC (.int 0))) aNil)) [some (hsD cal us rs n dm), some (.int (ph : Nat)), some (intsT xs)] st = .ok true st := fun st => by
    have b0 := bk_i0 (cal := cal) (us := us) (rs := rs)
    have cl := cal_len (cal := cal)
    have := tChn_lelt (fa := eC (.int 0)) (fb := eVar 1) (fc := eCB gLen (aCons (eOp2 gIx (eOp2 gIx (eVar 0) (eC (.int 0))) (eC (.int 0))) aNil)) (ρ := [some (hsD cal us rs n dm), some (.int (ph : Nat)), some (intsT xs)]) (st := st) (i := 0) (j := ph) (k := cal.length) rfl (by simp) (by simp [h_i0, b0, cl])
    rw [this]
    have h1 : (0 : Int) ≤ ph := by omega
    have h2 : (ph : Int) < cal.length := by omega
    simp [h1, h2]
  have m := met_eq (cal := cal) (rs := rs) (n := n) hx (dm := dm) (ph := ph) (by omega)
  simp [d_meets, b_meets, List.replicate, ch, dy, c, m]
end
end Lw

set_option Elab.async false
set_option linter.all false
set_option autoImplicit false
set_option maxRecDepth 100000
set_option maxHeartbeats 1000000
namespace Lw
open PySem PySem.Spec PyProof.Rows L2 Fn
/-! ### lists of small data -/
theorem smalls_of {W : Nat} : ∀ {ds : List D}, (∀ d ∈ ds, smallP (toP d) = true ∧ (toP d).depth ≤ 10 ∧ (toP d).weight ≤ W) → smallPs (toPs ds) = true ∧ PyData.depthAll (toPs ds) ≤ 10 ∧ PyData.weightAll (toPs ds) ≤ (W + 1) * ds.length + 1
  | [], _ => ⟨rfl, by simp [toPs, PyData.depthAll], by simp [toPs, PyData.weightAll]⟩
  | d :: ds, h => by
    have a := h d List.mem_cons_self
    have b := smalls_of fun x hx => h x (List.mem_cons_of_mem _ hx)
    simp only [toPs, smallPs, PyData.depthAll, PyData.weightAll, a.1, b.1, List.length_cons, Nat.mul_add, Nat.add_mul, Nat.mul_one, Nat.one_mul] at *
    exact ⟨rfl, by omega, by omega⟩
theorem shD_of {W : Nat} {ds : List D} (h : ∀ d ∈ ds, smallP (toP d) = true ∧ (toP d).depth ≤ 10 ∧ (toP d).weight ≤ W) : shD (.lst ds) = true := by
  have a := smalls_of h
  have c : smallP (toP (.lst ds)) = true := by simp only [toP, smallP]; exact a.1
  have b := (small_of _ c).1
  unfold shD SeqAt.shaped
  rw [b, Bool.true_and, decide_eq_true_eq]
  simp only [toP, PyData.depth]
  omega
section
variable {cal : List Str} {us : List Du} {rs : List Ru} {n : Nat} {dm : List Ent}
theorem std_sm2 (B : Bk cal us rs) {s : Std} (hs : OkStd cal rs s) : smallP (toP (stdD s)) = true ∧ (toP (stdD s)).depth ≤ 10 ∧ (toP (stdD s)).weight ≤ 6000 := by
  have := std_sm B hs
  exact ⟨this.1, by omega, this.2.2⟩
theorem osb_sm2 (B : Bk cal us rs) {o : Option Std} (hs : ∀ s, o = some s → OkStd cal rs s) : smallP (toP (osbD o)) = true ∧ (toP (osbD o)).depth ≤ 10 ∧ (toP (osbD o)).weight ≤ 6000 := by
  have := osb_sm B hs
  exact ⟨this.1, by omega, this.2.2⟩
theorem isNon_osb (o : Option Std) : isNonD (osbD o) = o.isNone := by cases o <;> rfl
/-- none among standings -/
theorem noIn_osb (B : Bk cal us rs) (l : List (Option Std)) (h : ∀ o ∈ l, ∀ s, o = some s → OkStd cal rs s) (st : Sto) : gNoIn false st .non (.lst (l.map osbD)) = some (l.any Option.isNone) := by
  have sh : shD (.lst (l.map osbD)) = true := shD_of (W := 6000) fun d hd => by
    obtain ⟨o, ho, rfl⟩ := List.mem_map.mp hd
    exact osb_sm2 B (h o ho)
  rw [noIn_lst sh, List.any_map]
  have : (isNonD ∘ osbD) = Option.isNone := by funext o; exact isNon_osb o
  rw [this]; rfl
/-! standings are alike -/
theorem alike_sg {r : Ru} {s t : Sg} (h1 : okS r s) (h2 : okS r t) : PySem.W.alike (toP s.d) (toP t.d) = true := by
  have ii : ∀ i j : Int, PySem.W.alike (toP (Sg.n i).d) (toP (Sg.n j).d) = true := fun i j => by simp only [Sg.d, toP, PySem.W.alike]
  have tp : ∀ xs : List Int, toPs (xs.map .int) = xs.map PyData.int := fun xs => by rw [toPs_map, List.map_map]; rfl
  have ll : ∀ i j : List Int, PySem.W.alike (toP (Sg.l i).d) (toP (Sg.l j).d) = true := fun i j => by
    simp only [Sg.d, intsT, toP, PySem.W.alike, tp]
    exact PySem.W.alike_ints i j
  cases s <;> cases t <;> first | exact ii _ _ | exact ll _ _ | (exfalso; cases r <;> first | exact h1 | exact h2)
theorem alike_sgs : ∀ {R : List Ru} {l m : List Sg}, l.length = R.length → m.length = R.length → (∀ p ∈ R.zip l, okS p.1 p.2) → (∀ p ∈ R.zip m, okS p.1 p.2) → PySem.W.alikeAll (toPs (l.map Sg.d)) (toPs (m.map Sg.d)) = true
  | [], l, m, h1, h2, _, _ => by
    cases l with
    | nil => simp [toPs, PySem.W.alikeAll]
    | cons a b => simp at h1
  | r :: R, l, m, h1, h2, h3, h4 => by
    cases l with
    | nil => simp at h1
    | cons a l => cases m with
      | nil => simp at h2
      | cons b m =>
        simp only [List.map_cons, toPs, PySem.W.alikeAll, Bool.and_eq_true]
        exact ⟨alike_sg (h3 (r, a) (by simp)) (h4 (r, b) (by simp)), alike_sgs (by simpa using h1) (by simpa using h2) (fun p hp => h3 p (by simp [hp])) fun p hp => h4 p (by simp [hp])⟩
theorem alike_std {s t : Std} (h1 : OkStd cal rs s) (h2 : OkStd cal rs t) : PySem.W.alike (toP (stdD s)) (toP (stdD t)) = true := by
  have := alike_sgs h1.len h2.len h1.ok h2.ok
  simp only [stdD, toP, toPs, PySem.W.alike, PySem.W.alikeAll, this, Bool.and_self]
theorem sorted_std (B : Bk cal us rs) {l : List Std} (h : ∀ s ∈ l, OkStd cal rs s) (st : Sto) : gSorted st [.lst (l.map stdD)] = some (.lst (sortD (l.map stdD))) := by
  have c : ((l.map stdD).all (fun d => SeqAt.shaped (toP d)) && (alikesD (l.map stdD) && sortableD (l.map stdD))) = true := by
    simp only [Bool.and_eq_true]
    refine ⟨?_, ?_, ?_⟩
    · rw [List.all_map, List.all_eq_true]
      intro s hs
      have a := std_sm2 B (h s hs)
      have b := (small_of _ a.1).1
      simp only [Function.comp_def, SeqAt.shaped, b, Bool.true_and, decide_eq_true_eq]
      omega
    · unfold alikesD
      rw [List.all_map, List.all_eq_true]
      intro s hs
      simp only [Function.comp_def, List.all_map, List.all_eq_true]
      intro t ht
      exact alike_std (h s hs) (h t ht)
    · unfold sortableD
      rw [Bool.or_eq_true]
      left
      rw [List.all_map, List.all_eq_true]
      intro s hs
      rfl
  show (match lstD st (.lst (l.map stdD)) with
    | some ds => if (ds.all (fun d => SeqAt.shaped (toP d)) && (alikesD ds && sortableD ds)) = true then some (D.lst (sortD ds)) else none
    | none => none) = _
  simp only [lstD]
  rw [if_pos c]
/-! ### plans -/
def planD (rows : List (List Int)) : D := .tup (rows.map intsT)
def okPlan (us : List Du) (n : Nat) (rows : List (List Int)) : Prop := ∀ r ∈ rows, r.length = n ∧ okR us r
def colL (rows : List (List Int)) (p : Nat) : List Int := rows.map fun r => (r[p]?).getD 0
def behs (cal : List Str) (us : List Du) (rs : List Ru) (n : Nat) (rows : List (List Int)) : List (Option Std) := (List.range n).map fun p => behAll cal us rs (colL rows p) (startB rs)
def metAll (cal : List Str) (us : List Du) (dm : List Ent) (rows : List (List Int)) : Bool := rows.zipIdx.all fun p => metL us ((dm[p.2 % cal.length]?).getD []) p.1
def standL (cal : List Str) (us : List Du) (rs : List Ru) (n : Nat) (dm : List Ent) (rows : List (List Int)) : Option (List Std) := if metAll cal us dm rows = true then unOpt (behs cal us rs n rows) else none
theorem col_ok {rows : List (List Int)} (h : okPlan us n rows) {p : Nat} (hp : p < n) : okR us (colL rows p) := fun y hy => by
  obtain ⟨r, hr, rfl⟩ := List.mem_map.mp hy
  have q := h r hr
  have hl : p < r.length := by omega
  rw [List.getElem?_eq_getElem hl]
  exact q.2 _ (List.getElem_mem hl)
theorem behs_ok (B : Bk cal us rs) {rows : List (List Int)} (h : okPlan us n rows) : ∀ o ∈ behs cal us rs n rows, ∀ s, o = some s → OkStd cal rs s := fun o ho s hs => by
  obtain ⟨p, hp, rfl⟩ := List.mem_map.mp ho
  rw [List.mem_range] at hp
  have J := behall_JB B (JB_start B.fits) (fun y hy => by simp at hy) (col_ok h hp) hs
  exact J.std B.hc
theorem standL_ok (B : Bk cal us rs) {rows : List (List Int)} (h : okPlan us n rows) {l : List Std} (e : standL cal us rs n dm rows = some l) : (∀ s ∈ l, OkStd cal rs s) ∧ l.length = n := by
  unfold standL at e
  split at e
  · have q := unOpt_some.mp e
    refine ⟨fun s hs => behs_ok B h (some s) (by rw [q]; exact List.mem_map.mpr ⟨s, hs, rfl⟩) s rfl, ?_⟩
    have := congrArg List.length q
    simpa [behs] using this.symm
  · cases e
/-- the program's behind_all over a list -/
theorem behallL_eq (B : Bk cal us rs) {xs ys : List Int} {s : Std} (J : JB cal us rs ys s) (hy : okR us ys) (hx : okR us xs) (st : Sto) :
    d_behind_all [bkD cal us (rsX rs), stdD s, intsL xs] st = .ok (osbD (behAll cal us rs xs s)) st := by
  have key := forD_fold (h := D.int) (f := fun x s => behB cal us rs x s) (I := fun s ρ => (∃ o3, ρ = [some (bkD cal us (rsX rs)), some (stdD s), some (intsL xs), o3]) ∧ ∃ ys, JB cal us rs ys s ∧ okR us ys) (t := .nm 3) (body := l1_behind_all) (st := st) (d := .non) (xs := xs) (a := s)
    (ρ := [some (bkD cal us (rsX rs)), some (stdD s), some (intsL xs), none]) (fun x hxm s ρ ⟨⟨o3, e⟩, ys, J, hy⟩ => by
      subst e
      have hxi := hx x hxm
      have be := fun st => behind_eq (by have := B.len; omega) B.fits (J.std B.hc) hxi.1 hxi.2 st
      have js := (JB_step B.fits B.hd B.hc hy hxi.1 hxi.2 J).2
      refine ⟨_, by simp only [gT_nm, List.set]; rfl, ?_⟩
      cases q : behB cal us rs x s with
      | none =>
        rw [q] at be
        simp [be, osbD]
      | some s' =>
        rw [q] at be
        refine ⟨_, .inl ?_, ⟨some (.int x), rfl⟩, ys ++ [x], js s' q, okR_app hy hxi.1 hxi.2⟩
        have ni : ∀ st, gIs st (stdD s') .non = some false := fun st => rfl
        simp [be, osbD, ni]) ⟨⟨none, rfl⟩, ys, J, hy⟩
  have it : iSeq (eVar 2) [some (bkD cal us (rsX rs)), some (stdD s), some (intsL xs), none] st = .ok (xs.map D.int) st := by
    have it : ∀ st, itemsD st (intsL xs) = some (xs.map .int, st) := fun st => rfl
    simp [it]
  unfold behAll
  cases q : foldO (fun x s => behB cal us rs x s) xs s with
  | none =>
    rw [q] at key
    exact den_rt rfl rfl (run_ret (for_rt it key))
  | some s' =>
    rw [q] at key
    obtain ⟨ρ', e1, ⟨o3, rfl⟩, _⟩ := key
    exact den_rt rfl rfl (run_seq (for_nx it e1) (by simp [osbD]))
/-- the law's: it goes on with None -/
theorem foldO_bind {α σ : Type} (f : α → σ → Option σ) : ∀ (xs : List α) (o : Option σ), xs.foldl (fun o x => o.bind (f x)) o = o.bind (foldO f xs)
  | [], o => by cases o <;> rfl
  | x :: xs, o => by
    rw [List.foldl_cons, foldO_bind f xs]
    cases o with
    | none => rfl
    | some a => show (f x a).bind _ = foldO f (x :: xs) a; unfold foldO; cases f x a <;> rfl
theorem lbeh_eq2 (B : Bk cal us rs) {xs : List Int} (hx : okR us xs) : ∀ (ys : List Int) (o : Option Std) (o3 : Option D) (st : Sto), okR us ys → (∀ s, o = some s → ∃ zs, JB cal us rs zs s ∧ okR us zs) →
    ∃ o3', forD (.nm 3) l1__law_behind (ys.map D.int) [some (bkD cal us (rsX rs)), some (osbD o), some (intsL xs), o3] st = .nx [some (bkD cal us (rsX rs)), some (osbD (o.bind (behAll cal us rs ys))), some (intsL xs), o3'] st
  | [], o, o3, st, _, _ => ⟨o3, by cases o <;> rfl⟩
  | y :: ys, o, o3, st, hy, h => by
    have hyi := hy y List.mem_cons_self
    cases o with
    | none =>
      obtain ⟨o3', e⟩ := lbeh_eq2 B hx ys none (some (.int y)) st (fun z hz => hy z (List.mem_cons_of_mem _ hz)) (fun s hs => by cases hs)
      refine ⟨o3', ?_⟩
      have b : l1__law_behind [some (bkD cal us (rsX rs)), some (osbD none), some (intsL xs), some (.int y)] st = .nx [some (bkD cal us (rsX rs)), some (osbD none), some (intsL xs), some (.int y)] st := by simp [osbD]
      simp only [List.map_cons, forD, gT_nm, List.set, b]
      exact e
    | some s =>
      obtain ⟨zs, J, hz⟩ := h s rfl
      have js := (JB_step B.fits B.hd B.hc hz hyi.1 hyi.2 J).2
      obtain ⟨o3', e⟩ := lbeh_eq2 B hx ys (behB cal us rs y s) (some (.int y)) st (fun z hz => hy z (List.mem_cons_of_mem _ hz)) (fun s' hs => ⟨zs ++ [y], js s' hs, okR_app hz hyi.1 hyi.2⟩)
      refine ⟨o3', ?_⟩
      have ls := fun st => lstep_eq B (J.std B.hc) hyi.1 hyi.2 st
      have ni : ∀ st, gIsNot st (stdD s) .non = some true := fun st => rfl
      have b : l1__law_behind [some (bkD cal us (rsX rs)), some (osbD (some s)), some (intsL xs), some (.int y)] st = .nx [some (bkD cal us (rsX rs)), some (osbD (behB cal us rs y s)), some (intsL xs), some (.int y)] st := by simp [osbD, ls, ni]
      simp only [List.map_cons, forD, gT_nm, List.set, b]
      rw [e]
      have : (behB cal us rs y s).bind (behAll cal us rs ys) = (some s).bind (behAll cal us rs (y :: ys)) := by
        show _ = behAll cal us rs (y :: ys) s
        unfold behAll
        rw [foldO]
        cases behB cal us rs y s <;> rfl
      rw [this]
theorem lbehind_eq (B : Bk cal us rs) {xs ys : List Int} {s : Std} (J : JB cal us rs ys s) (hy : okR us ys) (hx : okR us xs) (st : Sto) :
    d__law_behind [bkD cal us (rsX rs), stdD s, intsL xs] st = .ok (osbD (behAll cal us rs xs s)) st := by
  obtain ⟨o3, e⟩ := lbeh_eq2 B hx xs (some s) none st hx fun s' hs => by cases hs; exact ⟨ys, J, hy⟩
  have it : iSeq (eVar 2) [some (bkD cal us (rsX rs)), some (osbD (some s)), some (intsL xs), none] st = .ok (xs.map D.int) st := by
    have it : ∀ st, itemsD st (intsL xs) = some (xs.map .int, st) := fun st => rfl
    simp [it]
  exact den_rt (osbD_mu _) rfl (run_seq (for_nx it e) (by simp))
end
end Lw

set_option Elab.async false
set_option linter.all false
set_option autoImplicit false
set_option maxRecDepth 100000
set_option maxHeartbeats 1000000
namespace Lw
open PySem PySem.Spec PyProof.Rows L2 Fn
section
variable {cal : List Str} {us : List Du} {rs : List Ru} {n : Nat} {dm : List Ent} {rows : List (List Int)}
theorem dm_len (B : Hs cal us rs n dm) : dm.length = cal.length := by have := B.dem; simp only [okDem, Bool.and_eq_true, decide_eq_true_eq] at this; exact this.1
theorem cplan_c1 (st : Sto) : c1_check_plan [some (hsD cal us rs n dm), some (planD rows), none] st = .ok (.lst (rows.map fun r => .bl (okDay us n r))) st :=
  lc_map (h := intsT) (by
    have it : ∀ st, itemsD st (planD rows) = some (rows.map intsT, st) := fun st => rfl
    simp [it]) (fun r hr st => ⟨_, by simp [wipeR]; rfl, by simp [isday_eq]⟩) fun _ _ => rfl
theorem okDay_iff {r : List Int} : okDay us n r = true ↔ r.length = n ∧ okR us r := by
  simp only [okDay, Bool.and_eq_true, decide_eq_true_eq]
  rw [okR_iff]
theorem cplan_ok (B : Hs cal us rs n dm) (h : okPlan us n rows) (st : Sto) : d_check_plan [hsD cal us rs n dm, planD rows] st = .ok .non st := by
  have ch := chouse_ok B
  have a : rows.all (okDay us n) = true := List.all_eq_true.mpr fun r hr => okDay_iff.mpr (h r hr)
  have c := cplan_c1 (cal := cal) (us := us) (rs := rs) (n := n) (dm := dm) (rows := rows)
  have g := fun st => gAll_map (okDay us n) rows st
  rw [a] at g
  simp [d_check_plan, b_check_plan, List.replicate, ch, c, g]
theorem cplan_er (B : Hs cal us rs n dm) (h : rows.all (okDay us n) = false) (st : Sto) : d_check_plan [hsD cal us rs n dm, planD rows] st = .er ⟨"NotRoster", none⟩ st := by
  have ch := chouse_ok B
  have c := cplan_c1 (cal := cal) (us := us) (rs := rs) (n := n) (dm := dm) (rows := rows)
  have g := fun st => gAll_map (okDay us n) rows st
  rw [h] at g
  simp [d_check_plan, b_check_plan, List.replicate, ch, c, g]
def stdsD : Option (List Std) → D
  | none => .non
  | some l => .lst (l.map stdD)
@[simp] theorem stdsD_mu (o : Option (List Std)) : muD (stdsD o) = false := by cases o <;> rfl
theorem gMod_nat (i j : Nat) (h : 0 < j) (st : Sto) : gMod st (.int (i : Nat)) (.int (j : Nat)) = some (.int ((i % j : Nat) : Int)) := by
  rw [gMod_int (by omega)]
  simp
theorem ph_ok (B : Hs cal us rs n dm) (i : Nat) : i % cal.length < dm.length := by
  rw [dm_len B]
  exact Nat.mod_lt _ (List.length_pos_iff.mpr B.hc)
theorem osb_list (B : Bk cal us rs) {l : List Std} : (l.map some).map osbD = l.map stdD := by rw [List.map_map]; rfl
theorem startJB (B : Bk cal us rs) : JB cal us rs [] (startB rs) := JB_start B.fits
theorem okR_nil : okR us [] := fun y hy => by simp at hy
theorem standings_eq (B : Hs cal us rs n dm) (h : okPlan us n rows) (hl : rows.length ≤ 1000) (st : Sto) : d_standings_of [hsD cal us rs n dm, planD rows] st = .ok (stdsD (standL cal us rs n dm rows)) st := by
  have b0 := bk_i0 (cal := cal) (us := us) (rs := rs)
  have cl := cal_len (cal := cal)
  have hc0 : 0 < cal.length := List.length_pos_iff.mpr B.hc
  have hlen := B.len
  have c1 : ∀ o4 o5 o6 o7 st, c1_standings_of [some (hsD cal us rs n dm), some (planD rows), some (bkD cal us (rsX rs)), some (.int cal.length), o4, o5, o6, o7] st = .ok (.lst (rows.zipIdx.map fun p => .bl (metL us ((dm[p.2 % cal.length]?).getD []) p.1))) st := fun o4 o5 o6 o7 st =>
    lc_map (h := fun p : List Int × Nat => .tup [.int (p.2 : Nat), intsT p.1]) (by
      have sd : ∀ st, srcD st (planD rows) = some (rows.map intsT) := fun st => rfl
      simp [sd, enumD_map]) (fun p hp st => by
      have hr := h p.1 (List.fst_mem_of_mem_zipIdx hp)
      have gm := fun st => gMod_nat p.2 cal.length hc0 st
      have me := fun st => met_eq (cal := cal) (rs := rs) (n := n) (dm := dm) hr.2 (ph_ok B p.2) st
      exact ⟨_, by simp [wipeR]; rfl, by simp [gm, me, -Int.natCast_emod]⟩) fun _ _ => rfl
  have st2 := fun st => start_eq2 (cal := cal) (us := us) B.hr (by omega) st
  have c3 : ∀ o4 o5 o6 o7 st, c3_standings_of [some (hsD cal us rs n dm), some (planD rows), some (bkD cal us (rsX rs)), some (.int cal.length), o4, o5, o6, o7] st = .ok (.lst ((behs cal us rs n rows).map osbD)) st := fun o4 o5 o6 o7 st => by
    have q := lc_map (h := fun i : Nat => D.int (i : Int)) (g := fun p : Nat => osbD (behAll cal us rs (colL rows p) (startB rs))) (xs := List.range n) (fi := iRange1 (aCons (eOp2 gIx (eVar 0) (eC (.int 1))) aNil)) (t := .nm 7) (fe := eCall (lenOk 3 d_behind_all) (aCons (eVar 2) (aCons (eCall (lenOk 1 d_start) (aCons (eVar 2) aNil)) (aCons c2_standings_of aNil)))) (vs := [7])
      (ρ := [some (hsD cal us rs n dm), some (planD rows), some (bkD cal us (rsX rs)), some (.int cal.length), o4, o5, o6, o7]) (st := st)
      (range_of n (i := n) (by simp [h_i1]) (by omega) (by omega) (by have := B.crew; omega)) (fun p hp st => by
        rw [List.mem_range] at hp
        have cc : ∀ st, c2_standings_of [some (hsD cal us rs n dm), some (planD rows), some (bkD cal us (rsX rs)), some (.int cal.length), o4, o5, o6, some (.int (p : Nat))] st = .ok (intsL (colL rows p)) st := fun st => by
          have := lc_map (h := intsT) (g := fun r : List Int => D.int ((r[p]?).getD 0)) (xs := rows) (fi := iSeq (eVar 1)) (t := .nm 6) (fe := eOp2 gIx (eVar 6) (eVar 7)) (vs := [6]) (ρ := [some (hsD cal us rs n dm), some (planD rows), some (bkD cal us (rsX rs)), some (.int cal.length), o4, o5, o6, some (.int (p : Nat))]) (st := st) (by
            have it : ∀ st, itemsD st (planD rows) = some (rows.map intsT, st) := fun st => rfl
            simp [it]) (fun r hr st => by
            have hp2 : p < r.length := by have := (h r hr).1; omega
            have g := fun st => gIx_tab D.int r p hp2 st
            rw [List.getElem?_eq_getElem hp2]
            exact ⟨_, by simp [wipeR]; rfl, by simp [intsT, g]⟩) fun _ _ => rfl
          rw [show intsL (colL rows p) = D.lst (rows.map fun r : List Int => D.int ((r[p]?).getD 0)) by simp [intsL, colL]]
          exact this
        have ba := fun st => behallL_eq B.toBk (startJB B.toBk) okR_nil (col_ok h hp) st
        refine ⟨[some (hsD cal us rs n dm), some (planD rows), some (bkD cal us (rsX rs)), some (.int cal.length), o4, o5, o6, some (.int (p : Nat))], by simp [wipeR], ?_⟩
        simp only [eCall_q, aCons_q, aNil_q, eVar_q, List.getElem?_cons_zero, List.getElem?_cons_succ, R.bind, lenOk_q, List.length_cons, List.length_nil, if_true, st2, cc, ba]) fun p _ => osbD_mu _
    have e : (List.range n).map (fun p : Nat => osbD (behAll cal us rs (colL rows p) (startB rs))) = (behs cal us rs n rows).map osbD := by unfold behs; rw [List.map_map]; rfl
    rw [← e]; exact q
  have g := fun st => gAll_map (fun p : List Int × Nat => metL us ((dm[p.2 % cal.length]?).getD []) p.1) rows.zipIdx st
  have no := noIn_osb B.toBk (behs cal us rs n rows) (behs_ok B.toBk h)
  unfold standL
  cases hm : metAll cal us dm rows with
  | false =>
    have hm' := hm
    unfold metAll at hm'
    rw [hm'] at g
    simp [d_standings_of, b_standings_of, List.replicate, h_i0, b0, cl, c1, g, stdsD]
  | true =>
    have hm' := hm
    unfold metAll at hm'
    rw [hm'] at g
    rw [if_pos rfl]
    cases q : unOpt (behs cal us rs n rows) with
    | none =>
      rw [unOpt_none.mp q] at no
      simp [d_standings_of, b_standings_of, List.replicate, h_i0, b0, cl, c1, g, stdsD, c3, no]
    | some l =>
      have e := unOpt_some.mp q
      have a : (behs cal us rs n rows).any Option.isNone = false := by rw [e]; simp
      rw [a] at no
      rw [e, osb_list B.toBk] at no c3
      simp [d_standings_of, b_standings_of, List.replicate, h_i0, b0, cl, c1, g, stdsD, c3, no]
theorem stdsD_isn (o : Option (List Std)) (st : Sto) : gIsNot st (stdsD o) .non = some o.isSome := by cases o <;> rfl
theorem stdsD_is (o : Option (List Std)) (st : Sto) : gIs st (stdsD o) .non = some o.isNone := by cases o <;> rfl
theorem rightplan_eq (B : Hs cal us rs n dm) (h : okPlan us n rows) (hl : rows.length ≤ 1000) (st : Sto) : d_is_right_plan [hsD cal us rs n dm, planD rows] st = .ok (.bl (standL cal us rs n dm rows).isSome) st := by
  have a := fun st => cplan_ok B h st
  have b := fun st => standings_eq B h hl st
  have c := stdsD_isn (standL cal us rs n dm rows)
  simp [d_is_right_plan, b_is_right_plan, List.replicate, a, b, c]
def jointD : Option (List Std) → D
  | none => .non
  | some l => .tup (sortD (l.map stdD))
@[simp] theorem jointD_mu (o : Option (List Std)) : muD (jointD o) = false := by cases o <;> rfl
theorem joint_eq (B : Hs cal us rs n dm) (h : okPlan us n rows) (hl : rows.length ≤ 1000) (st : Sto) : d_joint_of [hsD cal us rs n dm, planD rows] st = match standL cal us rs n dm rows with
    | some l => .ok (jointD (some l)) st
    | none => .er ⟨"NoAnswer", none⟩ st := by
  have a := fun st => cplan_ok B h st
  have b := fun st => standings_eq B h hl st
  have c := stdsD_is (standL cal us rs n dm rows)
  cases q : standL cal us rs n dm rows with
  | none =>
    rw [q] at b c
    have r : ∀ st, d_right_standings [hsD cal us rs n dm, planD rows] st = .er ⟨"NoAnswer", none⟩ st := fun st => by simp [d_right_standings, b_right_standings, List.replicate, a, b, c]
    simp [d_joint_of, b_joint_of, List.replicate, r]
  | some l =>
    rw [q] at b c
    have r : ∀ st, d_right_standings [hsD cal us rs n dm, planD rows] st = .ok (stdsD (some l)) st := fun st => by simp [d_right_standings, b_right_standings, List.replicate, a, b, c, exitD_d (stdsD_mu (some l))]
    have so := sorted_std B.toBk (standL_ok B.toBk h q).1
    have gt : ∀ (ds : List D) st, gTuple st [.lst ds] = some (.tup ds) := fun ds st => rfl
    simp [d_joint_of, b_joint_of, List.replicate, r, stdsD, so, gt, jointD]
/-! the law's -/
theorem lfirst_eq (B : Bk cal us rs) (st : Sto) : d__law_first [bkD cal us (rsX rs)] st = .ok (stdD (startB rs)) st := by
  rw [← firstD_std]
  exact lfirst_ok (small_all B.hr) (by have := B.len; omega)
theorem lstandings_eq (B : Hs cal us rs n dm) (h : okPlan us n rows) (hl : rows.length ≤ 1000) (st : Sto) : d__law_standings [hsD cal us rs n dm, planD rows] st = .ok (jointD (standL cal us rs n dm rows)) st := by
  have b0 := bk_i0 (cal := cal) (us := us) (rs := rs)
  have b1 := bk_i1 (cal := cal) (us := us) (rs := rs)
  have cl := cal_len (cal := cal)
  have hc0 : 0 < cal.length := List.length_pos_iff.mpr B.hc
  have hlen := B.len
  let ρ (o5 o6 o7 o8 : Option D) : Rho := [some (hsD cal us rs n dm), some (planD rows), some (bkD cal us (rsX rs)), some (.int n), some (demD dm), o5, o6, o7, o8]
  have c1 : ∀ o5 o6 o7 o8 st, c1__law_standings (ρ o5 o6 o7 o8) st = .ok (.lst (rows.zipIdx.map fun p => .bl (metL us ((dm[p.2 % cal.length]?).getD []) p.1))) st := fun o5 o6 o7 o8 st => by
    have q := lc_map (h := fun i : Nat => D.int (i : Int)) (g := fun i : Nat => D.bl (metL us ((dm[i % cal.length]?).getD []) ((rows[i]?).getD []))) (xs := List.range rows.length) (fi := iRange1 (aCons (eCB gLen (aCons (eVar 1) aNil)) aNil)) (t := .nm 6)
      (fe := eCall (lenOk 3 d__law_met) (aCons (eOp2 gIx (eVar 2) (eC (.int 1))) (aCons (eOp2 gIx (eVar 4) (eOp2 gMod (eCB gInt (aCons (eVar 6) aNil)) (eCB gLen (aCons (eOp2 gIx (eVar 2) (eC (.int 0))) aNil)))) (aCons (eOp2 gIx (eVar 1) (eVar 6)) aNil)))) (vs := [6]) (ρ := ρ o5 o6 o7 o8) (st := st)
      (range_of _ (i := rows.length) (by
        have lp : ∀ st, gLen st [planD rows] = some (.int rows.length) := fun st => by simp [planD]
        simp [ρ, lp]) (by omega) (by omega) (by omega)) (fun i hi st => by
        rw [List.mem_range] at hi
        have gm := fun st => gMod_nat i cal.length hc0 st
        have gd := fun st => gIx_dem (ph_ok B i) st
        have gp : ∀ st, gIx st (planD rows) (.int (i : Nat)) = some (intsT rows[i]) := fun st => gIx_tab intsT rows i hi st
        have me := fun st => lmet_eq (h _ (List.getElem_mem hi)).2 ((dm[i % cal.length]?).getD []) st
        rw [List.getElem?_eq_getElem hi]
        exact ⟨ρ o5 (some (.int (i : Nat))) o7 o8, by simp [wipeR, ρ], by simp [ρ, gm, gd, gp, me, b0, b1, cl, -Int.natCast_emod]⟩) fun _ _ => rfl
    have e : (List.range rows.length).map (fun i : Nat => D.bl (metL us ((dm[i % cal.length]?).getD []) ((rows[i]?).getD []))) = rows.zipIdx.map fun p => .bl (metL us ((dm[p.2 % cal.length]?).getD []) p.1) := by
      apply List.ext_getElem
      · simp
      · intro i h1 h2
        have h3 : i < rows.length := by simpa using h1
        simp [List.getElem?_eq_getElem h3]
    rw [← e]; exact q
  have lf := lfirst_eq B.toBk
  have c3 : ∀ o5 o6 o7 o8 st, c3__law_standings (ρ o5 o6 o7 o8) st = .ok (.lst ((behs cal us rs n rows).map osbD)) st := fun o5 o6 o7 o8 st => by
    have q := lc_map (h := fun i : Nat => D.int (i : Int)) (g := fun p : Nat => osbD (behAll cal us rs (colL rows p) (startB rs))) (xs := List.range n) (fi := iRange1 (aCons (eVar 3) aNil)) (t := .nm 7) (fe := eCall (lenOk 3 d__law_behind) (aCons (eVar 2) (aCons (eCall (lenOk 1 d__law_first) (aCons (eVar 2) aNil)) (aCons c2__law_standings aNil)))) (vs := [7])
      (ρ := ρ o5 o6 o7 o8) (st := st)
      (range_of n (i := n) (by simp [ρ]) (by omega) (by omega) (by have := B.crew; omega)) (fun p hp st => by
        rw [List.mem_range] at hp
        have cc : ∀ st, c2__law_standings (ρ o5 o6 (some (.int (p : Nat))) o8) st = .ok (intsL (colL rows p)) st := fun st => by
          have := lc_map (h := intsT) (g := fun r : List Int => D.int ((r[p]?).getD 0)) (xs := rows) (fi := iSeq (eVar 1)) (t := .nm 8) (fe := eOp2 gIx (eVar 8) (eVar 7)) (vs := [8]) (ρ := ρ o5 o6 (some (.int (p : Nat))) o8) (st := st) (by
            have it : ∀ st, itemsD st (planD rows) = some (rows.map intsT, st) := fun st => rfl
            simp [ρ, it]) (fun r hr st => by
            have hp2 : p < r.length := by have := (h r hr).1; omega
            have g := fun st => gIx_tab D.int r p hp2 st
            rw [List.getElem?_eq_getElem hp2]
            exact ⟨_, by simp [wipeR, ρ]; rfl, by simp [intsT, g]⟩) fun _ _ => rfl
          rw [show intsL (colL rows p) = D.lst (rows.map fun r : List Int => D.int ((r[p]?).getD 0)) by simp [intsL, colL]]
          exact this
        have ba := fun st => lbehind_eq B.toBk (startJB B.toBk) okR_nil (col_ok h hp) st
        refine ⟨ρ o5 o6 (some (.int (p : Nat))) o8, by simp [wipeR, ρ], ?_⟩
        simp only [ρ] at cc ⊢
        simp only [eCall_q, aCons_q, aNil_q, eVar_q, List.getElem?_cons_zero, List.getElem?_cons_succ, R.bind, lenOk_q, List.length_cons, List.length_nil, if_true, lf, cc, ba]) fun p _ => osbD_mu _
    have e : (List.range n).map (fun p : Nat => osbD (behAll cal us rs (colL rows p) (startB rs))) = (behs cal us rs n rows).map osbD := by unfold behs; rw [List.map_map]; rfl
    rw [← e]; exact q
  have g := fun st => gAll_map (fun p : List Int × Nat => metL us ((dm[p.2 % cal.length]?).getD []) p.1) rows.zipIdx st
  have no := noIn_osb B.toBk (behs cal us rs n rows) (behs_ok B.toBk h)
  have s1 : sAsg (.tp [.nm 2, .nm 3, .nm 4]) (eVar 0) [some (hsD cal us rs n dm), some (planD rows), none, none, none, none, none, none, none] st = .nx (ρ none none none none) st := by simp [hsD, ρ]
  simp only [ρ] at c1 c3 s1
  unfold standL
  cases hm : metAll cal us dm rows with
  | false =>
    have hm' := hm
    unfold metAll at hm'
    rw [hm'] at g
    exact den_rt rfl rfl (run_seq s1 (by simp [c1, g, jointD]))
  | true =>
    have hm' := hm
    unfold metAll at hm'
    rw [hm'] at g
    rw [if_pos rfl]
    cases q : unOpt (behs cal us rs n rows) with
    | none =>
      rw [unOpt_none.mp q] at no
      exact den_rt rfl rfl (run_seq s1 (by simp [c1, g, c3, no, jointD]))
    | some l =>
      have e := unOpt_some.mp q
      have a : (behs cal us rs n rows).any Option.isNone = false := by rw [e]; simp
      rw [a] at no
      rw [e, osb_list B.toBk] at no c3
      have so := sorted_std B.toBk (l := l) fun s hs => behs_ok B.toBk h (some s) (by rw [e]; exact List.mem_map.mpr ⟨s, hs, rfl⟩) s rfl
      have gt : ∀ (ds : List D) st, gTuple st [.lst ds] = some (.tup ds) := fun ds st => rfl
      exact den_rt (jointD_mu _) rfl (run_seq s1 (by simp [c1, g, c3, no, so, gt, jointD]))
end
end Lw

set_option Elab.async false
set_option linter.all false
set_option autoImplicit false
set_option maxRecDepth 100000
set_option maxHeartbeats 1000000
namespace Lw
open PySem PySem.Spec PyProof.Rows L2 Fn
section
variable {n : Nat} {st : Sto} {q : Nat}
theorem for_nxS2 {fi : IF} {t : Tg} {body : SF} {ρ ρ' : Rho} {st s1 st' : Sto} {items : List D} (h : fi ρ st = .ok items s1) (k : forD t body items ρ s1 = .nx ρ' st') : sFor fi t body ρ st = .nx ρ' st' := by
  rw [sFor_q, h]; exact k
theorem gMin2_int {i j : Int} {st : Sto} : gMin2 st [.int i, .int j] = some (.int (if j < i then j else i)) := rfl
/-- the triples drawn so far stand behind the store -/
def Nt (n L q : Nat) (k : Nat) (ρ : Rho) (s0 s : Sto) : Prop := ∃ (e : Ent) (o3 o4 : Option D), ρ = [some (.mu n), some (.int (q : Nat)), some (.mu L), o3, o4] ∧
  s[L]? = some (.ml (e.map Tri.d)) ∧ e.length = k ∧ e.all okTri = true ∧ Dr n s ∧ s.length = L + 1 ∧ ∀ m, m ≠ n → m < L → s[m]? = s0[m]?
theorem tbody_ok (hq : q ≤ 6) {L k : Nat} {ρ : Rho} {s s0 : Sto} (hnL : n < L) (hk : k < 3) (h : Nt n L q k ρ s0 s) (d : D) : ∃ ρ1 ρ2 s2, gT s (.nm 3) d ρ = some ρ1 ∧ l1__law_entry ρ1 s = .nx ρ2 s2 ∧ Nt n L q (k + 1) ρ2 s0 s2 := by
  obtain ⟨e, o3, o4, rfl, e1, e2, e3, dr, e5, e6⟩ := h
  obtain ⟨_, s1, r1, ⟨i, rfl⟩, p1⟩ := next_ok dr
  obtain ⟨z, s2, r2, hz, p2⟩ := pick_in D.str ["", "n", "e", ""] (fun _ => rfl) p1.dr (by simp)
  simp only [List.map_cons, List.map_nil] at r2
  obtain ⟨_, s3, r3, ⟨j, rfl⟩, p3⟩ := next_ok p2.dr
  have sp := p1.trans (p2.trans p3)
  have hi := modB i (j := (q : Int) + 1) (by omega)
  have hj := modB j (j := 3) (by decide)
  have g1 : ∀ st, gMod st (.int i) (.int ((q : Int) + 1)) = some (.int (i % ((q : Int) + 1))) := fun st => gMod_int (by omega)
  have g3 : ∀ st, gMod st (.int j) (.int 3) = some (.int (j % 3)) := fun st => gMod_int (by decide)
  have hL1 : s3[L]? = some (.ml (e.map Tri.d)) := (sp.ne L (by omega)).trans e1
  have hl1 : s3.length = L + 1 := by rw [sp.len, e5]
  have hL0 : s1[L]? = some (.ml (e.map Tri.d)) := (p1.ne L (by omega)).trans e1
  have hz2 : e.length < 16777216 := by omega
  generalize hlo : i % ((q : Int) + 1) = lo at g1 hi
  generalize hr : j % 3 = r at g3 hj
  have gm := fun st => gMin2_int (i := 6) (j := lo + r) (st := st)
  let t : Tri := ⟨z, lo, if lo + r < 6 then lo + r else 6⟩
  have okt : okTri t = true := by
    have hz1 : isSo z = true := isSo_of z (by simp only [List.mem_cons, List.not_mem_nil, or_false] at hz ⊢; rcases hz with rfl | rfl | rfl | rfl <;> simp)
    simp only [okTri, t, hz1, Bool.true_and, Bool.and_eq_true, decide_eq_true_eq]
    split <;> omega
  have tl : t.d = .tup [.str z, .int lo, .int (if lo + r < 6 then lo + r else 6)] := rfl
  generalize hhi : (if lo + r < 6 then lo + r else 6) = hi' at gm tl
  refine ⟨_, [some (.mu n), some (.int (q : Nat)), some (.mu L), some d, some (.int lo)], s3.set L (.ml ((e ++ [t]).map Tri.d)), gT_nm, ?_, e ++ [t], _, _, rfl, ?_, ?_, ?_, ?_, ?_, ?_⟩
  · have b1 : sAsg (.nm 4) (eOp2 gMod (eCB gInt (aCons (eCall (lenOk 1 d__law_next) (aCons (eVar 0) aNil)) aNil)) (eOp2 gAdd (eVar 1) (eC (.int 1)))) [some (.mu n), some (.int (q : Nat)), some (.mu L), some d, o4] s = .nx [some (.mu n), some (.int (q : Nat)), some (.mu L), some d, some (.int lo)] s1 := by simp [r1, g1]
    refine run_seq b1 ?_
    simp [r2, r3, g3, gm, gAppend, mlD, lstD, hL0, hL1, muD, hz2, sizeLine_eq, tl]
  · rw [List.getElem?_set_self (by omega)]
  · simp [e2]
  · simp [e3, okt]
  · obtain ⟨ds, e⟩ := sp.dr; exact ⟨ds, by rw [List.getElem?_set_ne (by omega)]; exact e⟩
  · simp [hl1]
  · intro m h1 h2; rw [List.getElem?_set_ne (by omega), sp.ne m h1, e6 m h1 h2]
theorem entry_ok (h : Dr n st) (hq : q ≤ 6) : ∃ (e : Ent) (st' : Sto), d__law_entry [.mu n, .int (q : Nat)] st = .ok (entD e) st' ∧ okEnt e = true ∧ Stp n st st' := by
  have hL1 : n < st.length := h.lt
  obtain ⟨_, s2, e2, ⟨j, rfl⟩, p2⟩ := next_ok (n := n) (st := st ++ [.ml []]) h.app
  have hj := modB j (j := 3) (by decide)
  have m3 : ∀ st, gMod st (.int j) (.int 3) = some (.int (j % 3)) := fun st => gMod_int (by decide)
  have hnn : (j % 3).toNat ≤ 16777216 ∧ (-4611686018427387904 : Int) ≤ j % 3 := by omega
  obtain ⟨ρ', s', q1, k', hk', e, o3, o4, rfl, w1, w2, w3, w4, w5, w6⟩ := forD_inv (t := .nm 3) (body := l1__law_entry) (I := fun k ρ s => Nt n st.length q k ρ st s) (J := fun ρ s => ∃ k, k ≤ 3 ∧ Nt n st.length q k ρ st s) (N := (j % 3).toNat) (items := rngD 0 (j % 3).toNat)
    (fun d hd k ρ s hkN hI => by
      obtain ⟨ρ1, ρ2, s2, a1, a2, a3⟩ := tbody_ok hq hL1 (by omega) hI d
      exact ⟨ρ1, a1, .inl ⟨ρ2, s2, a2, a3⟩⟩) 0 [some (.mu n), some (.int (q : Nat)), some (.mu st.length), none, none] s2 (by simp)
    ⟨[], _, _, rfl, by rw [p2.ne _ (by omega)]; simp, rfl, rfl, p2.dr, by rw [p2.len]; simp, fun m h1 h2 => by rw [p2.ne m h1, List.getElem?_append_left h2]⟩
    (fun ρ s hI => ⟨_, by omega, hI⟩)
  have sp := (Stp.refl h).cut w4 (by omega) fun m h1 h2 => w6 m h1 h2
  refine ⟨e, s'.take st.length, ?_, ?_, sp⟩
  · have body : b__law_entry [some (.mu n), some (.int (q : Nat)), none, none, none] st = .rt (entD e) s' := by
      have b1 : sAsg (.nm 2) (eLstM aNil) [some (.mu n), some (.int (q : Nat)), none, none, none] st = .nx [some (.mu n), some (.int (q : Nat)), some (.mu st.length), none, none] (st ++ [.ml []]) := by simp [sizeLine_eq]
      refine run_seq b1 (run_seq (for_nxS2 (items := rngD 0 (j % 3).toNat) (s1 := s2) ?_ q1) ?_)
      · simp [e2, m3, sizeLine_eq, hnn]
      · simp [gTuple, lstD, w1, entD]
    show denOf 5 false b__law_entry _ st = _
    rw [denOf_q]
    simp only [List.map_cons, List.map_nil, List.length_cons, List.length_nil, List.replicate, List.cons_append, List.nil_append]
    rw [body, endR_rt, exitD_d (entD_mu _)]
  · simp only [okEnt, w3, Bool.and_true, decide_eq_true_eq]
    omega
theorem demand_ok {cal : List Str} {us : List Du} {rs : List Ru} (h : Dr n st) (hq : q ≤ 6) : ∃ (dm : List Ent) (st' : Sto), d__law_demand [.mu n, bkD cal us (rsX rs), .int (q : Nat)] st = .ok (demD dm) st' ∧ okDem cal.length dm = true ∧ Stp n st st' := by
  have b0 := bk_i0 (cal := cal) (us := us) (rs := rs)
  obtain ⟨dm, s1, e1, l1, h1, p1⟩ := lc_draw (n := n) (h := entD) (P := fun e => okEnt e = true) (fi := iSeq (eOp2 gIx (eVar 1) (eC (.int 0)))) (t := .nm 3) (fe := eCall (lenOk 2 d__law_entry) (aCons (eVar 0) (aCons (eVar 2) aNil))) (vs := [3])
    (ρ := [some (.mu n), some (bkD cal us (rsX rs)), some (.int (q : Nat)), none]) (st := st) (items := cal.map .str) (s1 := st) (by
      have it : ∀ st, itemsD st (strsD cal) = some (cal.map .str, st) := fun st => rfl
      simp [b0, it]) (.refl h)
    (fun d hd s hs => ⟨_, by simp [wipeR]; rfl, by
      obtain ⟨e, s', q1, q2, q3⟩ := entry_ok hs hq
      exact ⟨e, s', by simp [q1], q2, q3⟩⟩) (fun y _ => rfl)
  have c1 : c1__law_demand [some (.mu n), some (bkD cal us (rsX rs)), some (.int (q : Nat)), none] st = .ok (.lst (dm.map entD)) s1 := e1
  refine ⟨dm, s1, den_rt rfl p1.len ?_, ?_, p1⟩
  · have gt : ∀ (ds : List D) st, gTuple st [.lst ds] = some (.tup ds) := fun ds st => rfl
    simp [b__law_demand, List.replicate, c1, gt, demD]
  · simp only [okDem, Bool.and_eq_true, decide_eq_true_eq, List.all_eq_true]
    exact ⟨by rw [l1]; simp, h1⟩
end
end Lw

set_option Elab.async false
set_option linter.all false
set_option autoImplicit false
set_option maxRecDepth 100000
set_option maxHeartbeats 1000000
namespace Lw
open PySem PySem.Spec PyProof.Rows L2 Fn
theorem kD : kindD "NotDemand" = some (.str "!demand") := by rfl
theorem kA : kindD "NoAnswer" = some (.str "!none") := by rfl
theorem tbl0 : tb_is_right_plan_joint_of.lookup ("is_right_plan" : Str) = some (2, d_is_right_plan) := rfl
theorem tbl1 : tb_is_right_plan_joint_of.lookup ("joint_of" : Str) = some (2, d_joint_of) := rfl
theorem ask0 {b o x d : D} {st : Sto} (h : ∀ st, d_is_right_plan [b, o] st = .ok d st) (m : muD d = false) : d__law_asked [.int 0, b, o, x] st = .ok d st := by
  simp (decide := true) [d__law_asked, b__law_asked, List.replicate, tbl0, tbl1, h, exitD_d m]
theorem ask1 {b o x d : D} {st : Sto} (h : ∀ st, d_joint_of [b, o] st = .ok d st) (m : muD d = false) : d__law_asked [.int 1, b, o, x] st = .ok d st := by
  simp (decide := true) [d__law_asked, b__law_asked, List.replicate, tbl0, tbl1, h, exitD_d m]
theorem ask2 {b o x d : D} {st : Sto} (h : ∀ st, d_meets [b, o, x] st = .ok d st) (m : muD d = false) : d__law_asked [.int 2, b, o, x] st = .ok d st := by
  simp (decide := true) [d__law_asked, b__law_asked, List.replicate, tbl0, tbl1, h, exitD_d m]
theorem ask0e {b o x d : D} {c : Str} {st : Sto} (h : ∀ st, d_is_right_plan [b, o] st = .er ⟨c, none⟩ st) (k : kindD c = some d) (m : muD d = false) : d__law_asked [.int 0, b, o, x] st = .ok d st := by
  simp (decide := true) [d__law_asked, b__law_asked, List.replicate, tbl0, tbl1, h, kindSub_of k, k, exitD_d m]
theorem ask1e {b o x d : D} {c : Str} {st : Sto} (h : ∀ st, d_joint_of [b, o] st = .er ⟨c, none⟩ st) (k : kindD c = some d) (m : muD d = false) : d__law_asked [.int 1, b, o, x] st = .ok d st := by
  simp (decide := true) [d__law_asked, b__law_asked, List.replicate, tbl0, tbl1, h, kindSub_of k, k, exitD_d m]
theorem ask2e {b o x d : D} {c : Str} {st : Sto} (h : ∀ st, d_meets [b, o, x] st = .er ⟨c, none⟩ st) (k : kindD c = some d) (m : muD d = false) : d__law_asked [.int 2, b, o, x] st = .ok d st := by
  simp (decide := true) [d__law_asked, b__law_asked, List.replicate, tbl0, tbl1, h, kindSub_of k, k, exitD_d m]
/-- an error of check_plan is one of both -/
theorem ask_er {b o x d : D} {c : Str} (h : ∀ st, d_check_plan [b, o] st = .er ⟨c, none⟩ st) (k : kindD c = some d) (m : muD d = false) (i : Nat) (hi : i < 2) (st : Sto) : d__law_asked [.int (i : Nat), b, o, x] st = .ok d st := by
  have h2 : i = 0 ∨ i = 1 := by omega
  rcases h2 with rfl | rfl
  · exact ask0e (fun st => by simp [d_is_right_plan, b_is_right_plan, List.replicate, h]) k m
  · have r : ∀ st, d_right_standings [b, o] st = .er ⟨c, none⟩ st := fun st => by simp [d_right_standings, b_right_standings, List.replicate, h]
    exact ask1e (fun st => by simp [d_joint_of, b_joint_of, List.replicate, r]) k m
theorem ask_hs {b o x d : D} {c : Str} (h : ∀ st, d_check_house [b] st = .er ⟨c, none⟩ st) (k : kindD c = some d) (m : muD d = false) (i : Nat) (hi : i < 2) (st : Sto) : d__law_asked [.int (i : Nat), b, o, x] st = .ok d st :=
  ask_er (fun st => by simp [d_check_plan, b_check_plan, List.replicate, h]) k m i hi st
theorem repr_b (b : Bool) (st : Sto) : gRepr st [.bl b] = some (.str (toP (.bl b)).shown) := gRepr_of rfl (by cases b <;> rfl) (by cases b <;> decide) (by cases b <;> decide)
section
variable {cal : List Str} {us : List Du} {rs : List Ru} {n : Nat} {dm : List Ent} {rows : List (List Int)}
theorem movesB_in2 {h : Std} {x : Int} (hx : x ∈ movesB cal us rs h) : 0 ≤ x ∧ x ≤ us.length := upTo_in (List.mem_filter.mp hx).1
theorem lmoves_eq (B : Bk cal us rs) {s : Std} (hs : OkStd cal rs s) (st : Sto) : d__law_moves [bkD cal us (rsX rs), stdD s] st = .ok (intsL (movesB cal us rs s)) st := by
  have u7 := B.us7
  have b1 := bk_i1 (cal := cal) (us := us) (rs := rs)
  have ul := us_len (us := us)
  have c : ∀ st, c1__law_moves [some (bkD cal us (rsX rs)), some (stdD s), none] st = .ok (intsL (movesB cal us rs s)) st := fun st => by
    have q := lc_sel (h := D.int) (g := D.int) (p := fun x => (behB cal us rs x s).isSome) (xs := upTo (us.length + 1)) (fi := iRange1 (aCons (eOp2 gAdd (eCB gLen (aCons (eOp2 gIx (eVar 0) (eC (.int 1))) aNil)) (eC (.int 1))) aNil)) (t := .nm 2) (tt := tCm gIsNot (eCall (lenOk 3 d__law_step) (aCons (eVar 0) (aCons (eVar 1) (aCons (eVar 2) aNil)))) (eC .non)) (fe := eVar 2) (vs := [2])
      (ρ := [some (bkD cal us (rsX rs)), some (stdD s), none]) (st := st)
      (by
        have := range_of (fa := eOp2 gAdd (eCB gLen (aCons (eOp2 gIx (eVar 0) (eC (.int 1))) aNil)) (eC (.int 1))) (ρ := [some (bkD cal us (rsX rs)), some (stdD s), none]) (st := st) (us.length + 1) (i := (us.length : Int) + 1) (by simp [b1, ul]) (by omega) (by omega) (by omega)
        rw [this, ← rngD_nat, rng_up]) (fun x hx st => by
        have hxi := upTo_in hx
        have ls := fun st => lstep_eq B hs hxi.1 hxi.2 st
        have isn := osbD_isn (behB cal us rs x s)
        exact ⟨_, by simp [wipeR]; rfl, by simp [ls, isn], fun _ => by simp⟩) fun _ _ => rfl
    exact q
  simp [d__law_moves, b__law_moves, List.replicate, c, exitD_d (show muD (intsL (movesB cal us rs s)) = false from rfl)]
/-- the numbers that a person is drawn from -/
def mvO (cal : List Str) (us : List Du) (rs : List Ru) : Option Std → List Int
  | some s => movesB cal us rs s
  | none => [0]
/-- the slots of the law -/
def S13 (ns : List Int) (bk : D) (many n : Int) (h : D) (o6 o7 o8 o9 o10 o11 o12 o13 : Option D) : Rho := [some (.scr ns), some (.mu 1), some bk, some (.int many), some (.int n), some h, o6, o7, o8, o9, o10, o11, o12, o13, none, none, none, none, none, none, none, none, none, none]
variable {ns : List Int}
theorem c1_eq (B : Bk cal us rs) {os : List (Option Std)} (ho : ∀ o ∈ os, ∀ s, o = some s → OkStd cal rs s) (o6 o7 o9 o10 o11 o12 o13 : Option D) (st : Sto) :
    c1_law (S13 ns (bkD cal us (rsX rs)) us.length n (hsD cal us rs n dm) o6 o7 (some (.lst (os.map osbD))) o9 o10 o11 o12 o13) st = .ok (.lst (os.map fun o => intsL (mvO cal us rs o))) st :=
  lc_map (h := osbD) (by simp [S13]) (fun o hom st => by
    have isn := osbD_isn o
    cases o with
    | none =>
      exact ⟨_, by simp [S13, wipeR]; rfl, by simp [isn]; simp [osbD, mvO, intsL, sizeLine_eq]⟩
    | some s =>
      have lm := fun st => lmoves_eq B (ho _ hom s rfl) st
      exact ⟨_, by simp [S13, wipeR]; rfl, by simp [isn]; simp [osbD, mvO, lm]⟩) fun _ _ => rfl
theorem gIx_lst {α : Type} (f : α → D) (xs : List α) (i : Nat) (h : i < xs.length) (st : Sto) : gIx st (.lst (xs.map f)) (.int i) = some (f xs[i]) := by
  have := gIx_tab f xs i h st
  exact this
/-- a number is drawn for a person -/
theorem person_ok (B : Bk cal us rs) {os : List (Option Std)} (ho : ∀ o ∈ os, ∀ s, o = some s → OkStd cal rs s) {p : Nat} (hp : p < os.length) {s : Sto} (dr : Dr 1 s) (ρ : Rho) (h10 : ρ[10]? = some (some (.lst (os.map fun o => intsL (mvO cal us rs o))))) (h1 : ρ[1]? = some (some (.mu 1))) (h3 : ρ[3]? = some (some (.int us.length))) (h20 : ρ[20]? = some (some (.int (p : Nat)))) :
    ∃ (x : Int) (s' : Sto), eIf (tAndF (tTru (eOp2 gIx (eVar 10) (eVar 20))) (tCm gGt (eOp2 gMod (eCB gInt (aCons (eCall (lenOk 1 d__law_next) (aCons (eVar 1) aNil)) aNil)) (eC (.int 9))) (eC (.int 0)))) (eCall (lenOk 2 d__law_pick) (aCons (eVar 1) (aCons (eOp2 gIx (eVar 10) (eVar 20)) aNil))) (eOp2 gMod (eCB gInt (aCons (eCall (lenOk 1 d__law_next) (aCons (eVar 1) aNil)) aNil)) (eOp2 gAdd (eVar 3) (eC (.int 1)))) ρ s = .ok (.int x) s' ∧ (0 ≤ x ∧ x ≤ us.length) ∧ Stp 1 s s' := by
  have all : ∀ s, Dr 1 s → ∃ (x : Int) (s' : Sto), eOp2 gMod (eCB gInt (aCons (eCall (lenOk 1 d__law_next) (aCons (eVar 1) aNil)) aNil)) (eOp2 gAdd (eVar 3) (eC (.int 1))) ρ s = .ok (.int x) s' ∧ (0 ≤ x ∧ x ≤ us.length) ∧ Stp 1 s s' := fun s dr => by
    obtain ⟨d, s1, e1, ⟨i, rfl⟩, p1⟩ := next_ok dr
    have hm := modB i (j := (us.length : Int) + 1) (by omega)
    have g1 : ∀ st, gMod st (.int i) (.int ((us.length : Int) + 1)) = some (.int (i % ((us.length : Int) + 1))) := fun st => gMod_int (by omega)
    exact ⟨_, s1, by simp [h1, h3, e1, g1], ⟨hm.1, by omega⟩, p1⟩
  have ix := fun st => gIx_lst (fun o => intsL (mvO cal us rs o)) os p hp st
  have mb : ∀ x ∈ mvO cal us rs os[p], 0 ≤ x ∧ x ≤ us.length := fun x hx => by
    cases q : os[p] with
    | none => rw [q] at hx; simp [mvO] at hx; omega
    | some s => rw [q] at hx; exact movesB_in2 hx
  generalize mvO cal us rs os[p] = ms at ix mb
  have tr : ∀ st, truD st (intsL ms) = some (!ms.isEmpty) := fun st => by
    unfold intsL; cases ms <;> rfl
  cases hem : ms.isEmpty with
  | true =>
    rw [hem] at tr
    obtain ⟨x, s', e, hx, sp⟩ := all s dr
    refine ⟨x, s', ?_, hx, sp⟩
    simp only [eIf_q, tAndF_q, tTru_q, eOp2_q, R.bind] at e ⊢
    simp only [eVar_q, h10, h20, R.bind, ix, tr, Bool.not_true, Bool.false_eq_true, if_false]
    exact e
  | false =>
    rw [hem] at tr
    obtain ⟨d, s1, e1, ⟨i, rfl⟩, p1⟩ := next_ok dr
    have g9 : ∀ st, gMod st (.int i) (.int 9) = some (.int (i % 9)) := fun st => gMod_int (by omega)
    by_cases h8 : 0 < i % 9
    · obtain ⟨x, s2, e2, hx, p2⟩ := pick_in D.int ms (fun _ => rfl) p1.dr (fun z => by rw [z] at hem; cases hem)
      have e2 : d__law_pick [.mu 1, intsL ms] s1 = .ok (.int x) s2 := e2
      refine ⟨x, s2, ?_, mb x hx, p1.trans p2⟩
      simp [h10, h1, h3, h20, ix, tr, e1, g9, h8, e2]
    · obtain ⟨x, s', e, hx, sp⟩ := all s1 p1.dr
      refine ⟨x, s', ?_, hx, p1.trans sp⟩
      have c : tAndF (tTru (eOp2 gIx (eVar 10) (eVar 20))) (tCm gGt (eOp2 gMod (eCB gInt (aCons (eCall (lenOk 1 d__law_next) (aCons (eVar 1) aNil)) aNil)) (eC (.int 9))) (eC (.int 0))) ρ s = .ok false s1 := by
        simp [h10, h1, h3, h20, ix, tr, e1, g9, h8]
      rw [eIf_q, c]
      exact e
theorem c2_ok (B : Bk cal us rs) {os : List (Option Std)} (ho : ∀ o ∈ os, ∀ s, o = some s → OkStd cal rs s) (hn : os.length = n) (hn6 : n ≤ 6) {s : Sto} (dr : Dr 1 s) (o6 o7 o8 o9 o11 o12 o13 : Option D) :
    ∃ (r : List Int) (s' : Sto), c2_law (S13 ns (bkD cal us (rsX rs)) us.length n (hsD cal us rs n dm) o6 o7 o8 o9 (some (.lst (os.map fun o => intsL (mvO cal us rs o)))) o11 o12 o13) s = .ok (intsL r) s' ∧ (r.length = n ∧ okR us r) ∧ Stp 1 s s' := by
  obtain ⟨r, s1, e1, l1, h1, p1⟩ := lc_draw (n := 1) (h := D.int) (P := fun x => 0 ≤ x ∧ x ≤ us.length) (fi := iRange1 (aCons (eVar 4) aNil)) (t := .nm 20) (fe := eIf (tAndF (tTru (eOp2 gIx (eVar 10) (eVar 20))) (tCm gGt (eOp2 gMod (eCB gInt (aCons (eCall (lenOk 1 d__law_next) (aCons (eVar 1) aNil)) aNil)) (eC (.int 9))) (eC (.int 0)))) (eCall (lenOk 2 d__law_pick) (aCons (eVar 1) (aCons (eOp2 gIx (eVar 10) (eVar 20)) aNil))) (eOp2 gMod (eCB gInt (aCons (eCall (lenOk 1 d__law_next) (aCons (eVar 1) aNil)) aNil)) (eOp2 gAdd (eVar 3) (eC (.int 1))))) (vs := [20])
    (ρ := S13 ns (bkD cal us (rsX rs)) us.length n (hsD cal us rs n dm) o6 o7 o8 o9 (some (.lst (os.map fun o => intsL (mvO cal us rs o)))) o11 o12 o13) (st := s) (items := (List.range n).map fun i : Nat => D.int (i : Int)) (s1 := s) (range_of n (i := n) (by simp [S13]) (by omega) (by omega) (by omega)) (.refl dr)
    (fun d hd s hs => by
      obtain ⟨p, hp, rfl⟩ := List.mem_map.mp hd
      rw [List.mem_range] at hp
      exact ⟨_, by simp [S13, wipeR]; rfl, person_ok B ho (p := p) (by omega) hs _ rfl rfl rfl rfl⟩) (fun y _ => rfl)
  exact ⟨r, s1, e1, ⟨by rw [l1]; simp, fun y hy => h1 y hy⟩, p1⟩
/-- a day more: every person's standing goes on -/
theorem behs_snoc {r : List Int} (hr : r.length = n) : behs cal us rs n (rows ++ [r]) = ((List.range n).map fun p => ((behs cal us rs n rows)[p]?.getD none).bind (behB cal us rs ((r[p]?).getD 0))) := by
  unfold behs
  apply List.map_congr_left
  intro p hp
  rw [List.mem_range] at hp
  have : colL (rows ++ [r]) p = colL rows p ++ [(r[p]?).getD 0] := by simp [colL]
  rw [this, behAll_snoc]
  simp [hp]
theorem c3_eq (B : Bk cal us rs) (h : okPlan us n rows) (hn6 : n ≤ 6) {r : List Int} (hr : r.length = n) (hx : okR us r) (o6 o7 o9 o10 o12 o13 : Option D) (st : Sto) :
    c3_law (S13 ns (bkD cal us (rsX rs)) us.length n (hsD cal us rs n dm) o6 o7 (some (.lst ((behs cal us rs n rows).map osbD))) o9 o10 (some (intsT r)) o12 o13) st = .ok (.lst ((behs cal us rs n (rows ++ [r])).map osbD)) st := by
  have bl : (behs cal us rs n rows).length = n := by simp [behs]
  have q := lc_map (h := fun i : Nat => D.int (i : Int)) (g := fun p : Nat => osbD (((behs cal us rs n rows)[p]?.getD none).bind (behB cal us rs ((r[p]?).getD 0)))) (xs := List.range n) (fi := iRange1 (aCons (eVar 4) aNil)) (t := .nm 20)
    (fe := eIf (tCm gIsNot (eOp2 gIx (eVar 8) (eVar 20)) (eC .non)) (eCall (lenOk 3 d__law_step) (aCons (eVar 2) (aCons (eOp2 gIx (eVar 8) (eVar 20)) (aCons (eOp2 gIx (eVar 11) (eVar 20)) aNil)))) (eC .non)) (vs := [20])
    (ρ := S13 ns (bkD cal us (rsX rs)) us.length n (hsD cal us rs n dm) o6 o7 (some (.lst ((behs cal us rs n rows).map osbD))) o9 o10 (some (intsT r)) o12 o13) (st := st) (range_of n (i := n) (by simp [S13]) (by omega) (by omega) (by omega))
    (fun p hp st => by
      rw [List.mem_range] at hp
      have hp1 : p < (behs cal us rs n rows).length := by omega
      have hp2 : p < r.length := by omega
      have g1 := fun st => gIx_lst osbD (behs cal us rs n rows) p hp1 st
      have g2 : ∀ st, gIx st (intsT r) (.int (p : Nat)) = some (.int r[p]) := fun st => gIx_tab D.int r p hp2 st
      have ok := behs_ok B h _ (List.getElem_mem hp1)
      have hxi := hx _ (List.getElem_mem hp2)
      rw [List.getElem?_eq_getElem hp1, List.getElem?_eq_getElem hp2]
      simp only [Option.getD_some]
      generalize (behs cal us rs n rows)[p] = o at g1 ok
      have isn := osbD_isn o
      cases o with
      | none => exact ⟨_, by simp [S13, wipeR]; rfl, by simp [g1, isn]; simp [osbD]⟩
      | some s =>
        have ls := fun st => lstep_eq B (ok s rfl) hxi.1 hxi.2 st
        have e : osbD (some s) = stdD s := rfl
        rw [e] at g1 isn
        exact ⟨_, by simp [S13, wipeR]; rfl, by simp [g1, g2, isn, ls]⟩) fun _ _ => osbD_mu _
  rw [behs_snoc hr, List.map_map]
  exact q
end
end Lw

set_option Elab.async false
set_option linter.all false
set_option autoImplicit false
set_option maxRecDepth 100000
set_option maxHeartbeats 1000000
namespace Lw
open PySem PySem.Spec PyProof.Rows L2 Fn
section
variable {α : Type} {h g : α → D} {xs : List α} {fi : IF} {t : Tg} {fe : EF} {vs : List Nat} {ρ : Rho} {st : Sto}
theorem lcD_mapS (hb : ∀ x ∈ xs, ∀ s, (∀ m, m < st.length → s[m]? = st[m]?) → ∃ ρ1, gT s t (h x) (wipeR ρ vs) = some ρ1 ∧ fe ρ1 s = .ok (g x) s) (hm : ∀ x ∈ xs, muD (g x) = false) :
    ∀ (k : Nat) (acc : List D), acc.length = k → lcD t tYesF fe vs st.length k (xs.map h) ρ (st ++ [.ml acc]) = .ok () (st ++ [.ml (acc ++ xs.map g)]) := by
  induction xs with
  | nil => intro k acc _; simp [lcD]
  | cons x xs ih =>
    intro k acc hk
    obtain ⟨ρ1, e1, e2⟩ := hb x List.mem_cons_self (st ++ [.ml acc]) fun m hm => List.getElem?_append_left hm
    have hget : (st ++ [MO.ml acc])[st.length]? = some (.ml acc) := by simp
    have hset : (st ++ [MO.ml acc]).set st.length (.ml (acc ++ [g x])) = st ++ [.ml (acc ++ [g x])] := by
      rw [List.set_append_right _ _ (Nat.le_refl _)]; simp
    simp only [List.map_cons, lcD, e1, tYesF, if_true, e2, hget, hm x List.mem_cons_self, true_and, hk, Nat.le_refl, hset]
    rw [ih (fun y hy => hb y (List.mem_cons_of_mem _ hy)) (fun y hy => hm y (List.mem_cons_of_mem _ hy)) (k + 1) (acc ++ [g x]) (by simp [hk])]
    simp
/-- a comprehension whose parts look at the store as it stands -/
theorem lc_mapS (hfi : fi ρ st = .ok (xs.map h) st) (hb : ∀ x ∈ xs, ∀ s, (∀ m, m < st.length → s[m]? = st[m]?) → ∃ ρ1, gT s t (h x) (wipeR ρ vs) = some ρ1 ∧ fe ρ1 s = .ok (g x) s) (hm : ∀ x ∈ xs, muD (g x) = false) :
    eLc false fi t tYesF fe vs ρ st = .ok (.lst (xs.map g)) st := by
  simp only [eLc, hfi, R.bind]
  rw [lcD_mapS hb hm 0 [] rfl]
  simp [lcEnd, R.bind]
end
section
variable {cal : List Str} {us : List Du} {rs : List Ru} {n : Nat} {dm : List Ent} {ns : List Int}
/-- a turn's days: the plan stands behind the store -/
def InP (ns : List Int) (cal : List Str) (us : List Du) (rs : List Ru) (n : Nat) (dm : List Ent) (L k : Nat) (ρ : Rho) (s : Sto) : Prop := ∃ (rows : List (List Int)) (o6 o9 o10 o11 o12 o13 : Option D),
  ρ = S13 ns (bkD cal us (rsX rs)) us.length n (hsD cal us rs n dm) o6 (some (.mu L)) (some (.lst ((behs cal us rs n rows).map osbD))) o9 o10 o11 o12 o13 ∧ rows.length = k ∧ okPlan us n rows ∧ s[L]? = some (.ml (rows.map intsT)) ∧ Dr 1 s ∧ s.length = L + 1
theorem okPlan_app {rows : List (List Int)} {r : List Int} (h : okPlan us n rows) (hr : r.length = n ∧ okR us r) : okPlan us n (rows ++ [r]) := fun x hx => by
  rcases List.mem_append.mp hx with q | q
  · exact h x q
  · simp at q; subst q; exact hr
theorem dayP_ok (B : Hs cal us rs n dm) {L N : Nat} (h1L : 1 < L) (hN : N ≤ 10) (k : Nat) (ρ : Rho) (s : Sto) (hk : k < N) (h : InP ns cal us rs n dm L k ρ s) :
    ∃ ρ1, gT s (.nm 9) (.int (k : Int)) ρ = some ρ1 ∧ ((∃ ρ2 s2, (l1_law ρ1 s = .nx ρ2 s2 ∨ l1_law ρ1 s = .ct ρ2 s2) ∧ InP ns cal us rs n dm L (k + 1) ρ2 s2) ∨ ∃ ρ2 s2, l1_law ρ1 s = .bk ρ2 s2 ∧ InP ns cal us rs n dm L N ρ2 s2) := by
  obtain ⟨rows, o6, o9, o10, o11, o12, o13, rfl, hl, hp, eL, dr, len⟩ := h
  have hn6 := B.crew.2
  have hc0 : 0 < cal.length := List.length_pos_iff.mpr B.hc
  refine ⟨S13 ns (bkD cal us (rsX rs)) us.length n (hsD cal us rs n dm) o6 (some (.mu L)) (some (.lst ((behs cal us rs n rows).map osbD))) (some (.int k)) o10 o11 o12 o13, by simp [S13], .inl ?_⟩
  have ho := behs_ok B.toBk hp
  have bl : (behs cal us rs n rows).length = n := by simp [behs]
  have c1 := c1_eq (ns := ns) (n := n) (dm := dm) B.toBk ho o6 (some (.mu L)) (some (.int k)) o10 o11 o12 o13 s
  obtain ⟨r, s1, c2, hr, p1⟩ := c2_ok (ns := ns) (n := n) (dm := dm) B.toBk ho bl hn6 dr o6 (some (.mu L)) (some (.lst ((behs cal us rs n rows).map osbD))) (some (.int k)) o11 o12 o13
  have hph : k % cal.length < cal.length := Nat.mod_lt _ hc0
  have gm := fun st => gMod_nat k cal.length hc0 st
  have b0 := bk_i0 (cal := cal) (us := us) (rs := rs)
  have b1 := bk_i1 (cal := cal) (us := us) (rs := rs)
  have cl := cal_len (cal := cal)
  have a2 := fun st => ask2 (st := st) (fun st => meets_ok B hr.1 hr.2 hph st) rfl
  have lm := fun st => lmet_eq hr.2 ((dm[k % cal.length]?).getD []) st
  have gd := fun st => gIx_dem (ph_ok B k) st
  have rb := repr_b (metL us ((dm[k % cal.length]?).getD []) r)
  have c3 := fun st => c3_eq (ns := ns) (dm := dm) B.toBk hp hn6 hr.1 hr.2 o6 (some (.mu L)) (some (.int k)) (some (.lst ((behs cal us rs n rows).map fun o => intsL (mvO cal us rs o)))) (some (.int (k % cal.length : Nat))) o13 st
  have eL1 : s1[L]? = some (.ml (rows.map intsT)) := (p1.ne L (by omega)).trans eL
  have len1 : s1.length = L + 1 := by rw [p1.len, len]
  have sz : rows.length < sizeLine := by rw [sizeLine_eq]; omega
  refine ⟨S13 ns (bkD cal us (rsX rs)) us.length n (hsD cal us rs n dm) o6 (some (.mu L)) (some (.lst ((behs cal us rs n (rows ++ [r])).map osbD))) (some (.int k)) (some (.lst ((behs cal us rs n rows).map fun o => intsL (mvO cal us rs o)))) (some (intsT r)) (some (.int (k % cal.length : Nat))) o13, s1.set L (.ml ((rows ++ [r]).map intsT)), .inl ?_,
    rows ++ [r], _, _, _, _, _, _, rfl, by simp [hl], okPlan_app hp hr, by rw [List.getElem?_set_self (by omega)], ?_, by simp [len1]⟩
  · generalize k % cal.length = ph at gm a2 lm gd rb c3 ⊢
    generalize metL us ((dm[ph]?).getD []) r = b at a2 lm rb
    refine run_seq (ρ' := S13 ns (bkD cal us (rsX rs)) us.length n (hsD cal us rs n dm) o6 (some (.mu L)) (some (.lst ((behs cal us rs n rows).map osbD))) (some (.int k)) (some (.lst ((behs cal us rs n rows).map fun o => intsL (mvO cal us rs o)))) o11 o12 o13) (st' := s) ?_ ?_
    · rw [sAsg_q, c1]; simp [S13]
    refine run_seq (ρ' := S13 ns (bkD cal us (rsX rs)) us.length n (hsD cal us rs n dm) o6 (some (.mu L)) (some (.lst ((behs cal us rs n rows).map osbD))) (some (.int k)) (some (.lst ((behs cal us rs n rows).map fun o => intsL (mvO cal us rs o)))) (some (intsT r)) o12 o13) (st' := s1) ?_ ?_
    · have gt : ∀ st, gTuple st [intsL r] = some (intsT r) := fun st => rfl
      rw [sAsg_q, eCB_q, aCons_q, c2]; simp [S13, gt]
    refine run_seq (ρ' := S13 ns (bkD cal us (rsX rs)) us.length n (hsD cal us rs n dm) o6 (some (.mu L)) (some (.lst ((behs cal us rs n rows).map osbD))) (some (.int k)) (some (.lst ((behs cal us rs n rows).map fun o => intsL (mvO cal us rs o)))) (some (intsT r)) (some (.int (ph : Nat))) o13) (st' := s1) (by simp [S13, b0, cl, gm]) ?_
    refine run_seq (ρ' := S13 ns (bkD cal us (rsX rs)) us.length n (hsD cal us rs n dm) o6 (some (.mu L)) (some (.lst ((behs cal us rs n rows).map osbD))) (some (.int k)) (some (.lst ((behs cal us rs n rows).map fun o => intsL (mvO cal us rs o)))) (some (intsT r)) (some (.int (ph : Nat))) o13) (st' := s1) (by simp [S13, a2, rb, b1, h_i2, gd, lm]) ?_
    refine run_seq (ρ' := S13 ns (bkD cal us (rsX rs)) us.length n (hsD cal us rs n dm) o6 (some (.mu L)) (some (.lst ((behs cal us rs n (rows ++ [r])).map osbD))) (some (.int k)) (some (.lst ((behs cal us rs n rows).map fun o => intsL (mvO cal us rs o)))) (some (intsT r)) (some (.int (ph : Nat))) o13) (st' := s1) ?_ ?_
    · rw [sAsg_q, c3]; simp [S13]
    have mr : muD (intsT r) = false := rfl
    simp [S13, gAppend, mlD, lstD, eL1, mr, sz]
  · obtain ⟨ds, e⟩ := p1.dr
    exact ⟨ds, by rw [List.getElem?_set_ne (by omega)]; exact e⟩
/-- what the outer loop keeps -/
def OutP (ns : List Int) (cal : List Str) (us : List Du) (rs : List Ru) (n : Nat) (dm : List Ent) (ρ : Rho) (s : Sto) : Prop := ∃ (o6 o7 o8 o9 o10 o11 o12 o13 : Option D), ρ = S13 ns (bkD cal us (rsX rs)) us.length n (hsD cal us rs n dm) o6 o7 o8 o9 o10 o11 o12 o13 ∧ Dr 1 s
theorem gMul_one {n : Nat} (h : n ≤ 1000) {x : D} (st : Sto) : gMul st (.lst [x]) (.int (n : Nat)) = some (.lst (List.replicate n x)) := by
  have h1 : -(2 ^ 63) ≤ (n : Int) := by omega
  have h2 : (n : Int) < 2 ^ 63 := by omega
  have h3 : [x].length * (n : Int).toNat ≤ sizeLine := by rw [sizeLine_eq]; simp; omega
  rw [gMul_lst, if_pos ⟨h1, h2, h3⟩]
  simp
theorem sortD_mem {ds : List D} {d : D} (h : d ∈ sortD ds) : d ∈ ds := List.mem_mergeSort.mp h
theorem repr_two (B : Bk cal us rs) (b : Bool) {d : D} (h : d = .str "!none" ∨ ∃ l : List Std, (∀ s ∈ l, OkStd cal rs s) ∧ l.length ≤ 6 ∧ d = .tup (sortD (l.map stdD))) (st : Sto) : gRepr st [.lst [.bl b, d]] = some (.str (toP (.lst [.bl b, d])).shown) := by
  have k : smallP (toP d) = true ∧ (toP d).depth ≤ 20 ∧ (toP d).weight ≤ 100000 := by
    rcases h with rfl | ⟨l, h1, h2, rfl⟩
    · decide +kernel
    · have a := smalls_of (W := 6000) (ds := sortD (l.map stdD)) fun d hd => by
        obtain ⟨s, hs, rfl⟩ := List.mem_map.mp (sortD_mem hd)
        exact std_sm2 B (h1 s hs)
      have e : (sortD (l.map stdD)).length = l.length := by unfold sortD; rw [List.length_mergeSort, List.length_map]
      rw [e] at a
      simp only [toP, smallP, PyData.depth, PyData.weight]
      exact ⟨a.1, by omega, by omega⟩
  refine gRepr_of rfl ?_ ?_ ?_
  · simp only [toP, toPs, smallP, smallPs, k.1, Bool.and_self]
  · simp only [toP, toPs, PyData.depth, PyData.depthAll]; omega
  · simp only [toP, toPs, PyData.weight, PyData.weightAll]; have := two20; omega
theorem eOp2_ok {g : G2} {fa fb : EF} {ρ : Rho} {st s1 s2 : Sto} {x y z : D} (h1 : fa ρ st = .ok x s1) (h2 : fb ρ s1 = .ok y s2) (h3 : g s2 x y = some z) : eOp2 g fa fb ρ st = .ok z s2 := by
  rw [eOp2_q, h1]
  simp only [R.bind]
  rw [h2]
  simp only [R.bind]
  rw [h3]
theorem behs_nil : (behs cal us rs n []).map osbD = List.replicate n (stdD (startB rs)) := by
  unfold behs
  rw [List.map_map, List.eq_replicate_iff]
  refine ⟨by simp, fun d hd => ?_⟩
  obtain ⟨p, _, rfl⟩ := List.mem_map.mp hd
  rfl
theorem tb_hA (B : Bk cal us rs) (o6 o7 o8 o9 o10 o11 o12 o13 : Option D) (st : Sto) : eLst (aCons (eCall (lenOk 1 d__law_first) (aCons (eVar 2) aNil)) aNil) (S13 ns (bkD cal us (rsX rs)) us.length n (hsD cal us rs n dm) o6 o7 o8 o9 o10 o11 o12 o13) st = .ok (.lst [stdD (startB rs)]) st := by
  have lf := lfirst_eq B
  have mstd : muD (stdD (startB rs)) = false := rfl
  have sz1 : (1 : Nat) ≤ sizeLine := by rw [sizeLine_eq]; omega
  generalize stdD (startB rs) = x at lf mstd ⊢
  simp [S13, lf, mstd, sz1]
theorem tb_hB (B : Bk cal us rs) (hn : n ≤ 6) (o6 o7 o8 o9 o10 o11 o12 o13 : Option D) (st : Sto) : eOp2 gMul (eLst (aCons (eCall (lenOk 1 d__law_first) (aCons (eVar 2) aNil)) aNil)) (eVar 4) (S13 ns (bkD cal us (rsX rs)) us.length n (hsD cal us rs n dm) o6 o7 o8 o9 o10 o11 o12 o13) st = .ok (.lst ((behs cal us rs n []).map osbD)) st := by
  have gm := gMul_one (n := n) (by omega) (x := stdD (startB rs)) st
  rw [behs_nil]
  exact eOp2_ok (tb_hA B o6 o7 o8 o9 o10 o11 o12 o13 st) rfl gm
theorem turn_b2 (B : Bk cal us rs) (hn : n ≤ 6) (o6 o7 o8 o9 o10 o11 o12 o13 : Option D) (st : Sto) : sAsg (.nm 8) (eOp2 gMul (eLst (aCons (eCall (lenOk 1 d__law_first) (aCons (eVar 2) aNil)) aNil)) (eVar 4)) (S13 ns (bkD cal us (rsX rs)) us.length n (hsD cal us rs n dm) o6 o7 o8 o9 o10 o11 o12 o13) st = .nx (S13 ns (bkD cal us (rsX rs)) us.length n (hsD cal us rs n dm) o6 o7 (some (.lst ((behs cal us rs n []).map osbD))) o9 o10 o11 o12 o13) st := by
  rw [sAsg_q, tb_hB B hn]
  simp [S13]
theorem turnP_ok (B : Hs cal us rs n dm) (k : Nat) (ρ : Rho) (s : Sto) (hk : k < 5) (h : OutP ns cal us rs n dm ρ s) :
    ∃ ρ1, gT s (.nm 6) (.int (k : Int)) ρ = some ρ1 ∧ ((∃ ρ2 s2, (l2_law ρ1 s = .nx ρ2 s2 ∨ l2_law ρ1 s = .ct ρ2 s2) ∧ OutP ns cal us rs n dm ρ2 s2) ∨ ∃ ρ2 s2, l2_law ρ1 s = .bk ρ2 s2 ∧ OutP ns cal us rs n dm ρ2 s2) := by
  obtain ⟨o6, o7, o8, o9, o10, o11, o12, o13, rfl, dr⟩ := h
  have hn6 := B.crew
  refine ⟨S13 ns (bkD cal us (rsX rs)) us.length n (hsD cal us rs n dm) (some (.int k)) o7 o8 o9 o10 o11 o12 o13, by simp [S13], .inl ?_⟩
  have h1L : 1 < s.length := dr.lt
  have lf := lfirst_eq B.toBk
  have e0 : (behs cal us rs n []).map osbD = List.replicate n (stdD (startB rs)) := by
    unfold behs
    rw [List.map_map, List.eq_replicate_iff]
    refine ⟨by simp, fun d hd => ?_⟩
    obtain ⟨p, _, rfl⟩ := List.mem_map.mp hd
    rfl
  have gmul : ∀ st, gMul st (.lst [stdD (startB rs)]) (.int (n : Nat)) = some (.lst ((behs cal us rs n []).map osbD)) := fun st => by
    rw [gMul_one (by have := hn6.2; omega), e0]
  obtain ⟨_, s1, e1, ⟨i, rfl⟩, p1⟩ := next_ok (n := 1) (st := s ++ [.ml []]) dr.app
  have hm := modB i (j := 6) (by omega)
  have g6 : ∀ st, gMod st (.int i) (.int 6) = some (.int (i % 6)) := fun st => gMod_int (by omega)
  have it : iRange1 (aCons (eOp2 gMod (eCB gInt (aCons (eCall (lenOk 1 d__law_next) (aCons (eVar 1) aNil)) aNil)) (eC (.int 6))) aNil) (S13 ns (bkD cal us (rsX rs)) us.length n (hsD cal us rs n dm) (some (.int k)) (some (.mu s.length)) (some (.lst ((behs cal us rs n []).map osbD))) o9 o10 o11 o12 o13) (s ++ [.ml []]) = .ok ((List.range (i % 6).toNat).map fun i : Nat => D.int (i : Int)) s1 := by
    have sz : (i % 6).toNat ≤ sizeLine := by rw [sizeLine_eq]; omega
    have big : -(2 ^ 62) ≤ i % 6 := by omega
    simp only [iRange1_q, aCons_q, aNil_q, eOp2_q, eCB_q, eCall_q, lenOk_q, eC_q, S13, eVar_q, List.getElem?_cons_zero, List.getElem?_cons_succ, R.bind, List.length_cons, List.length_nil, if_true, e1, gInt_int, g6]
    rw [if_pos ⟨sz, big⟩, rngD_nat]
  obtain ⟨ρ2, s2, e2, rows, p6, p9, p10, p11, p12, p13, rfl, hl, hp, eL, d2, len2⟩ := forD_rng0 (t := .nm 9) (body := l1_law) (I := InP ns cal us rs n dm s.length) (J := InP ns cal us rs n dm s.length (i % 6).toNat) (N := (i % 6).toNat)
    (ρ := S13 ns (bkD cal us (rsX rs)) us.length n (hsD cal us rs n dm) (some (.int k)) (some (.mu s.length)) (some (.lst ((behs cal us rs n []).map osbD))) o9 o10 o11 o12 o13) (s := s1)
    (fun k ρ s hk h => dayP_ok B h1L (by omega) k ρ s hk h) (fun ρ s h => h)
    ⟨[], _, _, _, _, _, _, rfl, rfl, fun r hr => by simp at hr, by rw [p1.ne _ (by omega)]; simp, p1.dr, by rw [p1.len]; simp⟩
  have gt : gTuple s2 [.mu s.length] = some (planD rows) := by simp [gTuple, lstD, eL, planD]
  have lst := lstandings_eq B hp (by omega)
  have rp := rightplan_eq B hp (by omega)
  have jt := joint_eq B hp (by omega)
  have k2 : ∀ l, standL cal us rs n dm rows = some l → (∀ s ∈ l, OkStd cal rs s) ∧ l.length ≤ 6 := fun l e => by
    have := standL_ok B.toBk hp e
    exact ⟨this.1, by omega⟩
  have main : ∀ (b : Bool) (d due : D), (∀ st, d_is_right_plan [hsD cal us rs n dm, planD rows] st = .ok (.bl b) st) → (∀ st, d__law_asked [.int 1, hsD cal us rs n dm, planD rows, .non] st = .ok d st) → muD d = false → muD due = false →
      (∀ st, d__law_standings [hsD cal us rs n dm, planD rows] st = .ok due st) → (∀ st, gIsNot st due .non = some b) → (∀ st, gIs st due .non = some !b) → (b = true → due = d) → (b = false → d = .str "!none") →
      (∀ st, gRepr st [.lst [.bl b, d]] = some (.str (toP (.lst [.bl b, d])).shown)) →
      l2_law (S13 ns (bkD cal us (rsX rs)) us.length n (hsD cal us rs n dm) (some (.int k)) o7 o8 o9 o10 o11 o12 o13) s = .nx (S13 ns (bkD cal us (rsX rs)) us.length n (hsD cal us rs n dm) p6 (some (.mu s.length)) (some (.lst ((behs cal us rs n rows).map osbD))) p9 p10 p11 p12 (some due)) s2 := fun b d due q1 q2 md mdue q3 q4 q5 q6 q7 q8 => by
    have c4 : c4_law (S13 ns (bkD cal us (rsX rs)) us.length n (hsD cal us rs n dm) p6 (some (.mu s.length)) (some (.lst ((behs cal us rs n rows).map osbD))) p9 p10 p11 p12 (some due)) s2 = .ok (.lst [.bl b, d]) s2 := by
      have q := lc_mapS (st := s2) (h := fun i : Nat => D.int (i : Int)) (g := fun i : Nat => ([D.bl b, d][i]?).getD .non) (xs := List.range 2) (fi := iRange1 (aCons (eC (.int 2)) aNil)) (t := .nm 21) (fe := eCall (lenOk 4 d__law_asked) (aCons (eVar 21) (aCons (eVar 5) (aCons (eCB gTuple (aCons (eVar 7) aNil)) (aCons (eC .non) aNil))))) (vs := [21])
        (ρ := S13 ns (bkD cal us (rsX rs)) us.length n (hsD cal us rs n dm) p6 (some (.mu s.length)) (some (.lst ((behs cal us rs n rows).map osbD))) p9 p10 p11 p12 (some due)) (range_of 2 (i := 2) (by simp) (by omega) (by omega) (by omega)) (fun i hi st hst => by
          rw [List.mem_range] at hi
          have gt2 : gTuple st [.mu s.length] = some (planD rows) := by
            have : st[s.length]? = some (.ml (rows.map intsT)) := by rw [hst _ (by omega)]; exact eL
            simp [gTuple, lstD, this, planD]
          have h2 : i = 0 ∨ i = 1 := by omega
          rcases h2 with rfl | rfl
          · have a0 := fun st => ask0 (st := st) (x := .non) q1 rfl
            exact ⟨_, gT_nm, by simp [S13, wipeR, gt2, a0]⟩
          · exact ⟨_, gT_nm, by simp [S13, wipeR, gt2, q2]⟩) (fun i hi => by
          rw [List.mem_range] at hi
          have h2 : i = 0 ∨ i = 1 := by omega
          rcases h2 with rfl | rfl
          · rfl
          · exact md)
      exact q
    refine run_seq (ρ' := S13 ns (bkD cal us (rsX rs)) us.length n (hsD cal us rs n dm) (some (.int k)) (some (.mu s.length)) o8 o9 o10 o11 o12 o13) (st' := s ++ [.ml []]) (by simp [S13, sizeLine_eq]) ?_
    refine run_seq (ρ' := S13 ns (bkD cal us (rsX rs)) us.length n (hsD cal us rs n dm) (some (.int k)) (some (.mu s.length)) (some (.lst ((behs cal us rs n []).map osbD))) o9 o10 o11 o12 o13) (st' := s ++ [.ml []]) ?_ ?_
    · exact turn_b2 B.toBk hn6.2 _ _ _ _ _ _ _ _ _
    refine run_seq (for_nxS2 it e2) ?_
    refine run_seq (ρ' := S13 ns (bkD cal us (rsX rs)) us.length n (hsD cal us rs n dm) p6 (some (.mu s.length)) (some (.lst ((behs cal us rs n rows).map osbD))) p9 p10 p11 p12 (some due)) (st' := s2) (by simp [S13, gt, q3]) ?_
    have sz2 : (2 : Nat) ≤ sizeLine := by rw [sizeLine_eq]; omega
    generalize (toP (.lst [.bl b, d])).shown = tx at q8
    have gn : ∀ st, gNe st (.str tx) (.str tx) = some false := fun st => by simp
    simp only [sIf_q, tCm_q, eCB_q, aCons_q, c4, R.bind, aNil_q, q8]
    cases b with
    | true =>
      have := q6 rfl
      subst this
      simp [S13, q4, q5, sz2, q8, mdue, gn]
    | false =>
      have := q7 rfl
      subst this
      simp [S13, q4, q5, sz2, q8, gn]
  cases q : standL cal us rs n dm rows with
  | none =>
    rw [q] at lst rp jt
    have a1 := fun st => ask1e (st := st) (x := .non) jt kA rfl
    exact ⟨_, s2, .inl (main false (.str "!none") .non rp a1 rfl rfl lst (fun _ => rfl) (fun _ => rfl) (fun z => by cases z) (fun _ => rfl) (fun st => repr_two B.toBk false (.inl rfl) st)), _, _, _, _, _, _, _, _, rfl, d2⟩
  | some l =>
    rw [q] at lst rp jt
    have a1 := fun st => ask1 (st := st) (x := .non) jt rfl
    have kk := k2 l q
    exact ⟨_, s2, .inl (main true (jointD (some l)) (jointD (some l)) rp a1 rfl rfl lst (fun _ => rfl) (fun _ => rfl) (fun _ => rfl) (fun z => by cases z) (fun st => repr_two B.toBk true (.inr ⟨l, kk.1, kk.2, rfl⟩) st)), _, _, _, _, _, _, _, _, rfl, d2⟩
end
end Lw

set_option Elab.async false
set_option linter.all false
set_option autoImplicit false
set_option maxRecDepth 100000
set_option maxHeartbeats 1000000
namespace Lw
open PySem PySem.Spec PyProof.Rows L2 Fn
theorem gMul_oneT {k : Int} (h0 : 0 ≤ k) (h : k ≤ 1000) {x : D} (st : Sto) : gMul st (.tup [x]) (.int k) = some (.tup (List.replicate k.toNat x)) := by
  rw [gMul_tup (by omega) h (by simp)]
  simp
theorem gMul_oneL {k : Nat} (h : k ≤ 1000) {x : D} (st : Sto) : gMul st (.lst [x]) (.int (k : Nat)) = some (.lst (List.replicate k x)) := gMul_one h st
section
variable {cal : List Str} {us : List Du} {rs : List Ru} {n : Nat} {dm : List Ent} {ns : List Int}
theorem gAdd_dem {a b : List Ent} (h : a.length + b.length ≤ 1000) (st : Sto) : gAdd st (demD a) (demD b) = some (demD (a ++ b)) := by
  simp only [demD]
  rw [gAdd_tup, if_pos (by rw [List.length_map, List.length_map, sizeLine_eq]; omega), List.map_append]
/-- the demands that are none -/
def wrongA (dm : List Ent) : List (List Ent) := [[[⟨"", -1, 1⟩]] ++ dm.tail, [[⟨"", 2, 1⟩]] ++ dm.tail, [[⟨"", 0, 7⟩]] ++ dm.tail, [[⟨"ab", 0, 1⟩]] ++ dm.tail]
def wrongB (dm : List Ent) : List (List Ent) := [dm ++ [[]], dm.tail, [List.replicate 5 ⟨"", 0, 1⟩] ++ dm.tail]
def wrongs (dm : List Ent) : List (List Ent) := wrongA dm ++ wrongB dm
theorem wrong_no (B : Hs cal us rs n dm) {w : List Ent} (h : w ∈ wrongs dm) : okDem cal.length w = false := by
  have hc0 : 0 < cal.length := List.length_pos_iff.mpr B.hc
  have hl := dm_len B
  have e1 : okEnt [⟨"", -1, 1⟩] = false := by decide +kernel
  have e2 : okEnt [⟨"", 2, 1⟩] = false := by decide +kernel
  have e3 : okEnt [⟨"", 0, 7⟩] = false := by decide +kernel
  have e4 : okEnt [⟨"ab", 0, 1⟩] = false := by decide +kernel
  have e5 : okEnt (List.replicate 5 ⟨"", 0, 1⟩) = false := by decide +kernel
  simp only [wrongs, wrongA, wrongB, List.cons_append, List.nil_append, List.mem_cons, List.not_mem_nil, or_false] at h
  rcases h with rfl | rfl | rfl | rfl | rfl | rfl | rfl
  · simp [okDem, e1]
  · simp [okDem, e2]
  · simp [okDem, e3]
  · simp [okDem, e4]
  · simp [okDem, hl]
  · simp [okDem]; omega
  · simp only [okDem, List.all_cons, e5, Bool.false_and, Bool.and_false]
theorem meets_er1 (B : Hs cal us rs n dm) {xs : List Int} (h : okDay us n xs = false) (ph : Int) (st : Sto) : d_meets [hsD cal us rs n dm, .int ph, intsT xs] st = .er ⟨"NotRoster", none⟩ st := by
  have ch := chouse_ok B
  have dy : ∀ st, d_is_day [hsD cal us rs n dm, intsT xs] st = .ok (.bl false) st := fun st => by rw [isday_eq, h]
  simp [d_meets, b_meets, List.replicate, ch, dy]
theorem meets_er2 (B : Hs cal us rs n dm) {xs : List Int} (h : okDay us n xs = true) {ph : Int} (hp : ¬ (0 ≤ ph ∧ ph < cal.length)) (st : Sto) : d_meets [hsD cal us rs n dm, .int ph, intsT xs] st = .er ⟨"BadNumber", none⟩ st := by
  have ch := chouse_ok B
  have dy : ∀ st, d_is_day [hsD cal us rs n dm, intsT xs] st = .ok (.bl true) st := fun st => by rw [isday_eq, h]
  have c : ∀ st, tChn gLe gLt (eC (.int 0)) (eVar 1) (eCB gLen (aCons (eOp2 gIx (eOp2 gIx (eVar 0) (eC (.int 0))) (eC (.int 0))) aNil)) [some (hsD cal us rs n dm), some (.int ph), some (intsT xs)] st = .ok false st := fun st => by
    have b0 := bk_i0 (cal := cal) (us := us) (rs := rs)
    have cl := cal_len (cal := cal)
    have := tChn_lelt (fa := eC (.int 0)) (fb := eVar 1) (fc := eCB gLen (aCons (eOp2 gIx (eOp2 gIx (eVar 0) (eC (.int 0))) (eC (.int 0))) aNil)) (ρ := [some (hsD cal us rs n dm), some (.int ph), some (intsT xs)]) (st := st) (i := 0) (j := ph) (k := cal.length) rfl (by simp) (by simp [h_i0, b0, cl])
    rw [this]
    have : (decide (0 ≤ ph) && decide (ph < (cal.length : Int))) = false := by
      rw [← Bool.not_eq_true, Bool.and_eq_true, decide_eq_true_eq, decide_eq_true_eq]; exact hp
    rw [this]
  simp [d_meets, b_meets, List.replicate, ch, dy, c]
/-- the slots behind the turns -/
def T13 (ns : List Int) (bk : D) (many n : Int) (h : D) (o6 o7 o8 o9 o10 o11 o12 o13 o14 o15 o16 o17 o18 o21 : Option D) : Rho := [some (.scr ns), some (.mu 1), some bk, some (.int many), some (.int n), some h, o6, o7, o8, o9, o10, o11, o12, o13, o14, o15, o16, o17, o18, none, none, o21, none, none]
theorem isdem_all {m : Nat} {ws : List (List Ent)} (B : Bk cal us rs) (c : Int) (p : List Ent → Bool) (hp : ∀ w ∈ ws, (okCrew c && okDem cal.length w) = false) : (ws.map fun w => D.bl (okCrew c && okDem cal.length w)) = List.replicate ws.length (.bl false) := by
  rw [List.eq_replicate_iff]
  refine ⟨by simp, fun d hd => ?_⟩
  obtain ⟨w, hw, rfl⟩ := List.mem_map.mp hd
  rw [hp w hw]
theorem gNe_lst (st : Sto) (a b : List D) : gNe st (.lst a) (.lst b) = if (SeqAt.shaped (toP (.lst a)) && SeqAt.shaped (toP (.lst b))) = true then some (!PyData.eqv (toP (.lst a)) (toP (.lst b))) else none := rfl
theorem ne9 (st : Sto) : gNe st (.lst (List.replicate 9 (.bl false))) (.lst (List.replicate 9 (.bl false))) = some false := by
  rw [gNe_lst]; decide +kernel
def told12 : List D := [.str "!calendar", .str "!calendar", .str "!number", .str "!number", .str "!demand", .str "!demand", .str "!roster", .str "!roster", .str "!roster", .str "!roster", .str "!roster", .str "!roster"]
theorem ne12 (st : Sto) : gNe st (.lst told12) (.lst told12) = some false := by
  rw [gNe_lst]; decide +kernel
theorem eq3 (st : Sto) : gEq st (.lst [.str "!roster", .str "!number", .str "!number"]) (.lst [.str "!roster", .str "!number", .str "!number"]) = some true := by
  show (if (SeqAt.shaped (toP (.lst _)) && SeqAt.shaped (toP (.lst _))) = true then some (PyData.eqv (toP (.lst _)) (toP (.lst _))) else none) = _
  decide +kernel
theorem flat2 (a b c d e f : Str) (st : Sto) : d__law_flat [.lst [.lst [.str a, .str b, .str c], .lst [.str d, .str e, .str f]]] st = .ok (.lst [.str a, .str b, .str c, .str d, .str e, .str f]) st := by
  have ext : ∀ (ds es : List D) (r : Sto), ds.length + es.length ≤ 100 → gExtend (st ++ .ml ds :: r) (.mu st.length) [.lst es] = some (.non, st ++ .ml (ds ++ es) :: r) := fun ds es r hl => by
    have hm : mlD (st ++ .ml ds :: r) (.mu st.length) = some (st.length, ds) := by simp [mlD]
    have sz : ds.length + es.length ≤ sizeLine := by rw [sizeLine_eq]; omega
    simp [gExtend, hm, sz]
  have lm : ∀ (ds : List D) (r : Sto), lstD (st ++ .ml ds :: r) (.mu st.length) = some ds := fun ds r => by simp [lstD]
  simp [d__law_flat, b__law_flat, List.replicate, forD, ext, lm, exitD]
end
end Lw

set_option Elab.async false
set_option linter.all false
set_option autoImplicit false
set_option maxRecDepth 100000
set_option maxHeartbeats 1000000
namespace Lw
open PySem PySem.Spec PyProof.Rows L2 Fn
section
variable {cal : List Str} {us : List Du} {rs : List Ru} {n : Nat} {dm : List Ent} {ns : List Int} {ρ : Rho} {st : Sto}
/-! the parts of the wrong demands -/
theorem tl_ok (h : ρ[14]? = some (some (demD dm))) : eSl (eVar 14) (pSome (eC (.int 1))) pNone ρ st = .ok (demD dm.tail) st := by
  simp [h, demD, cut1, List.map_tail]
theorem nw {a b : Int} {z : Str} {fa fb : EF} (h1 : fa ρ st = .ok (.int a) st) (h2 : fb ρ st = .ok (.int b) st) : eTup (aCons (eTup (aCons (eTup (aCons (eC (.str z)) (aCons fa (aCons fb aNil)))) aNil)) aNil) ρ st = .ok (demD [[⟨z, a, b⟩]]) st := by
  have sz1 : (1 : Nat) ≤ sizeLine := by rw [sizeLine_eq]; omega
  have sz3 : (3 : Nat) ≤ sizeLine := by rw [sizeLine_eq]; omega
  simp [h1, h2, sz1, sz3, demD, entD, Tri.d]
theorem wrA_ok (hd : dm.length ≤ 20) (h : ρ[14]? = some (some (demD dm))) : eLst (aCons (eOp2 gAdd (eTup (aCons (eTup (aCons (eTup (aCons (eC (.str "")) (aCons (eNeg (eC (.int 1))) (aCons (eC (.int 1)) aNil)))) aNil)) aNil)) (eSl (eVar 14) (pSome (eC (.int 1))) pNone)) (aCons (eOp2 gAdd (eTup (aCons (eTup (aCons (eTup (aCons (eC (.str "")) (aCons (eC (.int 2)) (aCons (eC (.int 1)) aNil)))) aNil)) aNil)) (eSl (eVar 14) (pSome (eC (.int 1))) pNone)) (aCons (eOp2 gAdd (eTup (aCons (eTup (aCons (eTup (aCons (eC (.str "")) (aCons (eC (.int 0)) (aCons (eC (.int 7)) aNil)))) aNil)) aNil)) (eSl (eVar 14) (pSome (eC (.int 1))) pNone)) (aCons (eOp2 gAdd (eTup (aCons (eTup (aCons (eTup (aCons (eC (.str "ab")) (aCons (eC (.int 0)) (aCons (eC (.int 1)) aNil)))) aNil)) aNil)) (eSl (eVar 14) (pSome (eC (.int 1))) pNone)) aNil)))) ρ st = .ok (.lst ((wrongA dm).map demD)) st := by
  have t := fun st => tl_ok (st := st) h
  have ht : dm.tail.length ≤ 20 := by simp; omega
  have ad : ∀ (x : Tri) st, gAdd st (demD [[x]]) (demD dm.tail) = some (demD ([[x]] ++ dm.tail)) := fun x st => gAdd_dem (by simp; omega) st
  have e1 : ∀ st, eOp2 gAdd (eTup (aCons (eTup (aCons (eTup (aCons (eC (.str "")) (aCons (eNeg (eC (.int 1))) (aCons (eC (.int 1)) aNil)))) aNil)) aNil)) (eSl (eVar 14) (pSome (eC (.int 1))) pNone) ρ st = .ok (demD ([[⟨"", -1, 1⟩]] ++ dm.tail)) st := fun st => eOp2_ok (nw (a := -1) (b := 1) (eNeg_int (by simp)) (by simp)) (t _) (ad _ _)
  have e2 : ∀ st, eOp2 gAdd (eTup (aCons (eTup (aCons (eTup (aCons (eC (.str "")) (aCons (eC (.int 2)) (aCons (eC (.int 1)) aNil)))) aNil)) aNil)) (eSl (eVar 14) (pSome (eC (.int 1))) pNone) ρ st = .ok (demD ([[⟨"", 2, 1⟩]] ++ dm.tail)) st := fun st => eOp2_ok (nw (a := 2) (b := 1) (by simp) (by simp)) (t _) (ad _ _)
  have e3 : ∀ st, eOp2 gAdd (eTup (aCons (eTup (aCons (eTup (aCons (eC (.str "")) (aCons (eC (.int 0)) (aCons (eC (.int 7)) aNil)))) aNil)) aNil)) (eSl (eVar 14) (pSome (eC (.int 1))) pNone) ρ st = .ok (demD ([[⟨"", 0, 7⟩]] ++ dm.tail)) st := fun st => eOp2_ok (nw (a := 0) (b := 7) (by simp) (by simp)) (t _) (ad _ _)
  have e4 : ∀ st, eOp2 gAdd (eTup (aCons (eTup (aCons (eTup (aCons (eC (.str "ab")) (aCons (eC (.int 0)) (aCons (eC (.int 1)) aNil)))) aNil)) aNil)) (eSl (eVar 14) (pSome (eC (.int 1))) pNone) ρ st = .ok (demD ([[⟨"ab", 0, 1⟩]] ++ dm.tail)) st := fun st => eOp2_ok (nw (a := 0) (b := 1) (by simp) (by simp)) (t _) (ad _ _)
  have sz4 : (4 : Nat) ≤ sizeLine := by rw [sizeLine_eq]; omega
  simp only [eLst_q, aCons_q, aNil_q, e1, e2, e3, e4, R.bind]
  rw [if_pos ⟨rfl, sz4⟩]
  rfl
theorem wrB_ok (hd : dm.length ≤ 20) (h : ρ[14]? = some (some (demD dm))) : eLst (aCons (eOp2 gAdd (eVar 14) (eTup (aCons (eTup aNil) aNil))) (aCons (eSl (eVar 14) (pSome (eC (.int 1))) pNone) (aCons (eOp2 gAdd (eTup (aCons (eOp2 gMul (eTup (aCons (eTup (aCons (eC (.str "")) (aCons (eC (.int 0)) (aCons (eC (.int 1)) aNil)))) aNil)) (eC (.int 5))) aNil)) (eSl (eVar 14) (pSome (eC (.int 1))) pNone)) aNil))) ρ st = .ok (.lst ((wrongB dm).map demD)) st := by
  have t := fun st => tl_ok (st := st) h
  have ht : dm.tail.length ≤ 20 := by simp; omega
  have sz1 : (1 : Nat) ≤ sizeLine := by rw [sizeLine_eq]; omega
  have sz3 : (3 : Nat) ≤ sizeLine := by rw [sizeLine_eq]; omega
  have a1 : ∀ st, eTup (aCons (eTup aNil) aNil) ρ st = .ok (demD [[]]) st := fun st => by simp [sz1, demD, entD]
  have e1 : ∀ st, eOp2 gAdd (eVar 14) (eTup (aCons (eTup aNil) aNil)) ρ st = .ok (demD (dm ++ [[]])) st := fun st => eOp2_ok (by simp [h]) (a1 _) (gAdd_dem (by simp; omega) _)
  have a2 : ∀ st, eOp2 gMul (eTup (aCons (eTup (aCons (eC (.str "")) (aCons (eC (.int 0)) (aCons (eC (.int 1)) aNil)))) aNil)) (eC (.int 5)) ρ st = .ok (entD (List.replicate 5 ⟨"", 0, 1⟩)) st := fun st =>
    eOp2_ok (s1 := st) (s2 := st) (x := .tup [.tup [.str "", .int 0, .int 1]]) (y := .int 5) (by simp [sz1, sz3]) (by simp) (gMul_oneT (by decide) (by decide) _)
  have a3 : ∀ st, eTup (aCons (eOp2 gMul (eTup (aCons (eTup (aCons (eC (.str "")) (aCons (eC (.int 0)) (aCons (eC (.int 1)) aNil)))) aNil)) (eC (.int 5))) aNil) ρ st = .ok (demD [List.replicate 5 ⟨"", 0, 1⟩]) st := fun st => by
    simp only [eTup_q (fr := aCons (eOp2 gMul (eTup (aCons (eTup (aCons (eC (.str "")) (aCons (eC (.int 0)) (aCons (eC (.int 1)) aNil)))) aNil)) (eC (.int 5))) aNil), aCons_q (fa := eOp2 gMul (eTup (aCons (eTup (aCons (eC (.str "")) (aCons (eC (.int 0)) (aCons (eC (.int 1)) aNil)))) aNil)) (eC (.int 5))), a2, aNil_q, R.bind]
    rw [if_pos ⟨rfl, sz1⟩]
    rfl
  have e3 : ∀ st, eOp2 gAdd (eTup (aCons (eOp2 gMul (eTup (aCons (eTup (aCons (eC (.str "")) (aCons (eC (.int 0)) (aCons (eC (.int 1)) aNil)))) aNil)) (eC (.int 5))) aNil)) (eSl (eVar 14) (pSome (eC (.int 1))) pNone) ρ st = .ok (demD ([List.replicate 5 ⟨"", 0, 1⟩] ++ dm.tail)) st := fun st => eOp2_ok (a3 _) (t _) (gAdd_dem (by simp; omega) _)
  simp only [eLst_q, aCons_q, aNil_q, e1, t, e3, R.bind]
  rw [if_pos ⟨rfl, sz3⟩]
  rfl
end
section
variable {cal : List Str} {us : List Du} {rs : List Ru} {n : Nat} {dm : List Ent} {ns : List Int}
variable {o6 o7 o8 o9 o10 o11 o12 o13 o14 o15 o16 o17 o18 o21 : Option D}
theorem c5_eq (B : Hs cal us rs n dm) (st : Sto) : c5_law (T13 ns (bkD cal us (rsX rs)) us.length n (hsD cal us rs n dm) o6 o7 o8 o9 o10 o11 o12 o13 o14 (some (.lst ((wrongs dm).map demD))) o16 o17 o18 o21) st = .ok (.lst (List.replicate 7 (.bl false))) st := by
  have q := lc_map (h := demD) (g := fun w => D.bl (okCrew n && okDem cal.length w)) (xs := wrongs dm) (fi := iSeq (eVar 15)) (t := .nm 22) (fe := eCall (lenOk 3 d_is_house) (aCons (eVar 2) (aCons (eVar 4) (aCons (eVar 22) aNil)))) (vs := [22]) (ρ := T13 ns (bkD cal us (rsX rs)) us.length n (hsD cal us rs n dm) o6 o7 o8 o9 o10 o11 o12 o13 o14 (some (.lst ((wrongs dm).map demD))) o16 o17 o18 o21) (st := st) (by simp [T13]) (fun w hw st => by
    have ih := fun st => ishouse_eq (n := (n : Int)) (dm := w) B.toBk st
    exact ⟨_, by simp [T13, wipeR]; rfl, by simp [ih]⟩) fun _ _ => rfl
  rw [isdem_all B.toBk (m := 0) n (fun _ => true) fun w hw => by rw [wrong_no B hw, Bool.and_false]] at q
  exact q
theorem c6_eq (B : Hs cal us rs n dm) (st : Sto) : c6_law (T13 ns (bkD cal us (rsX rs)) us.length n (hsD cal us rs n dm) o6 o7 o8 o9 o10 o11 o12 o13 (some (demD dm)) o15 o16 o17 o18 o21) st = .ok (.lst (List.replicate 2 (.bl false))) st := by
  have sz2 : (2 : Nat) ≤ sizeLine := by rw [sizeLine_eq]; omega
  have q := lc_map (h := D.int) (g := fun m => D.bl (okCrew m && okDem cal.length dm)) (xs := [0, 7]) (fi := iSeq (eLst (aCons (eC (.int 0)) (aCons (eC (.int 7)) aNil)))) (t := .nm 23) (fe := eCall (lenOk 3 d_is_house) (aCons (eVar 2) (aCons (eVar 23) (aCons (eVar 14) aNil)))) (vs := [23]) (ρ := T13 ns (bkD cal us (rsX rs)) us.length n (hsD cal us rs n dm) o6 o7 o8 o9 o10 o11 o12 o13 (some (demD dm)) o15 o16 o17 o18 o21) (st := st) (by simp [sz2]) (fun w hw st => by
    have ih := fun st => ishouse_eq (n := w) (dm := dm) B.toBk st
    exact ⟨_, by simp [T13, wipeR]; rfl, by simp [ih]⟩) fun _ _ => rfl
  exact q
theorem ones (f : Nat → D) (d : D) (m : Nat) (h : ∀ i < m, f i = d) : (List.range m).map f = List.replicate m d := by
  rw [List.eq_replicate_iff]
  refine ⟨by simp, fun x hx => ?_⟩
  obtain ⟨i, hi, rfl⟩ := List.mem_map.mp hx
  exact h i (List.mem_range.mp hi)
theorem c7_eq (X : D) (mX : muD X = false) (st : Sto) : c7_law (T13 ns (bkD cal us (rsX rs)) us.length n (hsD cal us rs n dm) o6 o7 o8 o9 o10 o11 o12 o13 o14 o15 (some X) o17 o18 o21) st = .ok (.lst (List.replicate 2 (.str "!calendar"))) st := by
  have sz1 : (1 : Nat) ≤ sizeLine := by rw [sizeLine_eq]; omega
  have sz3 : (3 : Nat) ≤ sizeLine := by rw [sizeLine_eq]; omega
  have q := lc_map (h := fun i : Nat => D.int (i : Int)) (g := fun _ => D.str "!calendar") (xs := List.range 2) (fi := iRange1 (aCons (eC (.int 2)) aNil)) (t := .nm 21) (fe := eCall (lenOk 4 d__law_asked) (aCons (eVar 21) (aCons (eTup (aCons (eTup (aCons (eTup aNil) (aCons (eTup aNil) (aCons (eTup aNil) aNil)))) (aCons (eC (.int 0)) (aCons (eVar 16) aNil)))) (aCons (eTup (aCons (eTup (aCons (eC (.int 9)) aNil)) aNil)) (aCons (eC .non) aNil))))) (vs := [21])
    (ρ := T13 ns (bkD cal us (rsX rs)) us.length n (hsD cal us rs n dm) o6 o7 o8 o9 o10 o11 o12 o13 o14 o15 (some X) o17 o18 o21) (st := st) (range_of 2 (i := 2) (by simp) (by omega) (by omega) (by omega)) (fun i hi st => by
      rw [List.mem_range] at hi
      have a := fun o x st => ask_hs (o := o) (x := x) (fun st => chouse_c (.tup []) (.tup []) (.int 0) X st) kC rfl i hi st
      exact ⟨_, gT_nm, by simp [T13, wipeR, sz1, sz3, mX, a]⟩) fun _ _ => rfl
  rw [ones _ (.str "!calendar") 2 fun _ _ => rfl] at q
  exact q
theorem c8_eq (B : Hs cal us rs n dm) (X : D) (mX : muD X = false) (st : Sto) : c8_law (T13 ns (bkD cal us (rsX rs)) us.length n (hsD cal us rs n dm) o6 o7 o8 o9 o10 o11 o12 o13 o14 o15 (some X) o17 o18 o21) st = .ok (.lst (List.replicate 2 (.str "!number"))) st := by
  have sz1 : (1 : Nat) ≤ sizeLine := by rw [sizeLine_eq]; omega
  have sz3 : (3 : Nat) ≤ sizeLine := by rw [sizeLine_eq]; omega
  have mb : muD (bkD cal us (rsX rs)) = false := rfl
  have q := lc_map (h := fun i : Nat => D.int (i : Int)) (g := fun _ => D.str "!number") (xs := List.range 2) (fi := iRange1 (aCons (eC (.int 2)) aNil)) (t := .nm 21) (fe := eCall (lenOk 4 d__law_asked) (aCons (eVar 21) (aCons (eTup (aCons (eVar 2) (aCons (eC (.int 0)) (aCons (eVar 16) aNil)))) (aCons (eTup (aCons (eTup (aCons (eC (.int 9)) aNil)) aNil)) (aCons (eC .non) aNil))))) (vs := [21])
    (ρ := T13 ns (bkD cal us (rsX rs)) us.length n (hsD cal us rs n dm) o6 o7 o8 o9 o10 o11 o12 o13 o14 o15 (some X) o17 o18 o21) (st := st) (range_of 2 (i := 2) (by simp) (by omega) (by omega) (by omega)) (fun i hi st => by
      rw [List.mem_range] at hi
      have a := fun o x st => ask_hs (o := o) (x := x) (fun st => chouse_n B.toBk X st) kN rfl i hi st
      exact ⟨_, gT_nm, by simp [T13, wipeR, sz1, sz3, mX, mb, a]⟩) fun _ _ => rfl
  rw [ones _ (.str "!number") 2 fun _ _ => rfl] at q
  exact q
theorem c9_eq (B : Hs cal us rs n dm) {w : List Ent} (hw : w ∈ wrongs dm) (st : Sto) : c9_law (T13 ns (bkD cal us (rsX rs)) us.length n (hsD cal us rs n dm) o6 o7 o8 o9 o10 o11 o12 o13 o14 o15 (some (demD w)) o17 o18 o21) st = .ok (.lst (List.replicate 2 (.str "!demand"))) st := by
  have sz1 : (1 : Nat) ≤ sizeLine := by rw [sizeLine_eq]; omega
  have sz3 : (3 : Nat) ≤ sizeLine := by rw [sizeLine_eq]; omega
  have mb : muD (bkD cal us (rsX rs)) = false := rfl
  have q := lc_map (h := fun i : Nat => D.int (i : Int)) (g := fun _ => D.str "!demand") (xs := List.range 2) (fi := iRange1 (aCons (eC (.int 2)) aNil)) (t := .nm 21) (fe := eCall (lenOk 4 d__law_asked) (aCons (eVar 21) (aCons (eTup (aCons (eVar 2) (aCons (eVar 4) (aCons (eVar 16) aNil)))) (aCons (eTup (aCons (eTup (aCons (eC (.int 9)) aNil)) aNil)) (aCons (eC .non) aNil))))) (vs := [21])
    (ρ := T13 ns (bkD cal us (rsX rs)) us.length n (hsD cal us rs n dm) o6 o7 o8 o9 o10 o11 o12 o13 o14 o15 (some (demD w)) o17 o18 o21) (st := st) (range_of 2 (i := 2) (by simp) (by omega) (by omega) (by omega)) (fun i hi st => by
      rw [List.mem_range] at hi
      have a := fun o x st => ask_hs (o := o) (x := x) (fun st => chouse_d B.toBk B.crew (wrong_no B hw) st) kD rfl i hi st
      unfold hsD at a
      exact ⟨_, gT_nm, by simp [T13, wipeR, sz1, sz3, mb, a]⟩) fun _ _ => rfl
  rw [ones _ (.str "!demand") 2 fun _ _ => rfl] at q
  exact q
/-- three days that are none -/
def days3 (us : List Du) (n : Nat) : List (List Int) := [List.replicate n ((us.length : Int) + 1), List.replicate (n + 1) 0, List.replicate n (-1)]
theorem days_no (hn : 1 ≤ n) {d : List Int} (h : d ∈ days3 us n) : okDay us n d = false := by
  obtain ⟨m, rfl⟩ : ∃ m, n = m + 1 := ⟨n - 1, by omega⟩
  simp only [days3, List.mem_cons, List.not_mem_nil, or_false] at h
  have e1 : b2 0 ((us.length : Int) + 1) us.length = false := by
    have : ¬ (us.length : Int) + 1 ≤ us.length := by omega
    simp [b2, this]
  have e2 : b2 0 (-1) us.length = false := by simp [b2]
  rcases h with rfl | rfl | rfl
  · simp [okDay, List.replicate_succ, e1]
  · simp [okDay]
  · simp [okDay, List.replicate_succ, e2]
theorem c10_eq (B : Hs cal us rs n dm) (i : Nat) (hi : i < 2) (st : Sto) : c10_law (T13 ns (bkD cal us (rsX rs)) us.length n (hsD cal us rs n dm) o6 o7 o8 o9 o10 o11 o12 o13 o14 o15 o16 o17 (some (.lst ((days3 us n).map intsT))) (some (.int (i : Nat)))) st = .ok (.lst (List.replicate 3 (.str "!roster"))) st := by
  have sz1 : (1 : Nat) ≤ sizeLine := by rw [sizeLine_eq]; omega
  have q := lc_map (h := intsT) (g := fun _ => D.str "!roster") (xs := days3 us n) (fi := iSeq (eVar 18)) (t := .nm 22) (fe := eCall (lenOk 4 d__law_asked) (aCons (eVar 21) (aCons (eVar 5) (aCons (eTup (aCons (eVar 22) aNil)) (aCons (eC .non) aNil))))) (vs := [22])
    (ρ := T13 ns (bkD cal us (rsX rs)) us.length n (hsD cal us rs n dm) o6 o7 o8 o9 o10 o11 o12 o13 o14 o15 o16 o17 (some (.lst ((days3 us n).map intsT))) (some (.int (i : Nat)))) (st := st) (by simp [T13]) (fun d hd st => by
      have no : ([d] : List (List Int)).all (okDay us n) = false := by simp [days_no B.crew.1 hd]
      have a := fun x st => ask_er (x := x) (fun st => cplan_er B no st) kO rfl i hi st
      have e : planD [d] = .tup [intsT d] := rfl
      rw [e] at a
      have mi : muD (intsT d) = false := rfl
      exact ⟨_, gT_nm, by simp [T13, wipeR, sz1, mi, a]⟩) fun _ _ => rfl
  exact q
theorem c11_eq (B : Hs cal us rs n dm) (st : Sto) : c11_law (T13 ns (bkD cal us (rsX rs)) us.length n (hsD cal us rs n dm) o6 o7 o8 o9 o10 o11 o12 o13 o14 o15 o16 o17 (some (.lst ((days3 us n).map intsT))) o21) st = .ok (.lst [.lst [.str "!roster", .str "!roster", .str "!roster"], .lst [.str "!roster", .str "!roster", .str "!roster"]]) st := by
  have q := lc_map (h := fun i : Nat => D.int (i : Int)) (g := fun _ => D.lst (List.replicate 3 (.str "!roster"))) (xs := List.range 2) (fi := iRange1 (aCons (eC (.int 2)) aNil)) (t := .nm 21) (fe := c10_law) (vs := [21])
    (ρ := T13 ns (bkD cal us (rsX rs)) us.length n (hsD cal us rs n dm) o6 o7 o8 o9 o10 o11 o12 o13 o14 o15 o16 o17 (some (.lst ((days3 us n).map intsT))) o21) (st := st) (range_of 2 (i := 2) (by simp) (by omega) (by omega) (by omega)) (fun i hi st => by
      rw [List.mem_range] at hi
      exact ⟨T13 ns (bkD cal us (rsX rs)) us.length n (hsD cal us rs n dm) o6 o7 o8 o9 o10 o11 o12 o13 o14 o15 o16 o17 (some (.lst ((days3 us n).map intsT))) (some (.int (i : Nat))), by simp [T13, wipeR], c10_eq B i hi st⟩) fun _ _ => rfl
  exact q
end
end Lw

set_option Elab.async false
set_option linter.all false
set_option autoImplicit false
set_option maxRecDepth 100000
set_option maxHeartbeats 1000000
namespace Lw
open PySem PySem.Spec PyProof.Rows L2 Fn
theorem gAdd_l {a b : List D} (h : a.length + b.length ≤ 1000) (st : Sto) : gAdd st (.lst a) (.lst b) = some (.lst (a ++ b)) := by
  rw [gAdd_lst, if_pos (by rw [sizeLine_eq]; omega)]
theorem eC_ok {d : D} {ρ : Rho} {st : Sto} : eC d ρ st = .ok d st := rfl
theorem aNil_ok {ρ : Rho} {st : Sto} : aNil ρ st = .ok [] st := rfl
theorem rep_ok {cal : List Str} (k : Nat) : okDem cal.length (List.replicate cal.length (List.replicate 4 ⟨"", 0, 6⟩)) = true := by
  have e : okEnt (List.replicate 4 ⟨"", 0, 6⟩) = true := by decide +kernel
  simp only [okDem, List.length_replicate, decide_true, Bool.true_and, List.all_eq_true]
  intro x hx
  rw [List.eq_of_mem_replicate hx]
  exact e
theorem sNe_of {p q : EF} {ρ : Rho} {st : Sto} {x y : D} (h1 : p ρ st = .ok x st) (h2 : q ρ st = .ok y st) (h3 : gNe st x y = some false) : tCm gNe p q ρ st = .ok false st := by
  rw [tCm_q, h1]
  simp only [R.bind]
  rw [h2]
  simp only [R.bind]
  rw [h3]
theorem aCons_ok {fa : EF} {fr : AF} {ρ : Rho} {st s1 s2 : Sto} {x : D} {xs : List D} (h1 : fa ρ st = .ok x s1) (h2 : fr ρ s1 = .ok xs s2) : aCons fa fr ρ st = .ok (x :: xs) s2 := by
  rw [aCons_q, h1]
  simp only [R.bind]
  rw [h2]
theorem eLst_ok {fr : AF} {ρ : Rho} {st s1 : Sto} {xs : List D} (h1 : fr ρ st = .ok xs s1) (h2 : noMu xs = true) (h3 : xs.length ≤ 1000) : eLst fr ρ st = .ok (.lst xs) s1 := by
  rw [eLst_q, h1]
  simp only [R.bind]
  rw [if_pos ⟨h2, by rw [sizeLine_eq]; omega⟩]
theorem eTup_ok {fr : AF} {ρ : Rho} {st s1 : Sto} {xs : List D} (h1 : fr ρ st = .ok xs s1) (h2 : noMu xs = true) (h3 : xs.length ≤ 1000) : eTup fr ρ st = .ok (.tup xs) s1 := by
  rw [eTup_q, h1]
  simp only [R.bind]
  rw [if_pos ⟨h2, by rw [sizeLine_eq]; omega⟩]
theorem sAsg_ok {i : Nat} {fa : EF} {ρ ρ' : Rho} {st s1 : Sto} {x : D} (h : fa ρ st = .ok x s1) (e : ρ.set i (some x) = ρ') : sAsg (.nm i) fa ρ st = .nx ρ' s1 := by
  subst e
  rw [sAsg_q, h, bindS_ok]
  simp
theorem law_true (ns : List Int) (h : ns.length ≤ 63) : ∃ st, d_law [.scr ns] [] = .ok (.bl true) st := by
  obtain ⟨ds, l1, e1⟩ := draws_ok ns h
  obtain ⟨s1, e2, dr⟩ := more_ok ds 160 l1 (by decide)
  have e2 : d__law_more [.mu 0, .int 160] [.ml (ds.map .int)] = .ok (.mu 1) s1 := e2
  obtain ⟨cal, us, rs, s2, e3, hc, hl, g, hrl, hr, p2⟩ := anybook_ok dr
  obtain ⟨c1, c2, c3⟩ := calsL_ok cal hc
  have okd : okDs us = true := goods_ok hl.1 (by omega) g
  have B0 : Bk cal us rs := ⟨c2, c1, okd, hr, by omega⟩
  obtain ⟨_, s3, e4, ⟨i, rfl⟩, p3⟩ := next_ok p2.dr
  have hm := modB i (j := 4) (by decide)
  have g4 : ∀ st, gMod st (.int i) (.int 4) = some (.int (i % 4)) := fun st => gMod_int (by decide)
  obtain ⟨n, hn⟩ : ∃ n : Nat, 1 + i % 4 = (n : Int) := ⟨(1 + i % 4).toNat, by omega⟩
  have hn4 : 1 ≤ n ∧ n ≤ 4 := by omega
  obtain ⟨dm, s4, e5, okdm, p4⟩ := demand_ok (cal := cal) (us := us) (rs := rs) (q := n) p3.dr (by omega)
  have B : Hs cal us rs n dm := ⟨B0, by omega, okdm⟩
  have dl : dm.length ≤ 3 := by rw [dm_len B]; exact c3
  obtain ⟨ρ', s5, e6, o6, o7, o8, o9, o10, o11, o12, o13, rfl, d5⟩ := forD_rng0 (t := .nm 6) (body := l2_law) (I := fun _ => OutP ns cal us rs n dm) (J := OutP ns cal us rs n dm) (N := 5) (ρ := S13 ns (bkD cal us (rsX rs)) us.length n (hsD cal us rs n dm) none none none none none none none none) (s := s4)
    (turnP_ok B) (fun ρ s h => h) ⟨_, _, _, _, _, _, _, _, rfl, p4.dr⟩
  have it : iRange1 (aCons (eC (.int 5)) aNil) (S13 ns (bkD cal us (rsX rs)) us.length n (hsD cal us rs n dm) none none none none none none none none) s4 = .ok ((List.range 5).map fun i : Nat => D.int (i : Int)) s4 :=
    range_of 5 (i := 5) (by simp) (by omega) (by omega) (by omega)
  have b1 := bk_i1 (cal := cal) (us := us) (rs := rs)
  have b0 := bk_i0 (cal := cal) (us := us) (rs := rs)
  have ul := us_len (us := us)
  have cl := cal_len (cal := cal)
  -- the wrong one that is drawn
  obtain ⟨w, s6, e7, hw, p6⟩ := pick_in demD (wrongs dm) (fun _ => rfl) d5 (by simp [wrongs, wrongA])
  have d6 := p6.dr
  let T := T13 ns (bkD cal us (rsX rs)) us.length n (hsD cal us rs n dm) o6 o7 o8 o9 o10 o11 o12 o13
  have q14 : eOp2 gIx (eVar 5) (eC (.int 2)) (T none none none none none none) s5 = .ok (demD dm) s5 := eOp2_ok (s1 := s5) (x := hsD cal us rs n dm) rfl rfl (h_i2 _)
  have q15 : ∀ o15, eLst _ (T (some (demD dm)) o15 none none none none) s5 = _ := fun o15 => wrA_ok (by omega) rfl
  have q15b : ∀ o15, eLst _ (T (some (demD dm)) o15 none none none none) s5 = _ := fun o15 => wrB_ok (by omega) rfl
  have wl : (wrongA dm).length = 4 := rfl
  have wl2 : (wrongB dm).length = 3 := rfl
  have z5 := c5_eq (ns := ns) (o6 := o6) (o7 := o7) (o8 := o8) (o9 := o9) (o10 := o10) (o11 := o11) (o12 := o12) (o13 := o13) (o14 := some (demD dm)) (o16 := none) (o17 := none) (o18 := none) (o21 := none) B s5
  have z6 := c6_eq (ns := ns) (o6 := o6) (o7 := o7) (o8 := o8) (o9 := o9) (o10 := o10) (o11 := o11) (o12 := o12) (o13 := o13) (o15 := some (.lst ((wrongs dm).map demD))) (o16 := none) (o17 := none) (o18 := none) (o21 := none) B s5
  let ρ15 := T (some (demD dm)) (some (.lst ((wrongs dm).map demD))) none none none none
  have z56 : eOp2 gAdd c5_law c6_law ρ15 s5 = .ok (.lst (List.replicate 9 (.bl false))) s5 := eOp2_ok z5 z6 (gAdd_l (by decide) _)
  have z9 : eOp2 gMul (eLst (aCons (eC (.bl false)) aNil)) (eC (.int 9)) ρ15 s5 = .ok (.lst (List.replicate 9 (.bl false))) s5 := eOp2_ok (eLst_ok (aCons_ok eC_ok aNil_ok) rfl (by decide)) eC_ok (gMul_oneL (k := 9) (by decide) _)
  have ct1 : tCm gNe (eOp2 gAdd c5_law c6_law) (eOp2 gMul (eLst (aCons (eC (.bl false)) aNil)) (eC (.int 9))) ρ15 s5 = .ok false s5 := sNe_of z56 z9 (ne9 _)
  have sz1 : (1 : Nat) ≤ sizeLine := by rw [sizeLine_eq]; omega
  have sz3 : (3 : Nat) ≤ sizeLine := by rw [sizeLine_eq]; omega
  have y1 : eOp2 gMul (eTup (aCons (eTup (aCons (eC (.str "")) (aCons (eC (.int 0)) (aCons (eC (.int 6)) aNil)))) aNil)) (eC (.int 4)) ρ15 s5 = .ok (entD (List.replicate 4 ⟨"", 0, 6⟩)) s5 :=
    eOp2_ok (s1 := s5) (x := .tup [.tup [.str "", .int 0, .int 6]]) (y := .int 4) (by simp [sz1, sz3]) eC_ok (gMul_oneT (by decide) (by decide) _)
  have y2 : eCB gLen (aCons (eOp2 gIx (eVar 2) (eC (.int 0))) aNil) ρ15 s5 = .ok (.int (cal.length : Nat)) s5 := by simp [ρ15, T, T13, b0, cl]
  have y3 : eOp2 gMul (eTup (aCons (eOp2 gMul (eTup (aCons (eTup (aCons (eC (.str "")) (aCons (eC (.int 0)) (aCons (eC (.int 6)) aNil)))) aNil)) (eC (.int 4))) aNil)) (eCB gLen (aCons (eOp2 gIx (eVar 2) (eC (.int 0))) aNil)) ρ15 s5 = .ok (demD (List.replicate cal.length (List.replicate 4 ⟨"", 0, 6⟩))) s5 := by
    have gm := gMul_oneT (k := (cal.length : Nat)) (by omega) (by omega) (x := entD (List.replicate 4 ⟨"", 0, 6⟩)) s5
    have e : demD (List.replicate cal.length (List.replicate 4 ⟨"", 0, 6⟩)) = .tup (List.replicate ((cal.length : Nat) : Int).toNat (entD (List.replicate 4 ⟨"", 0, 6⟩))) := by
      simp only [demD, List.map_replicate, Int.toNat_natCast]
    rw [e]
    exact eOp2_ok (eTup_ok (aCons_ok y1 aNil_ok) rfl (by decide)) y2 gm
  have ct2 : tCm gIsNot (eCall (lenOk 3 d_is_house) (aCons (eVar 2) (aCons (eC (.int 6)) (aCons (eOp2 gMul (eTup (aCons (eOp2 gMul (eTup (aCons (eTup (aCons (eC (.str "")) (aCons (eC (.int 0)) (aCons (eC (.int 6)) aNil)))) aNil)) (eC (.int 4))) aNil)) (eCB gLen (aCons (eOp2 gIx (eVar 2) (eC (.int 0))) aNil))) aNil)))) (eC (.bl true)) ρ15 s5 = .ok false s5 := by
    have a : aCons (eVar 2) (aCons (eC (.int 6)) (aCons (eOp2 gMul (eTup (aCons (eOp2 gMul (eTup (aCons (eTup (aCons (eC (.str "")) (aCons (eC (.int 0)) (aCons (eC (.int 6)) aNil)))) aNil)) (eC (.int 4))) aNil)) (eCB gLen (aCons (eOp2 gIx (eVar 2) (eC (.int 0))) aNil))) aNil)) ρ15 s5 = .ok [bkD cal us (rsX rs), .int 6, demD (List.replicate cal.length (List.replicate 4 ⟨"", 0, 6⟩))] s5 :=
      aCons_ok (s1 := s5) rfl (aCons_ok (s1 := s5) eC_ok (aCons_ok y3 aNil_ok))
    have ih : d_is_house [bkD cal us (rsX rs), .int 6, demD (List.replicate cal.length (List.replicate 4 ⟨"", 0, 6⟩))] s5 = .ok (.bl true) s5 := by
      rw [ishouse_eq B.toBk, rep_ok 0]; rfl
    rw [tCm_q, eCall_q, a]
    simp only [R.bind, lenOk_q, List.length_cons, List.length_nil, if_true, ih]
    simp
  -- told
  let ρ16 := T (some (demD dm)) (some (.lst ((wrongs dm).map demD))) (some (demD w))
  have t78 : eOp2 gAdd c7_law c8_law (ρ16 none none none) s6 = .ok (.lst (List.replicate 2 (.str "!calendar") ++ List.replicate 2 (.str "!number"))) s6 := eOp2_ok (c7_eq (demD w) rfl s6) (c8_eq B (demD w) rfl s6) (gAdd_l (by decide) _)
  have t9 : ∀ x : D, x = .lst (List.replicate 2 (.str "!calendar") ++ List.replicate 2 (.str "!number")) → eOp2 gAdd (eVar 17) c9_law (ρ16 (some x) none none) s6 = .ok (.lst ((List.replicate 2 (.str "!calendar") ++ List.replicate 2 (.str "!number")) ++ List.replicate 2 (.str "!demand"))) s6 := fun x hx => by
    subst hx
    exact eOp2_ok (s1 := s6) rfl (c9_eq B hw s6) (gAdd_l (by decide) _)
  have neg1 : ∀ ρ st, eNeg (eC (.int 1)) ρ st = .ok (.int (-1)) st := fun ρ st => eNeg_int (by simp)
  have hu3 : us.length ≤ 3 := hl.2
  have r3 : ∀ (k : Int) (fa fb : EF) (ρ : Rho) (m : Nat), fa ρ s6 = .ok (.int k) s6 → fb ρ s6 = .ok (.int (m : Nat)) s6 → m ≤ 100 → eOp2 gMul (eTup (aCons fa aNil)) fb ρ s6 = .ok (intsT (List.replicate m k)) s6 := fun k fa fb ρ m h1 h2 hm => by
    have gm := gMul_oneT (k := (m : Nat)) (by omega) (by omega) (x := .int k) s6
    have e : intsT (List.replicate m k) = .tup (List.replicate ((m : Nat) : Int).toNat (.int k)) := by simp only [intsT, List.map_replicate, Int.toNat_natCast]
    rw [e]
    exact eOp2_ok (eTup_ok (aCons_ok h1 aNil_ok) rfl (by simp)) h2 gm
  have add1 : ∀ (j : Nat) (m : Int) (ρ : Rho), ρ[j]? = some (some (.int m)) → eOp2 gAdd (eVar j) (eC (.int 1)) ρ s6 = .ok (.int (m + 1)) s6 := fun j m ρ hj => by simp [hj]
  have q18 : ∀ o17, eLst (aCons (eOp2 gMul (eTup (aCons (eOp2 gAdd (eVar 3) (eC (.int 1))) aNil)) (eVar 4)) (aCons (eOp2 gMul (eTup (aCons (eC (.int 0)) aNil)) (eOp2 gAdd (eVar 4) (eC (.int 1)))) (aCons (eOp2 gMul (eTup (aCons (eNeg (eC (.int 1))) aNil)) (eVar 4)) aNil))) (ρ16 o17 none none) s6 = .ok (.lst ((days3 us n).map intsT)) s6 := fun o17 =>
    eLst_ok (aCons_ok (r3 _ _ _ _ n (add1 3 us.length _ rfl) rfl (by omega)) (aCons_ok (r3 0 _ _ _ (n + 1) eC_ok (add1 4 n _ rfl) (by omega)) (aCons_ok (r3 (-1) _ _ _ n (neg1 _ _) rfl (by omega)) aNil_ok))) rfl (by simp [days3])
  have fl := flat2 "!roster" "!roster" "!roster" "!roster" "!roster" "!roster" s6
  let L6 : List D := (List.replicate 2 (.str "!calendar") ++ List.replicate 2 (.str "!number")) ++ List.replicate 2 (.str "!demand")
  have t11 : eOp2 gAdd (eVar 17) (eCall (lenOk 1 d__law_flat) (aCons c11_law aNil)) (ρ16 (some (.lst L6)) (some (.lst ((days3 us n).map intsT))) none) s6 = .ok (.lst told12) s6 := by
    have a : eCall (lenOk 1 d__law_flat) (aCons c11_law aNil) (ρ16 (some (.lst L6)) (some (.lst ((days3 us n).map intsT))) none) s6 = .ok (.lst [.str "!roster", .str "!roster", .str "!roster", .str "!roster", .str "!roster", .str "!roster"]) s6 := by
      rw [eCall_q, aCons_ok (c11_eq B s6) aNil_ok]
      simp only [R.bind, lenOk_q, List.length_cons, List.length_nil, if_true, fl]
    exact eOp2_ok (s1 := s6) rfl a (gAdd_l (a := L6) (by decide) _)
  let ρ18 := ρ16 (some (.lst told12)) (some (.lst ((days3 us n).map intsT))) none
  have mL : ∀ (x : Str) (k : Nat) (ρ : Rho), k ≤ 100 → eOp2 gMul (eLst (aCons (eC (.str x)) aNil)) (eC (.int (k : Nat))) ρ s6 = .ok (.lst (List.replicate k (.str x))) s6 := fun x k ρ hk =>
    eOp2_ok (eLst_ok (aCons_ok eC_ok aNil_ok) rfl (by simp)) eC_ok (gMul_oneL (by omega) _)
  have ct3 : tCm gNe (eVar 17) (eOp2 gAdd (eOp2 gAdd (eOp2 gAdd (eOp2 gMul (eLst (aCons (eC (.str "!calendar")) aNil)) (eC (.int 2))) (eOp2 gMul (eLst (aCons (eC (.str "!number")) aNil)) (eC (.int 2)))) (eOp2 gMul (eLst (aCons (eC (.str "!demand")) aNil)) (eC (.int 2)))) (eOp2 gMul (eLst (aCons (eC (.str "!roster")) aNil)) (eC (.int 6)))) ρ18 s6 = .ok false s6 :=
    sNe_of (x := .lst told12) (y := .lst told12) rfl (eOp2_ok (eOp2_ok (eOp2_ok (mL "!calendar" 2 _ (by decide)) (mL "!number" 2 _ (by decide)) (gAdd_l (by decide) _)) (mL "!demand" 2 _ (by decide)) (gAdd_l (by decide) _)) (mL "!roster" 6 _ (by decide)) (gAdd_l (by decide) _)) (ne12 _)
  -- the last three
  have dn1 : okDay us n (List.replicate (n + 1) 0) = false := days_no hn4.1 (by simp [days3])
  have dn0 : okDay us n (List.replicate n 0) = true := by
    simp only [okDay, List.length_replicate, decide_true, Bool.true_and, List.all_eq_true]
    intro x hx
    rw [List.eq_of_mem_replicate hx]
    exact b2_of (by omega) (by omega)
  have m1 := fun st => ask2e (st := st) (fun st => meets_er1 B dn1 9 st) kO rfl
  have m2 := fun st => ask2e (st := st) (fun st => meets_er2 B dn0 (ph := (cal.length : Nat)) (by omega) st) kN rfl
  have m3 := fun st => ask2e (st := st) (fun st => meets_er2 B dn0 (ph := -1) (by omega) st) kN rfl
  have ask : ∀ (fa fb : EF) (p d r : D), fa ρ18 s6 = .ok p s6 → fb ρ18 s6 = .ok d s6 → (∀ st, d__law_asked [.int 2, hsD cal us rs n dm, p, d] st = .ok r st) → eCall (lenOk 4 d__law_asked) (aCons (eC (.int 2)) (aCons (eVar 5) (aCons fa (aCons fb aNil)))) ρ18 s6 = .ok r s6 := fun fa fb p d r h1 h2 h3 => by
    rw [eCall_q, aCons_ok eC_ok (aCons_ok (s1 := s6) (x := hsD cal us rs n dm) rfl (aCons_ok h1 (aCons_ok h2 aNil_ok)))]
    simp only [R.bind, lenOk_q, List.length_cons, List.length_nil, if_true, h3]
  have y2' : eCB gLen (aCons (eOp2 gIx (eVar 2) (eC (.int 0))) aNil) ρ18 s6 = .ok (.int (cal.length : Nat)) s6 := by simp [ρ18, ρ16, T, T13, b0, cl]
  have fin : eCmp gEq (eLst (aCons (eCall (lenOk 4 d__law_asked) (aCons (eC (.int 2)) (aCons (eVar 5) (aCons (eC (.int 9)) (aCons (eOp2 gMul (eTup (aCons (eC (.int 0)) aNil)) (eOp2 gAdd (eVar 4) (eC (.int 1)))) aNil))))) (aCons (eCall (lenOk 4 d__law_asked) (aCons (eC (.int 2)) (aCons (eVar 5) (aCons (eCB gLen (aCons (eOp2 gIx (eVar 2) (eC (.int 0))) aNil)) (aCons (eOp2 gMul (eTup (aCons (eC (.int 0)) aNil)) (eVar 4)) aNil))))) (aCons (eCall (lenOk 4 d__law_asked) (aCons (eC (.int 2)) (aCons (eVar 5) (aCons (eNeg (eC (.int 1))) (aCons (eOp2 gMul (eTup (aCons (eC (.int 0)) aNil)) (eVar 4)) aNil))))) aNil)))) (eLst (aCons (eC (.str "!roster")) (aCons (eC (.str "!number")) (aCons (eC (.str "!number")) aNil)))) ρ18 s6 = .ok (.bl true) s6 := by
    have a := eLst_ok (aCons_ok (ask _ _ _ _ _ eC_ok (r3 0 _ _ ρ18 (n + 1) eC_ok (add1 4 n _ rfl) (by omega)) m1) (aCons_ok (ask _ _ _ _ _ y2' (r3 0 _ (eVar 4) ρ18 n eC_ok rfl (by omega)) m2) (aCons_ok (ask _ _ _ _ _ (neg1 _ _) (r3 0 _ (eVar 4) ρ18 n eC_ok rfl (by omega)) m3) aNil_ok))) rfl (by decide)
    have b : eLst (aCons (eC (.str "!roster")) (aCons (eC (.str "!number")) (aCons (eC (.str "!number")) aNil))) ρ18 s6 = .ok (.lst [.str "!roster", .str "!number", .str "!number"]) s6 := eLst_ok (aCons_ok eC_ok (aCons_ok eC_ok (aCons_ok eC_ok aNil_ok))) rfl (by decide)
    rw [eCmp_q, a]
    simp only [R.bind, b, eq3]
  refine ⟨[], ?_⟩
  refine den_rt' (st' := s6) ?_
  show b_law [some (.scr ns), none, none, none, none, none, none, none, none, none, none, none, none, none, none, none, none, none, none, none, none, none, none, none] [] = .rt (.bl true) s6
  unfold b_law
  refine run_seq (ρ' := [some (.scr ns), some (.mu 0), none, none, none, none, none, none, none, none, none, none, none, none, none, none, none, none, none, none, none, none, none, none]) (st' := [.ml (ds.map .int)]) (by simp [e1]) ?_
  refine run_seq (ρ' := [some (.scr ns), some (.mu 1), none, none, none, none, none, none, none, none, none, none, none, none, none, none, none, none, none, none, none, none, none, none]) (st' := s1) (by simp [e2]) ?_
  refine run_seq (ρ' := [some (.scr ns), some (.mu 1), some (bkD cal us (rsX rs)), none, none, none, none, none, none, none, none, none, none, none, none, none, none, none, none, none, none, none, none, none]) (st' := s2) (by simp [e3]) ?_
  refine run_seq (ρ' := [some (.scr ns), some (.mu 1), some (bkD cal us (rsX rs)), some (.int us.length), none, none, none, none, none, none, none, none, none, none, none, none, none, none, none, none, none, none, none, none]) (st' := s2) (by simp [b1, ul]) ?_
  refine run_seq (ρ' := [some (.scr ns), some (.mu 1), some (bkD cal us (rsX rs)), some (.int us.length), some (.int n), none, none, none, none, none, none, none, none, none, none, none, none, none, none, none, none, none, none, none]) (st' := s3) (by simp [e4, g4, hn]) ?_
  refine run_seq (ρ' := S13 ns (bkD cal us (rsX rs)) us.length n (hsD cal us rs n dm) none none none none none none none none) (st' := s4) (by
    have mb : muD (bkD cal us (rsX rs)) = false := rfl
    simp [e5, S13, hsD, sz3, mb]) ?_
  refine run_seq (ρ' := S13 ns (bkD cal us (rsX rs)) us.length n (hsD cal us rs n dm) none none none none none none none none) (st' := s4) ?_ ?_
  · have ih : ∀ st, d_is_house [bkD cal us (rsX rs), .int n, demD dm] st = .ok (.bl true) st := fun st => by
      rw [ishouse_eq B.toBk, okdm]
      have : okCrew n = true := by simp [okCrew]; omega
      rw [this]; rfl
    have i2 := h_i2 (cal := cal) (us := us) (rs := rs) (n := (n : Int)) (dm := dm)
    simp [S13, i2, ih]
  refine run_seq (for_nx it e6) ?_
  refine run_seq (ρ' := T (some (demD dm)) none none none none none) (st' := s5) (sAsg_ok q14 rfl) ?_
  refine run_seq (ρ' := T (some (demD dm)) (some (.lst ((wrongA dm).map demD))) none none none none) (st' := s5) (sAsg_ok (q15 none) rfl) ?_
  refine run_seq (ρ' := ρ15) (st' := s5) (sAsg_ok (eOp2_ok (s1 := s5) rfl (q15b _) (gAdd_l (by simp [wl, wl2]) _)) (by simp only [ρ15, wrongs, List.map_append]; rfl)) ?_
  refine run_seq (ρ' := ρ15) (st' := s5) ?_ ?_
  · rw [sIf_q, tOrF_q, ct1]
    simp only [R.bind, Bool.false_eq_true, if_false, ct2]
    rw [bindS_ok]
    simp
  refine run_seq (ρ' := ρ16 none none none) (st' := s6) (sAsg_ok (x := demD w) (by
    have e7 : d__law_pick [.mu 1, .lst ((wrongs dm).map demD)] s5 = .ok (demD w) s6 := e7
    rw [eCall_q, aCons_ok (s1 := s5) (x := .mu 1) rfl (aCons_ok (s1 := s5) (x := .lst ((wrongs dm).map demD)) rfl aNil_ok)]
    simp only [R.bind, lenOk_q, List.length_cons, List.length_nil, if_true, e7]) rfl) ?_
  refine run_seq (ρ' := ρ16 (some (.lst (List.replicate 2 (.str "!calendar") ++ List.replicate 2 (.str "!number")))) none none) (st' := s6) (sAsg_ok t78 rfl) ?_
  refine run_seq (ρ' := ρ16 (some (.lst L6)) none none) (st' := s6) (sAsg_ok (t9 _ rfl) rfl) ?_
  refine run_seq (ρ' := ρ16 (some (.lst L6)) (some (.lst ((days3 us n).map intsT))) none) (st' := s6) (sAsg_ok (q18 _) rfl) ?_
  refine run_seq (ρ' := ρ18) (st' := s6) (sAsg_ok t11 rfl) ?_
  refine run_seq (ρ' := ρ18) (st' := s6) ?_ ?_
  · rw [sIf_q, ct3, bindS_ok]
    simp
  · rw [sRet_q, fin]
    simp
end Lw

set_option Elab.async false
set_option linter.all false
set_option autoImplicit false
set_option maxRecDepth 100000
set_option maxHeartbeats 0
namespace Lw
open PySem PySem.Spec PyProof.Rows L2 Fn
def D_is_letter : He.DefD := ⟨("is_letter", none), "is_letter", "is_letter", defArgs s_is_letter, defBody s_is_letter, defScope s_is_letter, [], []⟩
def D_is_calendar : He.DefD := ⟨("is_calendar", none), "is_calendar", "is_calendar", defArgs s_is_calendar, defBody s_is_calendar, defScope s_is_calendar, [], []⟩
def D_is_duty : He.DefD := ⟨("is_duty", none), "is_duty", "is_duty", defArgs s_is_duty, defBody s_is_duty, defScope s_is_duty, [], []⟩
def D_is_duties : He.DefD := ⟨("is_duties", none), "is_duties", "is_duties", defArgs s_is_duties, defBody s_is_duties, defScope s_is_duties, [], []⟩
def D_is_sort : He.DefD := ⟨("is_sort", none), "is_sort", "is_sort", defArgs s_is_sort, defBody s_is_sort, defScope s_is_sort, [], []⟩
def D_is_measure : He.DefD := ⟨("is_measure", none), "is_measure", "is_measure", defArgs s_is_measure, defBody s_is_measure, defScope s_is_measure, [], []⟩
def D_is_window : He.DefD := ⟨("is_window", none), "is_window", "is_window", defArgs s_is_window, defBody s_is_window, defScope s_is_window, [], []⟩
def D_is_kinds : He.DefD := ⟨("is_kinds", none), "is_kinds", "is_kinds", defArgs s_is_kinds, defBody s_is_kinds, defScope s_is_kinds, [], []⟩
def D_is_account : He.DefD := ⟨("is_account", none), "is_account", "is_account", defArgs s_is_account, defBody s_is_account, defScope s_is_account, [], []⟩
def D_is_not : He.DefD := ⟨("is_not", none), "is_not", "is_not", defArgs s_is_not, defBody s_is_not, defScope s_is_not, [], []⟩
def D_fits : He.DefD := ⟨("fits", none), "fits", "fits", defArgs s_fits, defBody s_fits, defScope s_fits, [], []⟩
def D_is_book : He.DefD := ⟨("is_book", none), "is_book", "is_book", defArgs s_is_book, defBody s_is_book, defScope s_is_book, [], []⟩
def D_is_entry : He.DefD := ⟨("is_entry", none), "is_entry", "is_entry", defArgs s_is_entry, defBody s_is_entry, defScope s_is_entry, [], []⟩
def D_is_demand : He.DefD := ⟨("is_demand", none), "is_demand", "is_demand", defArgs s_is_demand, defBody s_is_demand, defScope s_is_demand, [], []⟩
def D_is_crew : He.DefD := ⟨("is_crew", none), "is_crew", "is_crew", defArgs s_is_crew, defBody s_is_crew, defScope s_is_crew, [], []⟩
def D_is_house : He.DefD := ⟨("is_house", none), "is_house", "is_house", defArgs s_is_house, defBody s_is_house, defScope s_is_house, [], []⟩
def D__law_number : He.DefD := ⟨("_law_number", none), "_law_number", "_law_number", defArgs s__law_number, defBody s__law_number, defScope s__law_number, [], []⟩
def D__law_draws : He.DefD := ⟨("_law_draws", none), "_law_draws", "_law_draws", defArgs s__law_draws, defBody s__law_draws, defScope s__law_draws, [], []⟩
def D__law_flat : He.DefD := ⟨("_law_flat", none), "_law_flat", "_law_flat", defArgs s__law_flat, defBody s__law_flat, defScope s__law_flat, [], []⟩
def D__law_next : He.DefD := ⟨("_law_next", none), "_law_next", "_law_next", defArgs s__law_next, defBody s__law_next, defScope s__law_next, [], []⟩
def D__law_more : He.DefD := ⟨("_law_more", none), "_law_more", "_law_more", defArgs s__law_more, defBody s__law_more, defScope s__law_more, [], []⟩
def D__law_pick : He.DefD := ⟨("_law_pick", none), "_law_pick", "_law_pick", defArgs s__law_pick, defBody s__law_pick, defScope s__law_pick, [], []⟩
def D__law_begin : He.DefD := ⟨("_law_begin", none), "_law_begin", "_law_begin", defArgs s__law_begin, defBody s__law_begin, defScope s__law_begin, [], []⟩
def D__law_rules : He.DefD := ⟨("_law_rules", none), "_law_rules", "_law_rules", defArgs s__law_rules, defBody s__law_rules, defScope s__law_rules, [], []⟩
def D__law_first : He.DefD := ⟨("_law_first", none), "_law_first", "_law_first", defArgs s__law_first, defBody s__law_first, defScope s__law_first, [], []⟩
def D__law_worth : He.DefD := ⟨("_law_worth", none), "_law_worth", "_law_worth", defArgs s__law_worth, defBody s__law_worth, defScope s__law_worth, [], []⟩
def D__law_has : He.DefD := ⟨("_law_has", none), "_law_has", "_law_has", defArgs s__law_has, defBody s__law_has, defScope s__law_has, [], []⟩
def D__law_free : He.DefD := ⟨("_law_free", none), "_law_free", "_law_free", defArgs s__law_free, defBody s__law_free, defScope s__law_free, [], []⟩
def D__law_value : He.DefD := ⟨("_law_value", none), "_law_value", "_law_value", defArgs s__law_value, defBody s__law_value, defScope s__law_value, [], []⟩
def D__law_last : He.DefD := ⟨("_law_last", none), "_law_last", "_law_last", defArgs s__law_last, defBody s__law_last, defScope s__law_last, [], []⟩
def D__law_window : He.DefD := ⟨("_law_window", none), "_law_window", "_law_window", defArgs s__law_window, defBody s__law_window, defScope s__law_window, [], []⟩
def D__law_part : He.DefD := ⟨("_law_part", none), "_law_part", "_law_part", defArgs s__law_part, defBody s__law_part, defScope s__law_part, [], []⟩
def D__law_step : He.DefD := ⟨("_law_step", none), "_law_step", "_law_step", defArgs s__law_step, defBody s__law_step, defScope s__law_step, [], []⟩
def D__law_moves : He.DefD := ⟨("_law_moves", none), "_law_moves", "_law_moves", defArgs s__law_moves, defBody s__law_moves, defScope s__law_moves, [], []⟩
def D__law_duty : He.DefD := ⟨("_law_duty", none), "_law_duty", "_law_duty", defArgs s__law_duty, defBody s__law_duty, defScope s__law_duty, [], []⟩
def D__law_measure : He.DefD := ⟨("_law_measure", none), "_law_measure", "_law_measure", defArgs s__law_measure, defBody s__law_measure, defScope s__law_measure, [], []⟩
def D__law_rule : He.DefD := ⟨("_law_rule", none), "_law_rule", "_law_rule", defArgs s__law_rule, defBody s__law_rule, defScope s__law_rule, [], []⟩
def D__law_any_book : He.DefD := ⟨("_law_any_book", none), "_law_any_book", "_law_any_book", defArgs s__law_any_book, defBody s__law_any_book, defScope s__law_any_book, [], []⟩
def D__law_entry : He.DefD := ⟨("_law_entry", none), "_law_entry", "_law_entry", defArgs s__law_entry, defBody s__law_entry, defScope s__law_entry, [], []⟩
def D__law_demand : He.DefD := ⟨("_law_demand", none), "_law_demand", "_law_demand", defArgs s__law_demand, defBody s__law_demand, defScope s__law_demand, [], []⟩
def D__law_met : He.DefD := ⟨("_law_met", none), "_law_met", "_law_met", defArgs s__law_met, defBody s__law_met, defScope s__law_met, [], []⟩
def D__law_behind : He.DefD := ⟨("_law_behind", none), "_law_behind", "_law_behind", defArgs s__law_behind, defBody s__law_behind, defScope s__law_behind, [], []⟩
def D__law_standings : He.DefD := ⟨("_law_standings", none), "_law_standings", "_law_standings", defArgs s__law_standings, defBody s__law_standings, defScope s__law_standings, [], []⟩
def D_check_calendar : He.DefD := ⟨("check_calendar", none), "check_calendar", "check_calendar", defArgs s_check_calendar, defBody s_check_calendar, defScope s_check_calendar, [], []⟩
def D_check_duties : He.DefD := ⟨("check_duties", none), "check_duties", "check_duties", defArgs s_check_duties, defBody s_check_duties, defScope s_check_duties, [], []⟩
def D_check_book : He.DefD := ⟨("check_book", none), "check_book", "check_book", defArgs s_check_book, defBody s_check_book, defScope s_check_book, [], []⟩
def D_check_house : He.DefD := ⟨("check_house", none), "check_house", "check_house", defArgs s_check_house, defBody s_check_house, defScope s_check_house, [], []⟩
def D_is_row : He.DefD := ⟨("is_row", none), "is_row", "is_row", defArgs s_is_row, defBody s_is_row, defScope s_is_row, [], []⟩
def D_is_day : He.DefD := ⟨("is_day", none), "is_day", "is_day", defArgs s_is_day, defBody s_is_day, defScope s_is_day, [], []⟩
def D_is_of : He.DefD := ⟨("is_of", none), "is_of", "is_of", defArgs s_is_of, defBody s_is_of, defScope s_is_of, [], []⟩
def D_met : He.DefD := ⟨("met", none), "met", "met", defArgs s_met, defBody s_met, defScope s_met, [], []⟩
def D_meets : He.DefD := ⟨("meets", none), "meets", "meets", defArgs s_meets, defBody s_meets, defScope s_meets, [], []⟩
def D_check_plan : He.DefD := ⟨("check_plan", none), "check_plan", "check_plan", defArgs s_check_plan, defBody s_check_plan, defScope s_check_plan, [], []⟩
def D_start_of : He.DefD := ⟨("start_of", none), "start_of", "start_of", defArgs s_start_of, defBody s_start_of, defScope s_start_of, [], []⟩
def D_all_rules : He.DefD := ⟨("all_rules", none), "all_rules", "all_rules", defArgs s_all_rules, defBody s_all_rules, defScope s_all_rules, [], []⟩
def D_start : He.DefD := ⟨("start", none), "start", "start", defArgs s_start, defBody s_start, defScope s_start, [], []⟩
def D_begins : He.DefD := ⟨("begins", none), "begins", "begins", defArgs s_begins, defBody s_begins, defScope s_begins, [], []⟩
def D_ends : He.DefD := ⟨("ends", none), "ends", "ends", defArgs s_ends, defBody s_ends, defScope s_ends, [], []⟩
def D_behind_rest : He.DefD := ⟨("behind_rest", none), "behind_rest", "behind_rest", defArgs s_behind_rest, defBody s_behind_rest, defScope s_behind_rest, [], []⟩
def D_worth_of : He.DefD := ⟨("worth_of", none), "worth_of", "worth_of", defArgs s_worth_of, defBody s_worth_of, defScope s_worth_of, [], []⟩
def D_measure_of : He.DefD := ⟨("measure_of", none), "measure_of", "measure_of", defArgs s_measure_of, defBody s_measure_of, defScope s_measure_of, [], []⟩
def D_shifted : He.DefD := ⟨("shifted", none), "shifted", "shifted", defArgs s_shifted, defBody s_shifted, defScope s_shifted, [], []⟩
def D_behind_window : He.DefD := ⟨("behind_window", none), "behind_window", "behind_window", defArgs s_behind_window, defBody s_behind_window, defScope s_behind_window, [], []⟩
def D_behind_row : He.DefD := ⟨("behind_row", none), "behind_row", "behind_row", defArgs s_behind_row, defBody s_behind_row, defScope s_behind_row, [], []⟩
def D_behind_free : He.DefD := ⟨("behind_free", none), "behind_free", "behind_free", defArgs s_behind_free, defBody s_behind_free, defScope s_behind_free, [], []⟩
def D_behind_kinds : He.DefD := ⟨("behind_kinds", none), "behind_kinds", "behind_kinds", defArgs s_behind_kinds, defBody s_behind_kinds, defScope s_behind_kinds, [], []⟩
def D_behind_account : He.DefD := ⟨("behind_account", none), "behind_account", "behind_account", defArgs s_behind_account, defBody s_behind_account, defScope s_behind_account, [], []⟩
def D_behind_not : He.DefD := ⟨("behind_not", none), "behind_not", "behind_not", defArgs s_behind_not, defBody s_behind_not, defScope s_behind_not, [], []⟩
def D_stood : He.DefD := ⟨("stood", none), "stood", "stood", defArgs s_stood, defBody s_stood, defScope s_stood, [], []⟩
def D_parts_behind : He.DefD := ⟨("parts_behind", none), "parts_behind", "parts_behind", defArgs s_parts_behind, defBody s_parts_behind, defScope s_parts_behind, [], []⟩
def D_behind : He.DefD := ⟨("behind", none), "behind", "behind", defArgs s_behind, defBody s_behind, defScope s_behind, [], []⟩
def D_behind_all : He.DefD := ⟨("behind_all", none), "behind_all", "behind_all", defArgs s_behind_all, defBody s_behind_all, defScope s_behind_all, [], []⟩
def D_standings_of : He.DefD := ⟨("standings_of", none), "standings_of", "standings_of", defArgs s_standings_of, defBody s_standings_of, defScope s_standings_of, [], []⟩
def D_is_right_plan : He.DefD := ⟨("is_right_plan", none), "is_right_plan", "is_right_plan", defArgs s_is_right_plan, defBody s_is_right_plan, defScope s_is_right_plan, [], []⟩
def D_right_standings : He.DefD := ⟨("right_standings", none), "right_standings", "right_standings", defArgs s_right_standings, defBody s_right_standings, defScope s_right_standings, [], []⟩
def D_joint_of : He.DefD := ⟨("joint_of", none), "joint_of", "joint_of", defArgs s_joint_of, defBody s_joint_of, defScope s_joint_of, [], []⟩
def D__law_kind : He.DefD := ⟨("_law_kind", none), "_law_kind", "_law_kind", defArgs s__law_kind, defBody s__law_kind, defScope s__law_kind, [], []⟩
def D__law_asked : He.DefD := ⟨("_law_asked", none), "_law_asked", "_law_asked", defArgs s__law_asked, defBody s__law_asked, defScope s__law_asked, [], []⟩
def D_law : He.DefD := ⟨("law", none), "law", "law", defArgs s_law, defBody s_law, defScope s_law, [], []⟩
def asA0 : List Addr := [3, 6, 4, 24, 37, 49, 61, 73, 85, 97, 109, 121, 133, 145, 154, 159, 166, 171, 176, 183, 190, 197, 204, 211, 218, 225, 232, 237, 238, 245, 252, 257, 262, 269, 276, 283, 290, 297, 304, 311]
def asA1 : List Addr := [318, 325, 330, 337, 338, 343, 348, 355, 360, 365, 372, 379, 384, 389, 396, 403, 410, 417, 422, 429, 434, 439, 446, 453, 460, 467, 474, 481, 488, 495, 502, 509, 516, 523, 530, 537, 544, 551, 558, 563]
def asA2 : List Addr := [570, 575, 580, 585, 592, 599, 606, 611, 616, 623, 628, 633, 638, 645, 650, 0, 23, 36, 48, 60, 72, 84, 96, 108, 120, 132, 144, 153, 158, 165, 170, 175, 182, 189, 196, 203, 210, 217, 224, 231]
def asA3 : List Addr := [236, 244, 251, 256, 261, 268, 275, 282, 289, 296, 303, 310, 317, 324, 329, 336, 342, 347, 354, 359, 364, 371, 378, 383, 388, 395, 402, 409, 416, 421, 428, 433, 438, 445, 452, 459, 466, 473, 480, 487]
def asA4 : List Addr := [494, 501, 508, 515, 522, 529, 536, 543, 550, 557, 562, 569, 574, 579, 584, 591, 598, 605, 610, 615, 622, 627, 632, 637, 644, 649, 22, 25, 35, 47, 59, 71, 83, 95, 107, 119, 131, 143, 148, 149]
def asA5 : List Addr := [150, 151, 152, 155, 156, 157, 160, 161, 162, 163, 164, 167, 168, 169, 172, 173, 174, 177, 178, 179, 180, 181, 184, 185, 186, 187, 188, 191, 192, 193, 194, 195, 198, 199, 200, 201, 202, 205, 206, 207]
def asA6 : List Addr := [208, 209, 212, 213, 214, 215, 216, 219, 220, 221, 222, 223, 226, 227, 228, 229, 230, 233, 234, 235, 239, 240, 241, 242, 243, 246, 247, 248, 249, 250, 253, 254, 255, 258, 259, 260, 263, 264, 265, 266]
def asA7 : List Addr := [267, 270, 271, 272, 273, 274, 277, 278, 279, 280, 281, 284, 285, 286, 287, 288, 291, 292, 293, 294, 295, 298, 299, 300, 301, 302, 305, 306, 307, 308, 309, 312, 313, 314, 315, 316, 319, 320, 321, 322]
def asA8 : List Addr := [323, 326, 327, 328, 331, 332, 333, 334, 335, 339, 340, 341, 344, 345, 346, 349, 350, 351, 352, 353, 356, 357, 358, 361, 362, 363, 366, 367, 368, 369, 370, 373, 374, 375, 376, 377, 380, 381, 382, 385]
def asA9 : List Addr := [386, 387, 390, 391, 392, 393, 394, 397, 398, 399, 400, 401, 404, 405, 406, 407, 408, 411, 412, 413, 414, 415, 418, 419, 420, 423, 424, 425, 426, 427, 430, 431, 432, 435, 436, 437, 440, 441, 442, 443]
def asA10 : List Addr := [444, 447, 448, 449, 450, 451, 454, 455, 456, 457, 458, 461, 462, 463, 464, 465, 468, 469, 470, 471, 472, 475, 476, 477, 478, 479, 482, 483, 484, 485, 486, 489, 490, 491, 492, 493, 496, 497, 498, 499]
def asA11 : List Addr := [500, 503, 504, 505, 506, 507, 510, 511, 512, 513, 514, 517, 518, 519, 520, 521, 524, 525, 526, 527, 528, 531, 532, 533, 534, 535, 538, 539, 540, 541, 542, 545, 546, 547, 548, 549, 552, 553, 554, 555]
def asA12 : List Addr := [556, 559, 560, 561, 564, 565, 566, 567, 568, 571, 572, 573, 576, 577, 578, 581, 582, 583, 586, 587, 588, 589, 590, 593, 594, 595, 596, 597, 600, 601, 602, 603, 604, 607, 608, 609, 612, 613, 614, 617]
def asA13 : List Addr := [618, 619, 620, 621, 624, 625, 626, 629, 630, 631, 634, 635, 636, 639, 640, 641, 642, 643, 646, 647, 648]
def asA : List Addr := asA0 ++ asA1 ++ asA2 ++ asA3 ++ asA4 ++ asA5 ++ asA6 ++ asA7 ++ asA8 ++ asA9 ++ asA10 ++ asA11 ++ asA12 ++ asA13
def exp0 : List (PySem.Str × Gv) := [("__name__", .any), ("__doc__", .any), ("__package__", .any), ("__loader__", .any), ("__spec__", .any), ("__annotations__", .ref 6), ("__builtins__", .ref 4), ("__file__", .any), ("__cached__", .any), ("HoursError", .ref 24), ("NotCalendar", .ref 37), ("NotDuties", .ref 49), ("NotRule", .ref 61), ("NotRoster", .ref 73), ("NotDemand", .ref 85), ("NotProgram", .ref 97), ("NotPaper", .ref 109), ("BadNumber", .ref 121), ("NoAnswer", .ref 133), ("TooLarge", .ref 145), ("LETTERS", .str "abcdefghijklmnopqrstuvwxyz"), ("MOST_PHASES", .int 14), ("MOST_DUTIES", .int 7), ("HOURS", .int 24), ("FREE", .int 0), ("OF_HOURS", .str "hours"), ("OF_DAYS", .str "days"), ("is_letter", .ref 154), ("is_calendar", .ref 159), ("check_calendar", .ref 166)]
def exp1 : List (PySem.Str × Gv) := [("is_duty", .ref 171), ("is_duties", .ref 176), ("check_duties", .ref 183), ("worth_of", .ref 190), ("begins", .ref 197), ("ends", .ref 204), ("is_sort", .ref 211), ("is_of", .ref 218), ("is_measure", .ref 225), ("measure_of", .ref 232), ("is_row", .ref 237), ("MOST_REST", .int 72), ("MOST_DAYS", .int 14), ("MOST_SUM", .int 400), ("MOST_SETS", .int 6), ("REST", .str "rest"), ("MOST", .str "most"), ("LEAST", .str "least"), ("ROW", .str "row"), ("BEHIND", .str "behind"), ("KINDS", .str "kinds"), ("ACCOUNT", .str "account"), ("NOT", .any), ("LENGTHS", .ref 238), ("is_window", .ref 245), ("is_kinds", .ref 252), ("is_account", .ref 257), ("is_not", .ref 262), ("fits", .ref 269), ("start_of", .ref 276)]
def exp2 : List (PySem.Str × Gv) := [("shifted", .ref 283), ("behind_rest", .ref 290), ("behind_window", .ref 297), ("behind_row", .ref 304), ("behind_free", .ref 311), ("behind_kinds", .ref 318), ("behind_account", .ref 325), ("behind_not", .ref 330), ("stood", .ref 337), ("MOST_RULES", .int 6), ("NO_OVERLAP", .ref 338), ("is_book", .ref 343), ("check_book", .ref 348), ("all_rules", .ref 355), ("start", .ref 360), ("parts_behind", .ref 365), ("behind", .ref 372), ("behind_all", .ref 379), ("MOST_PERSONS", .int 6), ("MOST_TRIPLES", .int 4), ("is_entry", .ref 384), ("is_demand", .ref 389), ("is_crew", .ref 396), ("is_house", .ref 403), ("check_house", .ref 410), ("is_day", .ref 417), ("met", .ref 422), ("meets", .ref 429), ("check_plan", .ref 434), ("standings_of", .ref 439)]
def exp3 : List (PySem.Str × Gv) := [("is_right_plan", .ref 446), ("right_standings", .ref 453), ("joint_of", .ref 460), ("_law_number", .ref 467), ("_law_draws", .ref 474), ("_law_flat", .ref 481), ("_law_next", .ref 488), ("_law_more", .ref 495), ("_law_pick", .ref 502), ("_law_kind", .ref 509), ("_law_worth", .ref 516), ("_law_has", .ref 523), ("_law_value", .ref 530), ("_law_begin", .ref 537), ("_law_last", .ref 544), ("_law_free", .ref 551), ("_law_window", .ref 558), ("_law_part", .ref 563), ("_law_rules", .ref 570), ("_law_first", .ref 575), ("_law_step", .ref 580), ("_law_moves", .ref 585), ("_law_behind", .ref 592), ("_law_duty", .ref 599), ("_law_measure", .ref 606), ("_law_rule", .ref 611), ("_law_any_book", .ref 616), ("_law_entry", .ref 623), ("_law_demand", .ref 628), ("_law_met", .ref 633)]
def exp4 : List (PySem.Str × Gv) := [("_law_standings", .ref 638), ("_law_asked", .ref 645), ("law", .ref 650)]
def exp : List (PySem.Str × Gv) := exp0 ++ exp1 ++ exp2 ++ exp3 ++ exp4
def csN0 : List Nat := [374161367731143741010235161885755695882262265462879, 178414043298313017179769153886801551501033567, 3451029496402768033303291738219750197345458998448288295201843273793631, 1645579097939857498076780585897539950879699447362785272051794015, 374161367731143741213059548064395320647645776576607, 66752618599247636848067436934149788210820475706205944632613463355544821013030945465818366869599, 7237333410440057775593144321353787799228334574139383928864719623517412261983, 374161367731143740685716762969824656399603752501343, 1645579097939857496471125740615131991120291469057947715967647839, 1645561051278354573681745845862620744954082735011273249443020914, 3451001522837847777767920789719145100981413352246754284234313645949042, 784666900207832390553430961546566345847514141469085532275, 178412597098902640608101030341921443328032869, 784666900207832390553431529453919191206379683933006594162, 784666900207832390553430961546256860773129156958024106084, 1645565759104656113513909868716283773587860372895597040859349101, 374158334831157870556560253297810543626992287219826, 784662410472304825196301747999346460094887556129287569522, 374158334831157868487755054009899596133826226552946, 374159405266927399823646873604518471181400977440869]
def csN1 : List Nat := [178412426956015457113192557142848988308832339, 3450999877308182037273569112424328390798819517938784774951316515455059, 3450999877308182037273569112424328390312041938907890408644170599104595, 40566211890576183665449416786003, 19343458750237286588219461, 374158513233631563688744408237016045793979112882259, 178412682167831212849018254692857009538072659, 784677002107863243814273761614191097721566680916120567922, 3451045951464033993341725220968828779733166291784317852923108255596658, 31830189663950324863853661840926906320497900012857258474439703723551688992762335099617394, 178414894005041615813359712114094446475214969, 784677002107863243814273437095946924304661194450313150579, 7237347213947560900090516461415724352377287730465678004030408414833879810163, 374165649475582988519821734940133952149673088122982, 85074567084470556667751767856675553395, 19343744674893574453592179, 178414894005041615813359850464648611013591156, 40566850203740981626960959504486, 1645586944324509617491591932787315818836081415474107001979535461, 1645590082870139289320592328223874805337245542995107478075605094]
def csN2 : List Nat := [85074851038475807100944443340910231671, 784666526057704240264131183817955477679777026952505851988, 784666526057704240264131183817955477550649800844365529171, 374158156422474022037568656834581126064777598074957, 784666526057704240264131183817955477689000398989362724947, 19343569430644554270244948, 19343523313828350461476948, 40566289261736405193387122098260, 9223732676834361431, 85073269009636952655277271215090171972, 40566269918960184904642319089747, 178411491179425294565175557129013810882936916, 9223715084648317012, 178412426956015456997135558556074079101648979, 784677002107863243814274207827279749255431041432978194551, 374163151792461034686219082379078512962027009343603, 1645586944324509617491590911940133926420962008002768903832862836, 85074851038475807100944425748724187252, 19343753898243621109366899, 374164935852161987808930413666806104043496730001510]
def csN3 : List Nat := [178415744710512705341666183386366529952022628, 3451034432921147820229804287695114017168193024988859911424015578693748, 15177809947408625289900745339014236080874057291512486046078409911314427136006160503, 1645581451855253133883382934424931534370514404768400150045393015, 3451034432921147820229804287695114017168193024988749231016747896668261, 7237343763069450993490574521548383751332310338741302141307793746578336907379, 31830174486827893343965927889204383225477190997008121583243975212769162096645408685031540, 1645581451855253133883382934424931534370514404768382557859348596, 40567043631881343410034511446116, 1645564974454966562878403240406192965927099899201423355827716179, 1645565759092683488354369833585486953675429208734247299261136976, 178414894005041615813359693667323984476110955, 1645582236494092489940730152151382833921454141394843539387449451, 784674008951261149499896730722379462442913748567472472179, 40567043631881343348461866582132, 7237392075287296517054183025493653521780190923039078254155877041906791743588, 85074567084470556676975139893530329188, 1645581451855253133883382934424931534370514404768325383248412780, 7237271294696608575832340011258905133420525827990229574271616012452074881107, 7237271294696608575832340011258905133760808722253643647332727006606496104531]
def csN4 : List Nat := [374163151792461034686218966322245946844198819856505, 784677002107863243814273437095637439230276209939251724388, 178414894005041615813359702890709215449448567, 374163151792461034686219024350694511722834109136997, 3451036078428059053464182120044576812924045511591357601344257458700389, 85074851038475807100944381768229716089, 9223851424136298612, 40566927574864309781100463390835, 1645582236494092489940730152151382833921454270522038861185417326, 7237402427938081276150123659862503699795907103424245350588017898589555523686, 15177860606495978825354243143678947881930254042209519706681938370498387230026891374, 66753223344454882199251445721393523633370105740795669698005160067265001344000479025624000757875, 374163330198082340969931526302935526549067428528230, 3451029496412968318011132732041130808400468515045108078268556064587890, 1645579097944721373563352933903279689786348469230425189931548787, 784673260662422835141827074958457798874394435938768912500, 784673260662422835141827074958457798948181381447329775732, 784673260662422835141827074958457798938958053390927528037, 784673260662422835141827074958457798966628143113181331563, 784673260662422835141827074958457798920511282928930521188]
def csN5 : List Nat := [1645579097944721373563352933903279690153861890723231115262296168, 374161367732249658175385987738827609487934652153971, 1645579097944721373563352933903279690134518948482162144223166565, 1645579097944721373563352933903279689747662723098946965478572142, 784673260662422835141827074958457798929734619781423693940, 784673260662422835141827074958457798874394462327056367717, 3451029496412968318011132732041130808765551655797090003271638012919927, 784673260662422835141827074958457798966628107928840700020, 1645579097944721373563352933903279690057147880494266614103933043, 1645579097944721373563352933903279689825034012447819758611464308, 784673260662422835141827074958457798994298307602261475440, 1645579097944721373563352933903279689960433759584908039463895155, 3451029496412968318011132732041130807913690375072412049919355379515492, 784673260662422835141827074958457798855947731447517806713, 7237333410461449334053683031265521557013588106496304450237193055986371264613, 784673260662422835141827074958457798985074939963467890789, 15177788236416049393809349476384551062193289551292297176222062572826140725026488427, 1645579097944721373563352933903279689805691245450854672180969593, 3451029496412968318011132732041130807994820013487064848440144286449764, 374161367732249658175385987738827609509924893098100]
def csN6 : List Nat := [31830128955576390818326064873098814035915382184326272090667888167612936667971981039108211, 1645579097944721373563352933903279689728320039112339006827790436, 9223847026081398903]
def csN : List Nat := csN0 ++ csN1 ++ csN2 ++ csN3 ++ csN4 ++ csN5 ++ csN6
def dsA0 : List (He.DefD × Addr) := [(D_is_letter, 154), (D_is_calendar, 159), (D_is_duty, 171), (D_is_duties, 176), (D_is_sort, 211), (D_is_measure, 225), (D_is_window, 245), (D_is_kinds, 252), (D_is_account, 257), (D_is_not, 262), (D_fits, 269), (D_is_book, 343), (D_is_entry, 384), (D_is_demand, 389), (D_is_crew, 396), (D_is_house, 403), (D__law_number, 467), (D__law_draws, 474), (D__law_flat, 481), (D__law_next, 488), (D__law_more, 495), (D__law_pick, 502), (D__law_begin, 537), (D__law_rules, 570), (D__law_first, 575), (D__law_worth, 516), (D__law_has, 523), (D__law_free, 551), (D__law_value, 530), (D__law_last, 544)]
def dsA1 : List (He.DefD × Addr) := [(D__law_window, 558), (D__law_part, 563), (D__law_step, 580), (D__law_moves, 585), (D__law_duty, 599), (D__law_measure, 606), (D__law_rule, 611), (D__law_any_book, 616), (D__law_entry, 623), (D__law_demand, 628), (D__law_met, 633), (D__law_behind, 592), (D__law_standings, 638), (D_check_calendar, 166), (D_check_duties, 183), (D_check_book, 348), (D_check_house, 410), (D_is_row, 237), (D_is_day, 417), (D_is_of, 218), (D_met, 422), (D_meets, 429), (D_check_plan, 434), (D_start_of, 276), (D_all_rules, 355), (D_start, 360), (D_begins, 197), (D_ends, 204), (D_behind_rest, 290), (D_worth_of, 190)]
def dsA2 : List (He.DefD × Addr) := [(D_measure_of, 232), (D_shifted, 283), (D_behind_window, 297), (D_behind_row, 304), (D_behind_free, 311), (D_behind_kinds, 318), (D_behind_account, 325), (D_behind_not, 330), (D_stood, 337), (D_parts_behind, 365), (D_behind, 372), (D_behind_all, 379), (D_standings_of, 439), (D_is_right_plan, 446), (D_right_standings, 453), (D_joint_of, 460), (D__law_kind, 509), (D__law_asked, 645), (D_law, 650)]
def dsA : List (He.DefD × Addr) := dsA0 ++ dsA1 ++ dsA2
def loose0 : List PySem.Str := ["HoursError", "NotCalendar", "NotDuties", "NotRule", "NotRoster", "NotDemand", "NotProgram", "NotPaper", "BadNumber", "NoAnswer", "TooLarge", "LETTERS", "MOST_PHASES", "MOST_DUTIES", "HOURS", "FREE", "OF_HOURS", "OF_DAYS", "is_letter", "is_calendar", "check_calendar", "is_duty", "is_duties", "check_duties", "worth_of", "begins", "ends", "is_sort", "is_of", "is_measure"]
def loose1 : List PySem.Str := ["measure_of", "is_row", "MOST_REST", "MOST_DAYS", "MOST_SUM", "MOST_SETS", "REST", "MOST", "LEAST", "ROW", "BEHIND", "KINDS", "ACCOUNT", "NOT", "LENGTHS", "is_window", "is_kinds", "is_account", "is_not", "fits", "start_of", "shifted", "behind_rest", "behind_window", "behind_row", "behind_free", "behind_kinds", "behind_account", "behind_not", "stood"]
def loose2 : List PySem.Str := ["MOST_RULES", "NO_OVERLAP", "is_book", "check_book", "all_rules", "start", "parts_behind", "behind", "behind_all", "MOST_PERSONS", "MOST_TRIPLES", "is_entry", "is_demand", "is_crew", "is_house", "check_house", "is_day", "met", "meets", "check_plan", "standings_of", "is_right_plan", "right_standings", "joint_of", "_law_number", "_law_draws", "_law_flat", "_law_next", "_law_more", "_law_pick"]
def loose3 : List PySem.Str := ["_law_kind", "_law_worth", "_law_has", "_law_value", "_law_begin", "_law_last", "_law_free", "_law_window", "_law_part", "_law_rules", "_law_first", "_law_step", "_law_moves", "_law_behind", "_law_duty", "_law_measure", "_law_rule", "_law_any_book", "_law_entry", "_law_demand", "_law_met", "_law_standings", "_law_asked"]
def loose : List PySem.Str := loose0 ++ loose1 ++ loose2 ++ loose3
def excB (K : PySem.W.Frag) (C : Addr) : Bool :=
  decide (PySem.W.findIn K (.ref C) "__getattribute__" = some (some (.builtin "BaseException.__getattribute__"))) && decide (PySem.W.findIn K (.ref C) "__getattr__" = some none) && decide (PySem.W.subIn K (.ref C) (.type "BaseException") = some true) &&
  (PySem.W.hasDictIn K C && decide (PySem.W.findIn K (.ref C) "__class__" = some (some (.builtin "object.__class__"))) && decide (PySem.W.specialIn K (.builtin "object.__class__") "__get__" = some (some (.builtin "getset_descriptor.__get__"))) &&
  decide (PySem.W.takesIn K (.builtin "object.__class__") = some true) && decide (PySem.W.mroIn K C (.type "object") = some true))
theorem excB_ok {K : PySem.W.Frag} {C : Addr} (h : excB K C = true) : ExcC K C := by
  simp only [excB, Bool.and_eq_true, decide_eq_true_eq] at h
  exact ⟨h.1.1.1, h.1.1.2, h.1.2, h.2.1.1.1.1, h.2.1.1.1.2, h.2.1.1.2, h.2.1.2, h.2.2⟩
def kindsA : List (PySem.Str × Addr) := [("NotCalendar", 37), ("NotDuties", 49), ("NotRule", 61), ("NotRoster", 73), ("NotDemand", 85), ("NotProgram", 97), ("NotPaper", 109), ("BadNumber", 121), ("NoAnswer", 133), ("TooLarge", 145)]
def exK (K : PySem.W.Frag) : Bool := kindsA.all fun q => excB K q.2 && (decide (PySem.W.exmOne K (.ref q.2) (.ref 24) = some true) && kindsA.all fun r => decide (PySem.W.kitOne K (.ref q.2) (.ref r.2) = some (q.1 == r.1)))
def exT (K : PySem.W.Frag) : Bool := kvB K 238 kt_LENGTHS
def exQ (K : PySem.W.Frag) : Bool := dB K (.tup [.str "rest", .int 0]) (.ref 338)
def exE (K : PySem.W.Frag) : Bool := excA K 121 && (excA K 133 && (excA K 37 && (excA K 85 && (excA K 49 && (excA K 73 && (excA K 61))))))
def exB (K : PySem.W.Frag) : Bool := exK K && (exT K && (exQ K && exE K))
def tsA : List (Addr × List PySem.Str) := [(238, ["rest", "most", "least", "row", "behind", "kinds", "account", "not"])]
abbrev Ro : PySem.W.OpenRow := PySem.W.OpenLaw.row PySem.Challenge.rw_hoursheld_k13_houses_and_plans
abbrev hk : PySem.W.Hook := hookL asA exp dsA tsA exB
def ob (s : PySem.W.SharedT) : AlL := obsL asA exp dsA tsA exB (HandSHeadRun.getT s)
theorem ob_eq (s : PySem.W.SharedT) : ob s = hk.obs s.abs := obsL_eq (HandSHeadRun.getT_eq s)
theorem headRun0 (w : World) : HandSHeadRun.RunEq Ro (PySem.W.view Ro.prog [119]) hk ob 20000 loose (w.withFollow "special-get-raises" false) := by
  intro os
  kernel_rfl
theorem headRun1 (w : World) : HandSHeadRun.RunEq Ro (PySem.W.view Ro.prog [119]) hk ob 20000 loose (w.withFollow "special-get-raises" true) := by
  intro os
  kernel_rfl
theorem headRun (w : World) : HandSHeadRun.RunEq Ro (PySem.W.view Ro.prog [119]) hk ob 20000 loose w := PySem.W.byRow2 "special-get-raises" (P := fun w => HandSHeadRun.RunEq Ro (PySem.W.view Ro.prog [119]) hk ob 20000 loose w) headRun0 headRun1 w
theorem cs_ok : exp.map (fun p => strC p.1) = csN := by kernel_rfl
theorem ns_is_letter {K : PySem.W.Frag} (c : globK K exp = true) : PySem.W.nsIn K mainGlobals "is_letter" = some (some (.ref 154)) := glob_ref (i := 27) (k := 784677002107863243814273761614191097721566680916120567922) c cs_ok (by kernel_rfl) (by kernel_rfl) (by kernel_rfl)
theorem ns_is_calendar {K : PySem.W.Frag} (c : globK K exp = true) : PySem.W.nsIn K mainGlobals "is_calendar" = some (some (.ref 159)) := glob_ref (i := 28) (k := 3451045951464033993341725220968828779733166291784317852923108255596658) c cs_ok (by kernel_rfl) (by kernel_rfl) (by kernel_rfl)
theorem ns_is_duty {K : PySem.W.Frag} (c : globK K exp = true) : PySem.W.nsIn K mainGlobals "is_duty" = some (some (.ref 171)) := glob_ref (i := 30) (k := 178414894005041615813359712114094446475214969) c cs_ok (by kernel_rfl) (by kernel_rfl) (by kernel_rfl)
theorem ns_is_duties {K : PySem.W.Frag} (c : globK K exp = true) : PySem.W.nsIn K mainGlobals "is_duties" = some (some (.ref 176)) := glob_ref (i := 31) (k := 784677002107863243814273437095946924304661194450313150579) c cs_ok (by kernel_rfl) (by kernel_rfl) (by kernel_rfl)
theorem ns_is_sort {K : PySem.W.Frag} (c : globK K exp = true) : PySem.W.nsIn K mainGlobals "is_sort" = some (some (.ref 211)) := glob_ref (i := 36) (k := 178414894005041615813359850464648611013591156) c cs_ok (by kernel_rfl) (by kernel_rfl) (by kernel_rfl)
theorem ns_is_measure {K : PySem.W.Frag} (c : globK K exp = true) : PySem.W.nsIn K mainGlobals "is_measure" = some (some (.ref 225)) := glob_ref (i := 38) (k := 1645586944324509617491591932787315818836081415474107001979535461) c cs_ok (by kernel_rfl) (by kernel_rfl) (by kernel_rfl)
theorem ns_is_window {K : PySem.W.Frag} (c : globK K exp = true) : PySem.W.nsIn K mainGlobals "is_window" = some (some (.ref 245)) := glob_ref (i := 54) (k := 784677002107863243814274207827279749255431041432978194551) c cs_ok (by kernel_rfl) (by kernel_rfl) (by kernel_rfl)
theorem ns_is_kinds {K : PySem.W.Frag} (c : globK K exp = true) : PySem.W.nsIn K mainGlobals "is_kinds" = some (some (.ref 252)) := glob_ref (i := 55) (k := 374163151792461034686219082379078512962027009343603) c cs_ok (by kernel_rfl) (by kernel_rfl) (by kernel_rfl)
theorem ns_is_account {K : PySem.W.Frag} (c : globK K exp = true) : PySem.W.nsIn K mainGlobals "is_account" = some (some (.ref 257)) := glob_ref (i := 56) (k := 1645586944324509617491590911940133926420962008002768903832862836) c cs_ok (by kernel_rfl) (by kernel_rfl) (by kernel_rfl)
theorem ns_is_not {K : PySem.W.Frag} (c : globK K exp = true) : PySem.W.nsIn K mainGlobals "is_not" = some (some (.ref 262)) := glob_ref (i := 57) (k := 85074851038475807100944425748724187252) c cs_ok (by kernel_rfl) (by kernel_rfl) (by kernel_rfl)
theorem ns_fits {K : PySem.W.Frag} (c : globK K exp = true) : PySem.W.nsIn K mainGlobals "fits" = some (some (.ref 269)) := glob_ref (i := 58) (k := 19343753898243621109366899) c cs_ok (by kernel_rfl) (by kernel_rfl) (by kernel_rfl)
theorem ns_is_book {K : PySem.W.Frag} (c : globK K exp = true) : PySem.W.nsIn K mainGlobals "is_book" = some (some (.ref 343)) := glob_ref (i := 71) (k := 178414894005041615813359693667323984476110955) c cs_ok (by kernel_rfl) (by kernel_rfl) (by kernel_rfl)
theorem ns_is_entry {K : PySem.W.Frag} (c : globK K exp = true) : PySem.W.nsIn K mainGlobals "is_entry" = some (some (.ref 384)) := glob_ref (i := 80) (k := 374163151792461034686218966322245946844198819856505) c cs_ok (by kernel_rfl) (by kernel_rfl) (by kernel_rfl)
theorem ns_is_demand {K : PySem.W.Frag} (c : globK K exp = true) : PySem.W.nsIn K mainGlobals "is_demand" = some (some (.ref 389)) := glob_ref (i := 81) (k := 784677002107863243814273437095637439230276209939251724388) c cs_ok (by kernel_rfl) (by kernel_rfl) (by kernel_rfl)
theorem ns_is_crew {K : PySem.W.Frag} (c : globK K exp = true) : PySem.W.nsIn K mainGlobals "is_crew" = some (some (.ref 396)) := glob_ref (i := 82) (k := 178414894005041615813359702890709215449448567) c cs_ok (by kernel_rfl) (by kernel_rfl) (by kernel_rfl)
theorem ns_is_house {K : PySem.W.Frag} (c : globK K exp = true) : PySem.W.nsIn K mainGlobals "is_house" = some (some (.ref 403)) := glob_ref (i := 83) (k := 374163151792461034686219024350694511722834109136997) c cs_ok (by kernel_rfl) (by kernel_rfl) (by kernel_rfl)
theorem ns__law_number {K : PySem.W.Frag} (c : globK K exp = true) : PySem.W.nsIn K mainGlobals "_law_number" = some (some (.ref 467)) := glob_ref (i := 93) (k := 3451029496412968318011132732041130808400468515045108078268556064587890) c cs_ok (by kernel_rfl) (by kernel_rfl) (by kernel_rfl)
theorem ns__law_draws {K : PySem.W.Frag} (c : globK K exp = true) : PySem.W.nsIn K mainGlobals "_law_draws" = some (some (.ref 474)) := glob_ref (i := 94) (k := 1645579097944721373563352933903279689786348469230425189931548787) c cs_ok (by kernel_rfl) (by kernel_rfl) (by kernel_rfl)
theorem ns__law_flat {K : PySem.W.Frag} (c : globK K exp = true) : PySem.W.nsIn K mainGlobals "_law_flat" = some (some (.ref 481)) := glob_ref (i := 95) (k := 784673260662422835141827074958457798874394435938768912500) c cs_ok (by kernel_rfl) (by kernel_rfl) (by kernel_rfl)
theorem ns__law_next {K : PySem.W.Frag} (c : globK K exp = true) : PySem.W.nsIn K mainGlobals "_law_next" = some (some (.ref 488)) := glob_ref (i := 96) (k := 784673260662422835141827074958457798948181381447329775732) c cs_ok (by kernel_rfl) (by kernel_rfl) (by kernel_rfl)
theorem ns__law_more {K : PySem.W.Frag} (c : globK K exp = true) : PySem.W.nsIn K mainGlobals "_law_more" = some (some (.ref 495)) := glob_ref (i := 97) (k := 784673260662422835141827074958457798938958053390927528037) c cs_ok (by kernel_rfl) (by kernel_rfl) (by kernel_rfl)
theorem ns__law_pick {K : PySem.W.Frag} (c : globK K exp = true) : PySem.W.nsIn K mainGlobals "_law_pick" = some (some (.ref 502)) := glob_ref (i := 98) (k := 784673260662422835141827074958457798966628143113181331563) c cs_ok (by kernel_rfl) (by kernel_rfl) (by kernel_rfl)
theorem ns__law_begin {K : PySem.W.Frag} (c : globK K exp = true) : PySem.W.nsIn K mainGlobals "_law_begin" = some (some (.ref 537)) := glob_ref (i := 103) (k := 1645579097944721373563352933903279689747662723098946965478572142) c cs_ok (by kernel_rfl) (by kernel_rfl) (by kernel_rfl)
theorem ns__law_rules {K : PySem.W.Frag} (c : globK K exp = true) : PySem.W.nsIn K mainGlobals "_law_rules" = some (some (.ref 570)) := glob_ref (i := 108) (k := 1645579097944721373563352933903279690057147880494266614103933043) c cs_ok (by kernel_rfl) (by kernel_rfl) (by kernel_rfl)
theorem ns__law_first {K : PySem.W.Frag} (c : globK K exp = true) : PySem.W.nsIn K mainGlobals "_law_first" = some (some (.ref 575)) := glob_ref (i := 109) (k := 1645579097944721373563352933903279689825034012447819758611464308) c cs_ok (by kernel_rfl) (by kernel_rfl) (by kernel_rfl)
theorem ns__law_worth {K : PySem.W.Frag} (c : globK K exp = true) : PySem.W.nsIn K mainGlobals "_law_worth" = some (some (.ref 516)) := glob_ref (i := 100) (k := 1645579097944721373563352933903279690153861890723231115262296168) c cs_ok (by kernel_rfl) (by kernel_rfl) (by kernel_rfl)
theorem ns__law_has {K : PySem.W.Frag} (c : globK K exp = true) : PySem.W.nsIn K mainGlobals "_law_has" = some (some (.ref 523)) := glob_ref (i := 101) (k := 374161367732249658175385987738827609487934652153971) c cs_ok (by kernel_rfl) (by kernel_rfl) (by kernel_rfl)
theorem ns__law_free {K : PySem.W.Frag} (c : globK K exp = true) : PySem.W.nsIn K mainGlobals "_law_free" = some (some (.ref 551)) := glob_ref (i := 105) (k := 784673260662422835141827074958457798874394462327056367717) c cs_ok (by kernel_rfl) (by kernel_rfl) (by kernel_rfl)
theorem ns__law_value {K : PySem.W.Frag} (c : globK K exp = true) : PySem.W.nsIn K mainGlobals "_law_value" = some (some (.ref 530)) := glob_ref (i := 102) (k := 1645579097944721373563352933903279690134518948482162144223166565) c cs_ok (by kernel_rfl) (by kernel_rfl) (by kernel_rfl)
theorem ns__law_last {K : PySem.W.Frag} (c : globK K exp = true) : PySem.W.nsIn K mainGlobals "_law_last" = some (some (.ref 544)) := glob_ref (i := 104) (k := 784673260662422835141827074958457798929734619781423693940) c cs_ok (by kernel_rfl) (by kernel_rfl) (by kernel_rfl)
theorem ns__law_window {K : PySem.W.Frag} (c : globK K exp = true) : PySem.W.nsIn K mainGlobals "_law_window" = some (some (.ref 558)) := glob_ref (i := 106) (k := 3451029496412968318011132732041130808765551655797090003271638012919927) c cs_ok (by kernel_rfl) (by kernel_rfl) (by kernel_rfl)
theorem ns__law_part {K : PySem.W.Frag} (c : globK K exp = true) : PySem.W.nsIn K mainGlobals "_law_part" = some (some (.ref 563)) := glob_ref (i := 107) (k := 784673260662422835141827074958457798966628107928840700020) c cs_ok (by kernel_rfl) (by kernel_rfl) (by kernel_rfl)
theorem ns__law_step {K : PySem.W.Frag} (c : globK K exp = true) : PySem.W.nsIn K mainGlobals "_law_step" = some (some (.ref 580)) := glob_ref (i := 110) (k := 784673260662422835141827074958457798994298307602261475440) c cs_ok (by kernel_rfl) (by kernel_rfl) (by kernel_rfl)
theorem ns__law_moves {K : PySem.W.Frag} (c : globK K exp = true) : PySem.W.nsIn K mainGlobals "_law_moves" = some (some (.ref 585)) := glob_ref (i := 111) (k := 1645579097944721373563352933903279689960433759584908039463895155) c cs_ok (by kernel_rfl) (by kernel_rfl) (by kernel_rfl)
theorem ns__law_duty {K : PySem.W.Frag} (c : globK K exp = true) : PySem.W.nsIn K mainGlobals "_law_duty" = some (some (.ref 599)) := glob_ref (i := 113) (k := 784673260662422835141827074958457798855947731447517806713) c cs_ok (by kernel_rfl) (by kernel_rfl) (by kernel_rfl)
theorem ns__law_measure {K : PySem.W.Frag} (c : globK K exp = true) : PySem.W.nsIn K mainGlobals "_law_measure" = some (some (.ref 606)) := glob_ref (i := 114) (k := 7237333410461449334053683031265521557013588106496304450237193055986371264613) c cs_ok (by kernel_rfl) (by kernel_rfl) (by kernel_rfl)
theorem ns__law_rule {K : PySem.W.Frag} (c : globK K exp = true) : PySem.W.nsIn K mainGlobals "_law_rule" = some (some (.ref 611)) := glob_ref (i := 115) (k := 784673260662422835141827074958457798985074939963467890789) c cs_ok (by kernel_rfl) (by kernel_rfl) (by kernel_rfl)
theorem ns__law_any_book {K : PySem.W.Frag} (c : globK K exp = true) : PySem.W.nsIn K mainGlobals "_law_any_book" = some (some (.ref 616)) := glob_ref (i := 116) (k := 15177788236416049393809349476384551062193289551292297176222062572826140725026488427) c cs_ok (by kernel_rfl) (by kernel_rfl) (by kernel_rfl)
theorem ns__law_entry {K : PySem.W.Frag} (c : globK K exp = true) : PySem.W.nsIn K mainGlobals "_law_entry" = some (some (.ref 623)) := glob_ref (i := 117) (k := 1645579097944721373563352933903279689805691245450854672180969593) c cs_ok (by kernel_rfl) (by kernel_rfl) (by kernel_rfl)
theorem ns__law_demand {K : PySem.W.Frag} (c : globK K exp = true) : PySem.W.nsIn K mainGlobals "_law_demand" = some (some (.ref 628)) := glob_ref (i := 118) (k := 3451029496412968318011132732041130807994820013487064848440144286449764) c cs_ok (by kernel_rfl) (by kernel_rfl) (by kernel_rfl)
theorem ns__law_met {K : PySem.W.Frag} (c : globK K exp = true) : PySem.W.nsIn K mainGlobals "_law_met" = some (some (.ref 633)) := glob_ref (i := 119) (k := 374161367732249658175385987738827609509924893098100) c cs_ok (by kernel_rfl) (by kernel_rfl) (by kernel_rfl)
theorem ns__law_behind {K : PySem.W.Frag} (c : globK K exp = true) : PySem.W.nsIn K mainGlobals "_law_behind" = some (some (.ref 592)) := glob_ref (i := 112) (k := 3451029496412968318011132732041130807913690375072412049919355379515492) c cs_ok (by kernel_rfl) (by kernel_rfl) (by kernel_rfl)
theorem ns__law_standings {K : PySem.W.Frag} (c : globK K exp = true) : PySem.W.nsIn K mainGlobals "_law_standings" = some (some (.ref 638)) := glob_ref (i := 120) (k := 31830128955576390818326064873098814035915382184326272090667888167612936667971981039108211) c cs_ok (by kernel_rfl) (by kernel_rfl) (by kernel_rfl)
theorem ns_check_calendar {K : PySem.W.Frag} (c : globK K exp = true) : PySem.W.nsIn K mainGlobals "check_calendar" = some (some (.ref 166)) := glob_ref (i := 29) (k := 31830189663950324863853661840926906320497900012857258474439703723551688992762335099617394) c cs_ok (by kernel_rfl) (by kernel_rfl) (by kernel_rfl)
theorem ns_check_duties {K : PySem.W.Frag} (c : globK K exp = true) : PySem.W.nsIn K mainGlobals "check_duties" = some (some (.ref 183)) := glob_ref (i := 32) (k := 7237347213947560900090516461415724352377287730465678004030408414833879810163) c cs_ok (by kernel_rfl) (by kernel_rfl) (by kernel_rfl)
theorem ns_check_book {K : PySem.W.Frag} (c : globK K exp = true) : PySem.W.nsIn K mainGlobals "check_book" = some (some (.ref 348)) := glob_ref (i := 72) (k := 1645582236494092489940730152151382833921454141394843539387449451) c cs_ok (by kernel_rfl) (by kernel_rfl) (by kernel_rfl)
theorem ns_check_house {K : PySem.W.Frag} (c : globK K exp = true) : PySem.W.nsIn K mainGlobals "check_house" = some (some (.ref 410)) := glob_ref (i := 84) (k := 3451036078428059053464182120044576812924045511591357601344257458700389) c cs_ok (by kernel_rfl) (by kernel_rfl) (by kernel_rfl)
theorem ns_is_row {K : PySem.W.Frag} (c : globK K exp = true) : PySem.W.nsIn K mainGlobals "is_row" = some (some (.ref 237)) := glob_ref (i := 40) (k := 85074851038475807100944443340910231671) c cs_ok (by kernel_rfl) (by kernel_rfl) (by kernel_rfl)
theorem ns_is_day {K : PySem.W.Frag} (c : globK K exp = true) : PySem.W.nsIn K mainGlobals "is_day" = some (some (.ref 417)) := glob_ref (i := 85) (k := 85074851038475807100944381768229716089) c cs_ok (by kernel_rfl) (by kernel_rfl) (by kernel_rfl)
theorem ns_is_of {K : PySem.W.Frag} (c : globK K exp = true) : PySem.W.nsIn K mainGlobals "is_of" = some (some (.ref 218)) := glob_ref (i := 37) (k := 40566850203740981626960959504486) c cs_ok (by kernel_rfl) (by kernel_rfl) (by kernel_rfl)
theorem ns_met {K : PySem.W.Frag} (c : globK K exp = true) : PySem.W.nsIn K mainGlobals "met" = some (some (.ref 422)) := glob_ref (i := 86) (k := 9223851424136298612) c cs_ok (by kernel_rfl) (by kernel_rfl) (by kernel_rfl)
theorem ns_meets {K : PySem.W.Frag} (c : globK K exp = true) : PySem.W.nsIn K mainGlobals "meets" = some (some (.ref 429)) := glob_ref (i := 87) (k := 40566927574864309781100463390835) c cs_ok (by kernel_rfl) (by kernel_rfl) (by kernel_rfl)
theorem ns_check_plan {K : PySem.W.Frag} (c : globK K exp = true) : PySem.W.nsIn K mainGlobals "check_plan" = some (some (.ref 434)) := glob_ref (i := 88) (k := 1645582236494092489940730152151382833921454270522038861185417326) c cs_ok (by kernel_rfl) (by kernel_rfl) (by kernel_rfl)
theorem ns_start_of {K : PySem.W.Frag} (c : globK K exp = true) : PySem.W.nsIn K mainGlobals "start_of" = some (some (.ref 276)) := glob_ref (i := 59) (k := 374164935852161987808930413666806104043496730001510) c cs_ok (by kernel_rfl) (by kernel_rfl) (by kernel_rfl)
theorem ns_all_rules {K : PySem.W.Frag} (c : globK K exp = true) : PySem.W.nsIn K mainGlobals "all_rules" = some (some (.ref 355)) := glob_ref (i := 73) (k := 784674008951261149499896730722379462442913748567472472179) c cs_ok (by kernel_rfl) (by kernel_rfl) (by kernel_rfl)
theorem ns_start {K : PySem.W.Frag} (c : globK K exp = true) : PySem.W.nsIn K mainGlobals "start" = some (some (.ref 360)) := glob_ref (i := 74) (k := 40567043631881343348461866582132) c cs_ok (by kernel_rfl) (by kernel_rfl) (by kernel_rfl)
theorem ns_begins {K : PySem.W.Frag} (c : globK K exp = true) : PySem.W.nsIn K mainGlobals "begins" = some (some (.ref 197)) := glob_ref (i := 34) (k := 85074567084470556667751767856675553395) c cs_ok (by kernel_rfl) (by kernel_rfl) (by kernel_rfl)
theorem ns_ends {K : PySem.W.Frag} (c : globK K exp = true) : PySem.W.nsIn K mainGlobals "ends" = some (some (.ref 204)) := glob_ref (i := 35) (k := 19343744674893574453592179) c cs_ok (by kernel_rfl) (by kernel_rfl) (by kernel_rfl)
theorem ns_behind_rest {K : PySem.W.Frag} (c : globK K exp = true) : PySem.W.nsIn K mainGlobals "behind_rest" = some (some (.ref 290)) := glob_ref (i := 61) (k := 3451034432921147820229804287695114017168193024988859911424015578693748) c cs_ok (by kernel_rfl) (by kernel_rfl) (by kernel_rfl)
theorem ns_worth_of {K : PySem.W.Frag} (c : globK K exp = true) : PySem.W.nsIn K mainGlobals "worth_of" = some (some (.ref 190)) := glob_ref (i := 33) (k := 374165649475582988519821734940133952149673088122982) c cs_ok (by kernel_rfl) (by kernel_rfl) (by kernel_rfl)
theorem ns_measure_of {K : PySem.W.Frag} (c : globK K exp = true) : PySem.W.nsIn K mainGlobals "measure_of" = some (some (.ref 232)) := glob_ref (i := 39) (k := 1645590082870139289320592328223874805337245542995107478075605094) c cs_ok (by kernel_rfl) (by kernel_rfl) (by kernel_rfl)
theorem ns_shifted {K : PySem.W.Frag} (c : globK K exp = true) : PySem.W.nsIn K mainGlobals "shifted" = some (some (.ref 283)) := glob_ref (i := 60) (k := 178415744710512705341666183386366529952022628) c cs_ok (by kernel_rfl) (by kernel_rfl) (by kernel_rfl)
theorem ns_behind_window {K : PySem.W.Frag} (c : globK K exp = true) : PySem.W.nsIn K mainGlobals "behind_window" = some (some (.ref 297)) := glob_ref (i := 62) (k := 15177809947408625289900745339014236080874057291512486046078409911314427136006160503) c cs_ok (by kernel_rfl) (by kernel_rfl) (by kernel_rfl)
theorem ns_behind_row {K : PySem.W.Frag} (c : globK K exp = true) : PySem.W.nsIn K mainGlobals "behind_row" = some (some (.ref 304)) := glob_ref (i := 63) (k := 1645581451855253133883382934424931534370514404768400150045393015) c cs_ok (by kernel_rfl) (by kernel_rfl) (by kernel_rfl)
theorem ns_behind_free {K : PySem.W.Frag} (c : globK K exp = true) : PySem.W.nsIn K mainGlobals "behind_free" = some (some (.ref 311)) := glob_ref (i := 64) (k := 3451034432921147820229804287695114017168193024988749231016747896668261) c cs_ok (by kernel_rfl) (by kernel_rfl) (by kernel_rfl)
theorem ns_behind_kinds {K : PySem.W.Frag} (c : globK K exp = true) : PySem.W.nsIn K mainGlobals "behind_kinds" = some (some (.ref 318)) := glob_ref (i := 65) (k := 7237343763069450993490574521548383751332310338741302141307793746578336907379) c cs_ok (by kernel_rfl) (by kernel_rfl) (by kernel_rfl)
theorem ns_behind_account {K : PySem.W.Frag} (c : globK K exp = true) : PySem.W.nsIn K mainGlobals "behind_account" = some (some (.ref 325)) := glob_ref (i := 66) (k := 31830174486827893343965927889204383225477190997008121583243975212769162096645408685031540) c cs_ok (by kernel_rfl) (by kernel_rfl) (by kernel_rfl)
theorem ns_behind_not {K : PySem.W.Frag} (c : globK K exp = true) : PySem.W.nsIn K mainGlobals "behind_not" = some (some (.ref 330)) := glob_ref (i := 67) (k := 1645581451855253133883382934424931534370514404768382557859348596) c cs_ok (by kernel_rfl) (by kernel_rfl) (by kernel_rfl)
theorem ns_stood {K : PySem.W.Frag} (c : globK K exp = true) : PySem.W.nsIn K mainGlobals "stood" = some (some (.ref 337)) := glob_ref (i := 68) (k := 40567043631881343410034511446116) c cs_ok (by kernel_rfl) (by kernel_rfl) (by kernel_rfl)
theorem ns_parts_behind {K : PySem.W.Frag} (c : globK K exp = true) : PySem.W.nsIn K mainGlobals "parts_behind" = some (some (.ref 365)) := glob_ref (i := 75) (k := 7237392075287296517054183025493653521780190923039078254155877041906791743588) c cs_ok (by kernel_rfl) (by kernel_rfl) (by kernel_rfl)
theorem ns_behind {K : PySem.W.Frag} (c : globK K exp = true) : PySem.W.nsIn K mainGlobals "behind" = some (some (.ref 372)) := glob_ref (i := 76) (k := 85074567084470556676975139893530329188) c cs_ok (by kernel_rfl) (by kernel_rfl) (by kernel_rfl)
theorem ns_behind_all {K : PySem.W.Frag} (c : globK K exp = true) : PySem.W.nsIn K mainGlobals "behind_all" = some (some (.ref 379)) := glob_ref (i := 77) (k := 1645581451855253133883382934424931534370514404768325383248412780) c cs_ok (by kernel_rfl) (by kernel_rfl) (by kernel_rfl)
theorem ns_standings_of {K : PySem.W.Frag} (c : globK K exp = true) : PySem.W.nsIn K mainGlobals "standings_of" = some (some (.ref 439)) := glob_ref (i := 89) (k := 7237402427938081276150123659862503699795907103424245350588017898589555523686) c cs_ok (by kernel_rfl) (by kernel_rfl) (by kernel_rfl)
theorem ns_is_right_plan {K : PySem.W.Frag} (c : globK K exp = true) : PySem.W.nsIn K mainGlobals "is_right_plan" = some (some (.ref 446)) := glob_ref (i := 90) (k := 15177860606495978825354243143678947881930254042209519706681938370498387230026891374) c cs_ok (by kernel_rfl) (by kernel_rfl) (by kernel_rfl)
theorem ns_right_standings {K : PySem.W.Frag} (c : globK K exp = true) : PySem.W.nsIn K mainGlobals "right_standings" = some (some (.ref 453)) := glob_ref (i := 91) (k := 66753223344454882199251445721393523633370105740795669698005160067265001344000479025624000757875) c cs_ok (by kernel_rfl) (by kernel_rfl) (by kernel_rfl)
theorem ns_joint_of {K : PySem.W.Frag} (c : globK K exp = true) : PySem.W.nsIn K mainGlobals "joint_of" = some (some (.ref 460)) := glob_ref (i := 92) (k := 374163330198082340969931526302935526549067428528230) c cs_ok (by kernel_rfl) (by kernel_rfl) (by kernel_rfl)
theorem ns__law_kind {K : PySem.W.Frag} (c : globK K exp = true) : PySem.W.nsIn K mainGlobals "_law_kind" = some (some (.ref 509)) := glob_ref (i := 99) (k := 784673260662422835141827074958457798920511282928930521188) c cs_ok (by kernel_rfl) (by kernel_rfl) (by kernel_rfl)
theorem ns__law_asked {K : PySem.W.Frag} (c : globK K exp = true) : PySem.W.nsIn K mainGlobals "_law_asked" = some (some (.ref 645)) := glob_ref (i := 121) (k := 1645579097944721373563352933903279689728320039112339006827790436) c cs_ok (by kernel_rfl) (by kernel_rfl) (by kernel_rfl)
theorem ns_law {K : PySem.W.Frag} (c : globK K exp = true) : PySem.W.nsIn K mainGlobals "law" = some (some (.ref 650)) := glob_ref (i := 122) (k := 9223847026081398903) c cs_ok (by kernel_rfl) (by kernel_rfl) (by kernel_rfl)
theorem ns_LENGTHS {K : PySem.W.Frag} (c : globK K exp = true) : PySem.W.nsIn K mainGlobals "LENGTHS" = some (some (.ref 238)) := glob_ref (i := 53) (k := 178412426956015456997135558556074079101648979) c cs_ok (by kernel_rfl) (by kernel_rfl) (by kernel_rfl)
theorem ns_NO_OVERLAP {K : PySem.W.Frag} (c : globK K exp = true) : PySem.W.nsIn K mainGlobals "NO_OVERLAP" = some (some (.ref 338)) := glob_ref (i := 70) (k := 1645565759092683488354369833585486953675429208734247299261136976) c cs_ok (by kernel_rfl) (by kernel_rfl) (by kernel_rfl)
theorem ns_BadNumber {K : PySem.W.Frag} (c : globK K exp = true) : PySem.W.nsIn K mainGlobals "BadNumber" = some (some (.ref 121)) := glob_ref (i := 17) (k := 784662410472304825196301747999346460094887556129287569522) c cs_ok (by kernel_rfl) (by kernel_rfl) (by kernel_rfl)
theorem ns_NoAnswer {K : PySem.W.Frag} (c : globK K exp = true) : PySem.W.nsIn K mainGlobals "NoAnswer" = some (some (.ref 133)) := glob_ref (i := 18) (k := 374158334831157868487755054009899596133826226552946) c cs_ok (by kernel_rfl) (by kernel_rfl) (by kernel_rfl)
theorem ns_NotCalendar {K : PySem.W.Frag} (c : globK K exp = true) : PySem.W.nsIn K mainGlobals "NotCalendar" = some (some (.ref 37)) := glob_ref (i := 10) (k := 3451001522837847777767920789719145100981413352246754284234313645949042) c cs_ok (by kernel_rfl) (by kernel_rfl) (by kernel_rfl)
theorem ns_NotDemand {K : PySem.W.Frag} (c : globK K exp = true) : PySem.W.nsIn K mainGlobals "NotDemand" = some (some (.ref 85)) := glob_ref (i := 14) (k := 784666900207832390553430961546256860773129156958024106084) c cs_ok (by kernel_rfl) (by kernel_rfl) (by kernel_rfl)
theorem ns_NotDuties {K : PySem.W.Frag} (c : globK K exp = true) : PySem.W.nsIn K mainGlobals "NotDuties" = some (some (.ref 49)) := glob_ref (i := 11) (k := 784666900207832390553430961546566345847514141469085532275) c cs_ok (by kernel_rfl) (by kernel_rfl) (by kernel_rfl)
theorem ns_NotRoster {K : PySem.W.Frag} (c : globK K exp = true) : PySem.W.nsIn K mainGlobals "NotRoster" = some (some (.ref 73)) := glob_ref (i := 13) (k := 784666900207832390553431529453919191206379683933006594162) c cs_ok (by kernel_rfl) (by kernel_rfl) (by kernel_rfl)
theorem ns_NotRule {K : PySem.W.Frag} (c : globK K exp = true) : PySem.W.nsIn K mainGlobals "NotRule" = some (some (.ref 61)) := glob_ref (i := 12) (k := 178412597098902640608101030341921443328032869) c cs_ok (by kernel_rfl) (by kernel_rfl) (by kernel_rfl)
theorem ns_NotProgram {K : PySem.W.Frag} (c : globK K exp = true) : PySem.W.nsIn K mainGlobals "NotProgram" = some (some (.ref 97)) := glob_ref (i := 15) (k := 1645565759104656113513909868716283773587860372895597040859349101) c cs_ok (by kernel_rfl) (by kernel_rfl) (by kernel_rfl)
theorem ns_NotPaper {K : PySem.W.Frag} (c : globK K exp = true) : PySem.W.nsIn K mainGlobals "NotPaper" = some (some (.ref 109)) := glob_ref (i := 16) (k := 374158334831157870556560253297810543626992287219826) c cs_ok (by kernel_rfl) (by kernel_rfl) (by kernel_rfl)
theorem ns_TooLarge {K : PySem.W.Frag} (c : globK K exp = true) : PySem.W.nsIn K mainGlobals "TooLarge" = some (some (.ref 145)) := glob_ref (i := 19) (k := 374159405266927399823646873604518471181400977440869) c cs_ok (by kernel_rfl) (by kernel_rfl) (by kernel_rfl)
theorem ns_HoursError {K : PySem.W.Frag} (c : globK K exp = true) : PySem.W.nsIn K mainGlobals "HoursError" = some (some (.ref 24)) := glob_ref (i := 9) (k := 1645561051278354573681745845862620744954082735011273249443020914) c cs_ok (by kernel_rfl) (by kernel_rfl) (by kernel_rfl)
theorem ns_ACCOUNT {K : PySem.W.Frag} (c : globK K exp = true) : ∃ t, PySem.W.nsIn K mainGlobals "ACCOUNT" = some (some (.str "account" t)) := glob_str (i := 51) (k := 178411491179425294565175557129013810882936916) c cs_ok (by kernel_rfl) (by kernel_rfl) (by kernel_rfl)
theorem ns_BEHIND {K : PySem.W.Frag} (c : globK K exp = true) : ∃ t, PySem.W.nsIn K mainGlobals "BEHIND" = some (some (.str "behind" t)) := glob_str (i := 49) (k := 85073269009636952655277271215090171972) c cs_ok (by kernel_rfl) (by kernel_rfl) (by kernel_rfl)
theorem ns_FREE {K : PySem.W.Frag} (c : globK K exp = true) : ∃ t, PySem.W.nsIn K mainGlobals "FREE" = some (some (.int 0 t)) := glob_int (i := 24) (k := 19343458750237286588219461) c cs_ok (by kernel_rfl) (by kernel_rfl) (by kernel_rfl)
theorem ns_HOURS {K : PySem.W.Frag} (c : globK K exp = true) : ∃ t, PySem.W.nsIn K mainGlobals "HOURS" = some (some (.int 24 t)) := glob_int (i := 23) (k := 40566211890576183665449416786003) c cs_ok (by kernel_rfl) (by kernel_rfl) (by kernel_rfl)
theorem ns_KINDS {K : PySem.W.Frag} (c : globK K exp = true) : ∃ t, PySem.W.nsIn K mainGlobals "KINDS" = some (some (.str "kinds" t)) := glob_str (i := 50) (k := 40566269918960184904642319089747) c cs_ok (by kernel_rfl) (by kernel_rfl) (by kernel_rfl)
theorem ns_LEAST {K : PySem.W.Frag} (c : globK K exp = true) : ∃ t, PySem.W.nsIn K mainGlobals "LEAST" = some (some (.str "least" t)) := glob_str (i := 47) (k := 40566289261736405193387122098260) c cs_ok (by kernel_rfl) (by kernel_rfl) (by kernel_rfl)
theorem ns_LETTERS {K : PySem.W.Frag} (c : globK K exp = true) : ∃ t, PySem.W.nsIn K mainGlobals "LETTERS" = some (some (.str "abcdefghijklmnopqrstuvwxyz" t)) := glob_str (i := 20) (k := 178412426956015457113192557142848988308832339) c cs_ok (by kernel_rfl) (by kernel_rfl) (by kernel_rfl)
theorem ns_MOST {K : PySem.W.Frag} (c : globK K exp = true) : ∃ t, PySem.W.nsIn K mainGlobals "MOST" = some (some (.str "most" t)) := glob_str (i := 46) (k := 19343523313828350461476948) c cs_ok (by kernel_rfl) (by kernel_rfl) (by kernel_rfl)
theorem ns_MOST_DAYS {K : PySem.W.Frag} (c : globK K exp = true) : ∃ t, PySem.W.nsIn K mainGlobals "MOST_DAYS" = some (some (.int 14 t)) := glob_int (i := 42) (k := 784666526057704240264131183817955477550649800844365529171) c cs_ok (by kernel_rfl) (by kernel_rfl) (by kernel_rfl)
theorem ns_MOST_DUTIES {K : PySem.W.Frag} (c : globK K exp = true) : ∃ t, PySem.W.nsIn K mainGlobals "MOST_DUTIES" = some (some (.int 7 t)) := glob_int (i := 22) (k := 3450999877308182037273569112424328390312041938907890408644170599104595) c cs_ok (by kernel_rfl) (by kernel_rfl) (by kernel_rfl)
theorem ns_MOST_PERSONS {K : PySem.W.Frag} (c : globK K exp = true) : ∃ t, PySem.W.nsIn K mainGlobals "MOST_PERSONS" = some (some (.int 6 t)) := glob_int (i := 78) (k := 7237271294696608575832340011258905133420525827990229574271616012452074881107) c cs_ok (by kernel_rfl) (by kernel_rfl) (by kernel_rfl)
theorem ns_MOST_PHASES {K : PySem.W.Frag} (c : globK K exp = true) : ∃ t, PySem.W.nsIn K mainGlobals "MOST_PHASES" = some (some (.int 14 t)) := glob_int (i := 21) (k := 3450999877308182037273569112424328390798819517938784774951316515455059) c cs_ok (by kernel_rfl) (by kernel_rfl) (by kernel_rfl)
theorem ns_MOST_REST {K : PySem.W.Frag} (c : globK K exp = true) : ∃ t, PySem.W.nsIn K mainGlobals "MOST_REST" = some (some (.int 72 t)) := glob_int (i := 41) (k := 784666526057704240264131183817955477679777026952505851988) c cs_ok (by kernel_rfl) (by kernel_rfl) (by kernel_rfl)
theorem ns_MOST_RULES {K : PySem.W.Frag} (c : globK K exp = true) : ∃ t, PySem.W.nsIn K mainGlobals "MOST_RULES" = some (some (.int 6 t)) := glob_int (i := 69) (k := 1645564974454966562878403240406192965927099899201423355827716179) c cs_ok (by kernel_rfl) (by kernel_rfl) (by kernel_rfl)
theorem ns_MOST_SETS {K : PySem.W.Frag} (c : globK K exp = true) : ∃ t, PySem.W.nsIn K mainGlobals "MOST_SETS" = some (some (.int 6 t)) := glob_int (i := 44) (k := 784666526057704240264131183817955477689000398989362724947) c cs_ok (by kernel_rfl) (by kernel_rfl) (by kernel_rfl)
theorem ns_MOST_SUM {K : PySem.W.Frag} (c : globK K exp = true) : ∃ t, PySem.W.nsIn K mainGlobals "MOST_SUM" = some (some (.int 400 t)) := glob_int (i := 43) (k := 374158156422474022037568656834581126064777598074957) c cs_ok (by kernel_rfl) (by kernel_rfl) (by kernel_rfl)
theorem ns_MOST_TRIPLES {K : PySem.W.Frag} (c : globK K exp = true) : ∃ t, PySem.W.nsIn K mainGlobals "MOST_TRIPLES" = some (some (.int 4 t)) := glob_int (i := 79) (k := 7237271294696608575832340011258905133760808722253643647332727006606496104531) c cs_ok (by kernel_rfl) (by kernel_rfl) (by kernel_rfl)
theorem ns_OF_DAYS {K : PySem.W.Frag} (c : globK K exp = true) : ∃ t, PySem.W.nsIn K mainGlobals "OF_DAYS" = some (some (.str "days" t)) := glob_str (i := 26) (k := 178412682167831212849018254692857009538072659) c cs_ok (by kernel_rfl) (by kernel_rfl) (by kernel_rfl)
theorem ns_OF_HOURS {K : PySem.W.Frag} (c : globK K exp = true) : ∃ t, PySem.W.nsIn K mainGlobals "OF_HOURS" = some (some (.str "hours" t)) := glob_str (i := 25) (k := 374158513233631563688744408237016045793979112882259) c cs_ok (by kernel_rfl) (by kernel_rfl) (by kernel_rfl)
theorem ns_REST {K : PySem.W.Frag} (c : globK K exp = true) : ∃ t, PySem.W.nsIn K mainGlobals "REST" = some (some (.str "rest" t)) := glob_str (i := 45) (k := 19343569430644554270244948) c cs_ok (by kernel_rfl) (by kernel_rfl) (by kernel_rfl)
theorem ns_ROW {K : PySem.W.Frag} (c : globK K exp = true) : ∃ t, PySem.W.nsIn K mainGlobals "ROW" = some (some (.str "row" t)) := glob_str (i := 48) (k := 9223732676834361431) c cs_ok (by kernel_rfl) (by kernel_rfl) (by kernel_rfl)
theorem no_all {K : PySem.W.Frag} (c : globK K exp = true) : PySem.W.nsIn K mainGlobals "all" = some none := glob_no (k := 9223798647592845420) c cs_ok (by kernel_rfl) (by kernel_rfl)
theorem no_enumerate {K : PySem.W.Frag} (c : globK K exp = true) : PySem.W.nsIn K mainGlobals "enumerate" = some none := glob_no (k := 784675505529294589033297354745241723850302979913623273573) c cs_ok (by kernel_rfl) (by kernel_rfl)
theorem no_int {K : PySem.W.Frag} (c : globK K exp = true) : PySem.W.nsIn K mainGlobals "int" = some none := glob_no (k := 9223833831969128564) c cs_ok (by kernel_rfl) (by kernel_rfl)
theorem no_isinstance {K : PySem.W.Frag} (c : globK K exp = true) : PySem.W.nsIn K mainGlobals "isinstance" = some none := glob_no (k := 1645586944324509619275651633740925308229970273043618122803708005) c cs_ok (by kernel_rfl) (by kernel_rfl)
theorem no_len {K : PySem.W.Frag} (c : globK K exp = true) : PySem.W.nsIn K mainGlobals "len" = some none := glob_no (k := 9223847026089787502) c cs_ok (by kernel_rfl) (by kernel_rfl)
theorem no_max {K : PySem.W.Frag} (c : globK K exp = true) : PySem.W.nsIn K mainGlobals "max" = some none := glob_no (k := 9223851424127910008) c cs_ok (by kernel_rfl) (by kernel_rfl)
theorem no_min {K : PySem.W.Frag} (c : globK K exp = true) : PySem.W.nsIn K mainGlobals "min" = some none := glob_no (k := 9223851424144687214) c cs_ok (by kernel_rfl) (by kernel_rfl)
theorem no_range {K : PySem.W.Frag} (c : globK K exp = true) : PySem.W.nsIn K mainGlobals "range" = some none := glob_no (k := 40567024288892985502869412118629) c cs_ok (by kernel_rfl) (by kernel_rfl)
theorem no_repr {K : PySem.W.Frag} (c : globK K exp = true) : PySem.W.nsIn K mainGlobals "repr" = some none := glob_no (k := 19343864578690471172243570) c cs_ok (by kernel_rfl) (by kernel_rfl)
theorem no_sorted {K : PySem.W.Frag} (c : globK K exp = true) : PySem.W.nsIn K mainGlobals "sorted" = some none := glob_no (k := 85075256686590509057141663515067547748) c cs_ok (by kernel_rfl) (by kernel_rfl)
theorem no_sum {K : PySem.W.Frag} (c : globK K exp = true) : PySem.W.nsIn K mainGlobals "sum" = some none := glob_no (k := 9223877812448919661) c cs_ok (by kernel_rfl) (by kernel_rfl)
theorem no_tuple {K : PySem.W.Frag} (c : globK K exp = true) : PySem.W.nsIn K mainGlobals "tuple" = some none := glob_no (k := 40567062974703680620536201740389) c cs_ok (by kernel_rfl) (by kernel_rfl)
theorem no_zip {K : PySem.W.Frag} (c : globK K exp = true) : PySem.W.nsIn K mainGlobals "zip" = some none := glob_no (k := 9223908598749331568) c cs_ok (by kernel_rfl) (by kernel_rfl)
theorem kind_at {K : PySem.W.Frag} (c : globK K exp = true) {x : PySem.Str} (h : kindGood x = true) : ∃ a, (x, a) ∈ kindsA ∧ PySem.W.nsIn K mainGlobals x = some (some (.ref a)) := by
  obtain ⟨q, hq, e⟩ := List.any_eq_true.mp h
  have e := eq_of_beq e
  subst e
  simp only [kindNames, List.mem_cons, List.not_mem_nil, or_false] at hq
  rcases hq with rfl | rfl | rfl | rfl | rfl | rfl | rfl | rfl | rfl | rfl
  · exact ⟨37, List.mem_of_getElem? (i := 0) rfl, ns_NotCalendar c⟩
  · exact ⟨49, List.mem_of_getElem? (i := 1) rfl, ns_NotDuties c⟩
  · exact ⟨61, List.mem_of_getElem? (i := 2) rfl, ns_NotRule c⟩
  · exact ⟨73, List.mem_of_getElem? (i := 3) rfl, ns_NotRoster c⟩
  · exact ⟨85, List.mem_of_getElem? (i := 4) rfl, ns_NotDemand c⟩
  · exact ⟨97, List.mem_of_getElem? (i := 5) rfl, ns_NotProgram c⟩
  · exact ⟨109, List.mem_of_getElem? (i := 6) rfl, ns_NotPaper c⟩
  · exact ⟨121, List.mem_of_getElem? (i := 7) rfl, ns_BadNumber c⟩
  · exact ⟨133, List.mem_of_getElem? (i := 8) rfl, ns_NoAnswer c⟩
  · exact ⟨145, List.mem_of_getElem? (i := 9) rfl, ns_TooLarge c⟩
theorem kind_fact {K : PySem.W.Frag} (c : exK K = true) {q : PySem.Str × Addr} (hq : q ∈ kindsA) : ExcC K q.2 ∧ PySem.W.exmOne K (.ref q.2) (.ref 24) = some true ∧ ∀ r ∈ kindsA, PySem.W.kitOne K (.ref q.2) (.ref r.2) = some (q.1 == r.1) := by
  have h := List.all_eq_true.mp c q hq
  simp only [Bool.and_eq_true, decide_eq_true_eq] at h
  exact ⟨excB_ok h.1, h.2.1, fun r hr => of_decide_eq_true (List.all_eq_true.mp h.2.2 r hr)⟩
theorem txt {w : World} {K : PySem.W.Frag} {h : Heap} {mg : MG} (X : K.In h) (G : h.Ns mainGlobals mg) (c : SaysL exp dsA tsA exB w K) : Txt w K mg where
  f_is_letter := c.fn 0 (st := s_is_letter) X G rfl (ns_is_letter c.glob)
  f_is_calendar := c.fn 1 (st := s_is_calendar) X G rfl (ns_is_calendar c.glob)
  f_is_duty := c.fn 2 (st := s_is_duty) X G rfl (ns_is_duty c.glob)
  f_is_duties := c.fn 3 (st := s_is_duties) X G rfl (ns_is_duties c.glob)
  f_is_sort := c.fn 4 (st := s_is_sort) X G rfl (ns_is_sort c.glob)
  f_is_measure := c.fn 5 (st := s_is_measure) X G rfl (ns_is_measure c.glob)
  f_is_window := c.fn 6 (st := s_is_window) X G rfl (ns_is_window c.glob)
  f_is_kinds := c.fn 7 (st := s_is_kinds) X G rfl (ns_is_kinds c.glob)
  f_is_account := c.fn 8 (st := s_is_account) X G rfl (ns_is_account c.glob)
  f_is_not := c.fn 9 (st := s_is_not) X G rfl (ns_is_not c.glob)
  f_fits := c.fn 10 (st := s_fits) X G rfl (ns_fits c.glob)
  f_is_book := c.fn 11 (st := s_is_book) X G rfl (ns_is_book c.glob)
  f_is_entry := c.fn 12 (st := s_is_entry) X G rfl (ns_is_entry c.glob)
  f_is_demand := c.fn 13 (st := s_is_demand) X G rfl (ns_is_demand c.glob)
  f_is_crew := c.fn 14 (st := s_is_crew) X G rfl (ns_is_crew c.glob)
  f_is_house := c.fn 15 (st := s_is_house) X G rfl (ns_is_house c.glob)
  f__law_number := c.fn 16 (st := s__law_number) X G rfl (ns__law_number c.glob)
  f__law_draws := c.fn 17 (st := s__law_draws) X G rfl (ns__law_draws c.glob)
  f__law_flat := c.fn 18 (st := s__law_flat) X G rfl (ns__law_flat c.glob)
  f__law_next := c.fn 19 (st := s__law_next) X G rfl (ns__law_next c.glob)
  f__law_more := c.fn 20 (st := s__law_more) X G rfl (ns__law_more c.glob)
  f__law_pick := c.fn 21 (st := s__law_pick) X G rfl (ns__law_pick c.glob)
  f__law_begin := c.fn 22 (st := s__law_begin) X G rfl (ns__law_begin c.glob)
  f__law_rules := c.fn 23 (st := s__law_rules) X G rfl (ns__law_rules c.glob)
  f__law_first := c.fn 24 (st := s__law_first) X G rfl (ns__law_first c.glob)
  f__law_worth := c.fn 25 (st := s__law_worth) X G rfl (ns__law_worth c.glob)
  f__law_has := c.fn 26 (st := s__law_has) X G rfl (ns__law_has c.glob)
  f__law_free := c.fn 27 (st := s__law_free) X G rfl (ns__law_free c.glob)
  f__law_value := c.fn 28 (st := s__law_value) X G rfl (ns__law_value c.glob)
  f__law_last := c.fn 29 (st := s__law_last) X G rfl (ns__law_last c.glob)
  f__law_window := c.fn 30 (st := s__law_window) X G rfl (ns__law_window c.glob)
  f__law_part := c.fn 31 (st := s__law_part) X G rfl (ns__law_part c.glob)
  f__law_step := c.fn 32 (st := s__law_step) X G rfl (ns__law_step c.glob)
  f__law_moves := c.fn 33 (st := s__law_moves) X G rfl (ns__law_moves c.glob)
  f__law_duty := c.fn 34 (st := s__law_duty) X G rfl (ns__law_duty c.glob)
  f__law_measure := c.fn 35 (st := s__law_measure) X G rfl (ns__law_measure c.glob)
  f__law_rule := c.fn 36 (st := s__law_rule) X G rfl (ns__law_rule c.glob)
  f__law_any_book := c.fn 37 (st := s__law_any_book) X G rfl (ns__law_any_book c.glob)
  f__law_entry := c.fn 38 (st := s__law_entry) X G rfl (ns__law_entry c.glob)
  f__law_demand := c.fn 39 (st := s__law_demand) X G rfl (ns__law_demand c.glob)
  f__law_met := c.fn 40 (st := s__law_met) X G rfl (ns__law_met c.glob)
  f__law_behind := c.fn 41 (st := s__law_behind) X G rfl (ns__law_behind c.glob)
  f__law_standings := c.fn 42 (st := s__law_standings) X G rfl (ns__law_standings c.glob)
  f_check_calendar := c.fn 43 (st := s_check_calendar) X G rfl (ns_check_calendar c.glob)
  f_check_duties := c.fn 44 (st := s_check_duties) X G rfl (ns_check_duties c.glob)
  f_check_book := c.fn 45 (st := s_check_book) X G rfl (ns_check_book c.glob)
  f_check_house := c.fn 46 (st := s_check_house) X G rfl (ns_check_house c.glob)
  f_is_row := c.fn 47 (st := s_is_row) X G rfl (ns_is_row c.glob)
  f_is_day := c.fn 48 (st := s_is_day) X G rfl (ns_is_day c.glob)
  f_is_of := c.fn 49 (st := s_is_of) X G rfl (ns_is_of c.glob)
  f_met := c.fn 50 (st := s_met) X G rfl (ns_met c.glob)
  f_meets := c.fn 51 (st := s_meets) X G rfl (ns_meets c.glob)
  f_check_plan := c.fn 52 (st := s_check_plan) X G rfl (ns_check_plan c.glob)
  f_start_of := c.fn 53 (st := s_start_of) X G rfl (ns_start_of c.glob)
  f_all_rules := c.fn 54 (st := s_all_rules) X G rfl (ns_all_rules c.glob)
  f_start := c.fn 55 (st := s_start) X G rfl (ns_start c.glob)
  f_begins := c.fn 56 (st := s_begins) X G rfl (ns_begins c.glob)
  f_ends := c.fn 57 (st := s_ends) X G rfl (ns_ends c.glob)
  f_behind_rest := c.fn 58 (st := s_behind_rest) X G rfl (ns_behind_rest c.glob)
  f_worth_of := c.fn 59 (st := s_worth_of) X G rfl (ns_worth_of c.glob)
  f_measure_of := c.fn 60 (st := s_measure_of) X G rfl (ns_measure_of c.glob)
  f_shifted := c.fn 61 (st := s_shifted) X G rfl (ns_shifted c.glob)
  f_behind_window := c.fn 62 (st := s_behind_window) X G rfl (ns_behind_window c.glob)
  f_behind_row := c.fn 63 (st := s_behind_row) X G rfl (ns_behind_row c.glob)
  f_behind_free := c.fn 64 (st := s_behind_free) X G rfl (ns_behind_free c.glob)
  f_behind_kinds := c.fn 65 (st := s_behind_kinds) X G rfl (ns_behind_kinds c.glob)
  f_behind_account := c.fn 66 (st := s_behind_account) X G rfl (ns_behind_account c.glob)
  f_behind_not := c.fn 67 (st := s_behind_not) X G rfl (ns_behind_not c.glob)
  f_stood := c.fn 68 (st := s_stood) X G rfl (ns_stood c.glob)
  f_parts_behind := c.fn 69 (st := s_parts_behind) X G rfl (ns_parts_behind c.glob)
  f_behind := c.fn 70 (st := s_behind) X G rfl (ns_behind c.glob)
  f_behind_all := c.fn 71 (st := s_behind_all) X G rfl (ns_behind_all c.glob)
  f_standings_of := c.fn 72 (st := s_standings_of) X G rfl (ns_standings_of c.glob)
  f_is_right_plan := c.fn 73 (st := s_is_right_plan) X G rfl (ns_is_right_plan c.glob)
  f_right_standings := c.fn 74 (st := s_right_standings) X G rfl (ns_right_standings c.glob)
  f_joint_of := c.fn 75 (st := s_joint_of) X G rfl (ns_joint_of c.glob)
  f__law_kind := c.fn 76 (st := s__law_kind) X G rfl (ns__law_kind c.glob)
  f__law_asked := c.fn 77 (st := s__law_asked) X G rfl (ns__law_asked c.glob)
  f_law := c.fn 78 (st := s_law) X G rfl (ns_law c.glob)
  g_is_right_plan := ⟨_, PySem.W.mg_of X G (ns_is_right_plan c.glob)⟩
  g_joint_of := ⟨_, PySem.W.mg_of X G (ns_joint_of c.glob)⟩
  b_all := PySem.W.mg_none_of X G (no_all c.glob)
  b_enumerate := PySem.W.mg_none_of X G (no_enumerate c.glob)
  b_int := PySem.W.mg_none_of X G (no_int c.glob)
  b_isinstance := PySem.W.mg_none_of X G (no_isinstance c.glob)
  b_len := PySem.W.mg_none_of X G (no_len c.glob)
  b_max := PySem.W.mg_none_of X G (no_max c.glob)
  b_min := PySem.W.mg_none_of X G (no_min c.glob)
  b_range := PySem.W.mg_none_of X G (no_range c.glob)
  b_repr := PySem.W.mg_none_of X G (no_repr c.glob)
  b_sorted := PySem.W.mg_none_of X G (no_sorted c.glob)
  b_sum := PySem.W.mg_none_of X G (no_sum c.glob)
  b_tuple := PySem.W.mg_none_of X G (no_tuple c.glob)
  b_zip := PySem.W.mg_none_of X G (no_zip c.glob)
  c_ACCOUNT := let ⟨t, e⟩ := ns_ACCOUNT c.glob; ⟨t, PySem.W.mg_of X G e⟩
  c_BEHIND := let ⟨t, e⟩ := ns_BEHIND c.glob; ⟨t, PySem.W.mg_of X G e⟩
  c_FREE := let ⟨t, e⟩ := ns_FREE c.glob; ⟨t, PySem.W.mg_of X G e⟩
  c_HOURS := let ⟨t, e⟩ := ns_HOURS c.glob; ⟨t, PySem.W.mg_of X G e⟩
  c_KINDS := let ⟨t, e⟩ := ns_KINDS c.glob; ⟨t, PySem.W.mg_of X G e⟩
  c_LEAST := let ⟨t, e⟩ := ns_LEAST c.glob; ⟨t, PySem.W.mg_of X G e⟩
  c_LETTERS := let ⟨t, e⟩ := ns_LETTERS c.glob; ⟨t, PySem.W.mg_of X G e⟩
  c_MOST := let ⟨t, e⟩ := ns_MOST c.glob; ⟨t, PySem.W.mg_of X G e⟩
  c_MOST_DAYS := let ⟨t, e⟩ := ns_MOST_DAYS c.glob; ⟨t, PySem.W.mg_of X G e⟩
  c_MOST_DUTIES := let ⟨t, e⟩ := ns_MOST_DUTIES c.glob; ⟨t, PySem.W.mg_of X G e⟩
  c_MOST_PERSONS := let ⟨t, e⟩ := ns_MOST_PERSONS c.glob; ⟨t, PySem.W.mg_of X G e⟩
  c_MOST_PHASES := let ⟨t, e⟩ := ns_MOST_PHASES c.glob; ⟨t, PySem.W.mg_of X G e⟩
  c_MOST_REST := let ⟨t, e⟩ := ns_MOST_REST c.glob; ⟨t, PySem.W.mg_of X G e⟩
  c_MOST_RULES := let ⟨t, e⟩ := ns_MOST_RULES c.glob; ⟨t, PySem.W.mg_of X G e⟩
  c_MOST_SETS := let ⟨t, e⟩ := ns_MOST_SETS c.glob; ⟨t, PySem.W.mg_of X G e⟩
  c_MOST_SUM := let ⟨t, e⟩ := ns_MOST_SUM c.glob; ⟨t, PySem.W.mg_of X G e⟩
  c_MOST_TRIPLES := let ⟨t, e⟩ := ns_MOST_TRIPLES c.glob; ⟨t, PySem.W.mg_of X G e⟩
  c_OF_DAYS := let ⟨t, e⟩ := ns_OF_DAYS c.glob; ⟨t, PySem.W.mg_of X G e⟩
  c_OF_HOURS := let ⟨t, e⟩ := ns_OF_HOURS c.glob; ⟨t, PySem.W.mg_of X G e⟩
  c_REST := let ⟨t, e⟩ := ns_REST c.glob; ⟨t, PySem.W.mg_of X G e⟩
  c_ROW := let ⟨t, e⟩ := ns_ROW c.glob; ⟨t, PySem.W.mg_of X G e⟩
  t_LENGTHS := dtab_of (PySem.W.mg_of X G (ns_LENGTHS c.glob)) (c.tabs 0 _ rfl) (Bool.and_eq_true_iff.mp (Bool.and_eq_true_iff.mp c.more).2).1
  q_NO_OVERLAP := gtup_of (PySem.W.mg_of X G (ns_NO_OVERLAP c.glob)) (Bool.and_eq_true_iff.mp (Bool.and_eq_true_iff.mp (Bool.and_eq_true_iff.mp c.more).2).2).1
  e_BadNumber := excA_ok (Bool.and_eq_true_iff.mp (Bool.and_eq_true_iff.mp (Bool.and_eq_true_iff.mp (Bool.and_eq_true_iff.mp c.more).2).2).2).1 (PySem.W.mg_of X G (ns_BadNumber c.glob))
  e_NoAnswer := excA_ok (Bool.and_eq_true_iff.mp (Bool.and_eq_true_iff.mp (Bool.and_eq_true_iff.mp (Bool.and_eq_true_iff.mp (Bool.and_eq_true_iff.mp c.more).2).2).2).2).1 (PySem.W.mg_of X G (ns_NoAnswer c.glob))
  e_NotCalendar := excA_ok (Bool.and_eq_true_iff.mp (Bool.and_eq_true_iff.mp (Bool.and_eq_true_iff.mp (Bool.and_eq_true_iff.mp (Bool.and_eq_true_iff.mp (Bool.and_eq_true_iff.mp c.more).2).2).2).2).2).1 (PySem.W.mg_of X G (ns_NotCalendar c.glob))
  e_NotDemand := excA_ok (Bool.and_eq_true_iff.mp (Bool.and_eq_true_iff.mp (Bool.and_eq_true_iff.mp (Bool.and_eq_true_iff.mp (Bool.and_eq_true_iff.mp (Bool.and_eq_true_iff.mp (Bool.and_eq_true_iff.mp c.more).2).2).2).2).2).2).1 (PySem.W.mg_of X G (ns_NotDemand c.glob))
  e_NotDuties := excA_ok (Bool.and_eq_true_iff.mp (Bool.and_eq_true_iff.mp (Bool.and_eq_true_iff.mp (Bool.and_eq_true_iff.mp (Bool.and_eq_true_iff.mp (Bool.and_eq_true_iff.mp (Bool.and_eq_true_iff.mp (Bool.and_eq_true_iff.mp c.more).2).2).2).2).2).2).2).1 (PySem.W.mg_of X G (ns_NotDuties c.glob))
  e_NotRoster := excA_ok (Bool.and_eq_true_iff.mp (Bool.and_eq_true_iff.mp (Bool.and_eq_true_iff.mp (Bool.and_eq_true_iff.mp (Bool.and_eq_true_iff.mp (Bool.and_eq_true_iff.mp (Bool.and_eq_true_iff.mp (Bool.and_eq_true_iff.mp (Bool.and_eq_true_iff.mp c.more).2).2).2).2).2).2).2).2).1 (PySem.W.mg_of X G (ns_NotRoster c.glob))
  e_NotRule := excA_ok (Bool.and_eq_true_iff.mp (Bool.and_eq_true_iff.mp (Bool.and_eq_true_iff.mp (Bool.and_eq_true_iff.mp (Bool.and_eq_true_iff.mp (Bool.and_eq_true_iff.mp (Bool.and_eq_true_iff.mp (Bool.and_eq_true_iff.mp (Bool.and_eq_true_iff.mp c.more).2).2).2).2).2).2).2).2).2 (PySem.W.mg_of X G (ns_NotRule c.glob))
  excC := fun cls C gd m => by
    obtain ⟨a, h1, h2⟩ := kind_at c.glob gd
    cases m.symm.trans (PySem.W.mg_of X G h2)
    exact (kind_fact (Bool.and_eq_true_iff.mp c.more).1 h1).1
  kit := fun cls C gd m x gx => by
    obtain ⟨a, h1, h2⟩ := kind_at c.glob gd
    obtain ⟨b, h3, h4⟩ := kind_at c.glob gx
    cases m.symm.trans (PySem.W.mg_of X G h2)
    rw [ga_of h4]
    exact (kind_fact (Bool.and_eq_true_iff.mp c.more).1 h1).2.2 _ h3
  gx := fun x gd => by
    obtain ⟨a, h1, h2⟩ := kind_at c.glob gd
    rw [ga_of h2]
    exact PySem.W.mg_of X G h2
  cs := ⟨_, PySem.W.mg_of X G (ns_HoursError c.glob), fun cls C b hb m => by
    unfold kindSub at hb
    split at hb
    · next gd =>
      cases hb
      obtain ⟨a, h1, h2⟩ := kind_at c.glob gd
      cases m.symm.trans (PySem.W.mg_of X G h2)
      exact (kind_fact (Bool.and_eq_true_iff.mp c.more).1 h1).2.1
    · cases hb⟩
end Lw

set_option Elab.async false
set_option linter.all false
set_option autoImplicit false
set_option maxRecDepth 100000
set_option maxHeartbeats 0
open PySem PySem.W PySem.Calls PyProof.Rows in
theorem PySem.Challenge.cw_hoursheld_k13_houses_and_plans_holds : PySem.Challenge.rw_hoursheld_k13_houses_and_plans.Holds := by
  w_on; o_law
  refine HandSHeadRun.head_any (r := OpenLaw.row PySem.Challenge.rw_hoursheld_k13_houses_and_plans) (q := view (OpenLaw.row PySem.Challenge.rw_hoursheld_k13_houses_and_plans).prog [119]) (H := Lw.hk) (ob := Lw.ob) (M := 20000) (loose := Lw.loose) (d := HandSHeadRun.topDef (OpenLaw.row PySem.Challenge.rw_hoursheld_k13_houses_and_plans).prog 119) (kwd := []) Lw.ob_eq
    (by kernel_rfl) (fun s => by kernel_rfl) Lw.headRun (by kernel_rfl) (by kernel_rfl) (by kernel_rfl) (by rfl) (by first | assumption | decide +kernel) (by decide +kernel) ⟨rfl, rfl, rfl, rfl, rfl, by decide +kernel⟩ ?hw ?hc
  case hw => w_witness2
  case hc =>
    refine Fn.walk_ofG (l := PySem.Challenge.rw_hoursheld_k13_houses_and_plans) (n := 63) (k := 12) (x := "script") (CX := fun w => L2.CX (PySem.Challenge.rw_hoursheld_k13_houses_and_plans).prog w) rfl (by decide) (by kernel_rfl) ⟨rfl, by decide, by decide⟩ ?F (fun w H s e s' z => by
      obtain ⟨_, _, _, _, _, _, _, _, _, _, _, _, q⟩ := z
      exact q)
    intro w mg fa h Y G hmg0
    obtain ⟨K, KX, c⟩ := Y
    have hmg : mg ("law" : PySem.Str) = some (.ref fa) := by
      have e : (HandSHeadRun.topDef (OpenLaw.row PySem.Challenge.rw_hoursheld_k13_houses_and_plans).prog 119).name = ("law" : PySem.Str) := by kernel_rfl
      rw [← e]
      exact hmg0
    have T := Lw.txt KX G c
    obtain ⟨f, fd, F, hm⟩ := T.f_law
    cases hm.symm.trans hmg
    refine ⟨K, fd, Fn.spF K mg 1 Lw.d_law, KX, fun s v => ?_, fun base hb hn => ?_, fun H a ns hl hO hS => ?_⟩
    · obtain ⟨oc, od, kV, doc, pm, an, cdv, ct, osl, rfl, lk, hcd⟩ := F.ex
      exact .of_eq (by rfl)
    · exact Lw.ok_law T F hm
    · refine ⟨⟨[], []⟩, [], [.scr ns], ⟨rfl, List.nodup_nil, fun n a m z => (by cases z), fun a z => (by cases z), fun p z => (by cases z)⟩, ?_, rfl, ?_⟩
      · exact .cons (by simp only [Fn.RA, Fn.RD]; exact ⟨a, rfl, Fn.SqR.only hO hS, Nat.le_trans hl (by decide)⟩) .nil
      · obtain ⟨st, e⟩ := Lw.law_true ns hl
        rw [e]
        intro v H' μ' af rv
        simpa only [Fn.RA, Fn.RD] using rv

