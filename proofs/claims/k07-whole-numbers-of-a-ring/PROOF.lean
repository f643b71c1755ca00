import PyProof.Rows.All
import Wide.All
import OpenK.AllK
import Wide.FinOn
import HandS.List
import HandS.Comp
import HandS.Dict
import HandS.Iter
import HandS.Text
import HandS.More
import HandS.Conv
import HandS.Words
import HandS.WordsList
import HandS.Exc
import HandS.WordsExc
import HandS.Flow
import HandS.IsInst
import HandS.Defaults
import HandS.HeadHook1
import HandS.HeadHook2
import HandS.HeadHook3
import HandS.ExcOwn
import HandS.Style
import HandS.HeadEnd
import HandS.HeadHook4
import PySem.Challenge.RW_linewright_k07_whole_numbers_of_a_ring
import KE.KStateDown
import Lean
import Wide.Once
import HandS.Head0
import HandS.Head1
import HandS.Head2
import KE.KIntText
import PyProof.Rows.RegStrFacts
set_option Elab.async false
set_option linter.all false
set_option maxRecDepth 100000
set_option maxHeartbeats 4000000
/-! The domain: plain values, a store of changing objects, and how they stand in the abstract heap. -/
namespace Lw
open PySem PySem.Spec PyProof.Rows L2

/-- a value: tuples are values, changing things are places in the store, frl: a list that never changes (the script) -/
inductive D where
  | non | bl (b : Bool) | int (i : Int) | str (x : List Nat) | tup (xs : List D) | ref (n : Nat) | frl (xs : List D) | und
/-- a key of a dict -/
inductive Ky where
  | int (i : Int) | str (x : List Nat)
  deriving DecidableEq
def Ky.k : Ky → Key
  | .int i => .inl i
  | .str x => .inr ⟨x.toArray⟩
/-- a changing object -/
inductive O where
  | lst (xs : List D) | dic (kvs : List (Ky × D)) | ins (c : Nat) (fs : List (Nat × D))
abbrev Mu := List O
structure Exc where
  cls : Nat
  args : List (Nat × D)
inductive Res (α : Type) where
  | ok (a : α) (m : Mu) | exc (e : Exc) (m : Mu) | bad
/-- what a statement comes to -/
inductive RS where
  | nx (fr : List D) (m : Mu) | ret (d : D) (m : Mu) | brk (fr : List D) (m : Mu) | ct (fr : List D) (m : Mu) | exc (e : Exc) (fr : List D) (m : Mu) | bad
abbrev Fr := List D
abbrev EM := Fr → Mu → Res D
abbrev TM := Fr → Mu → Res Bool
abbrev AM := Fr → Mu → Res (List D)
abbrev SM := Fr → Mu → RS

/-- where the classes stand, and the fields' names -/
structure Cg where
  cA : Nat → Addr
  xA : Nat → Addr
  nf : Nat
  fnm : Nat → Str
  inj : ∀ a b, a < nf → b < nf → fnm a = fnm b → a = b

section
variable (K : PySem.W.Frag) (G : Cg)
/-- a list that never changes -/
def FL (H : Hp) (a : Addr) (xs : List V) : Prop :=
  (∃ o, H a = some (.frz o (.lst xs))) ∨
    ∃ (o : Obj) (its : Array Value) (n : Nat), K.lookup a = some o ∧ o.cls = .type "list" ∧ o.dict = none ∧ o.data = .seq its n ∧ its.size ≤ sizeLine ∧ Vals xs its.toList

inductive Rel (ρ : List Addr) (H : Hp) : D → V → Prop
  | non : Rel ρ H .non .non
  | bl (b : Bool) : Rel ρ H (.bl b) (.bl b)
  | int (i : Int) : Rel ρ H (.int i) (.int i)
  | str (x : List Nat) : Rel ρ H (.str x) (.str ⟨x.toArray⟩)
  | tup {a : Addr} {ds : List D} {vs : List V} : SqT K H a vs → vs.length = ds.length → (∀ (k : Nat) (d : D) (v : V), ds[k]? = some d → vs[k]? = some v → Rel ρ H d v) → Rel ρ H (.tup ds) (.ref a)
  | frl {a : Addr} {ds : List D} {vs : List V} : FL K H a vs → vs.length = ds.length → (∀ (k : Nat) (d : D) (v : V), ds[k]? = some d → vs[k]? = some v → Rel ρ H d v) → Rel ρ H (.frl ds) (.ref a)
  | ref {n : Nat} {a : Addr} : ρ[n]? = some a → Rel ρ H (.ref n) (.ref a)
abbrev Rels (ρ : List Addr) (H : Hp) : List D → List V → Prop := Paired (Rel K ρ H)

structure Grow (ρ : List Addr) (H : Hp) (ρ' : List Addr) (H' : Hp) : Prop where
  pre : ∀ (n : Nat) (a : Addr), ρ[n]? = some a → ρ'[n]? = some a
  tup : ∀ a vs, SqT K H a vs → SqT K H' a vs
  frl : ∀ a vs, FL K H a vs → FL K H' a vs

def FRel (ρ : List Addr) (H : Hp) : Nat × D → Str × V → Prop := fun p q => p.1 < G.nf ∧ q.1 = G.fnm p.1 ∧ Rel K ρ H p.2 q.2
def KRel (ρ : List Addr) (H : Hp) : Ky × D → Key × V → Prop := fun p q => q.1 = p.1.k ∧ Rel K ρ H p.2 q.2
def OOk (ρ : List Addr) (H : Hp) (a : Addr) : O → Prop
  | .lst xs => ∃ vs, H a = some (.lst vs) ∧ Rels K ρ H xs vs
  | .dic kvs => ∃ ks, H a = some (.dK ks) ∧ Paired (KRel K ρ H) kvs ks
  | .ins c ds => ∃ dx fs, H a = some (.ins (G.cA c) dx fs) ∧ Paired (FRel K G ρ H) ds fs
structure HRel (ρ : List Addr) (μ : Mu) (H : Hp) : Prop where
  len : ρ.length = μ.length
  inj : ∀ (i j : Nat) (a : Addr), ρ[i]? = some a → ρ[j]? = some a → i = j
  obj : ∀ (n : Nat) (a : Addr) (o : O), ρ[n]? = some a → μ[n]? = some o → OOk K G ρ H a o
/-- an exception that flies: its class, its own dict -/
def ERel (ρ : List Addr) (H : Hp) (e : Exc) (cls : Value) (dd : Option Addr) : Prop :=
  cls = .ref (G.xA e.cls) ∧ ((e.args = [] ∧ dd = none) ∨ ∃ d fs, dd = some d ∧ H d = some (.xd fs) ∧ Paired (FRel K G ρ H) e.args fs)
/-- the slots -/
def Lc (ρ : List Addr) (H : Hp) (σ : L2.St) (fr : Fr) : Prop :=
  σ.length = fr.length ∧ ∀ (k : Nat) (d : D), fr[k]? = some d → d = .und ∨ ∃ v, σ[k]? = some (some v) ∧ Rel K ρ H d v

def PostX (ρ : List Addr) (H : Hp) (E : XK) (e : Exc) (μ' : Mu) : Prop := ∀ cls dd ρ' H', Grow K ρ H ρ' H' → HRel K G ρ' μ' H' → ERel K G ρ' H' e cls dd → E cls dd H'
/-- what an expression's outcome promises -/
def PostE (E : XK) (ρ : List Addr) (H : Hp) (Q : VK) : Res D → Prop
  | .ok d μ' => ∀ v ρ' H', Grow K ρ H ρ' H' → HRel K G ρ' μ' H' → Rel K ρ' H' d v → Q v H'
  | .exc e μ' => PostX K G ρ H E e μ'
  | .bad => False
def PostT (E : XK) (ρ : List Addr) (H : Hp) (Q : Bool → Hp → Prop) : Res Bool → Prop
  | .ok b μ' => ∀ ρ' H', Grow K ρ H ρ' H' → HRel K G ρ' μ' H' → Q b H'
  | .exc e μ' => PostX K G ρ H E e μ'
  | .bad => False
def PostA (E : XK) (ρ : List Addr) (H : Hp) (Q : List V → Hp → Prop) : Res (List D) → Prop
  | .ok ds μ' => ∀ vs ρ' H', Grow K ρ H ρ' H' → HRel K G ρ' μ' H' → Rels K ρ' H' ds vs → Q vs H'
  | .exc e μ' => PostX K G ρ H E e μ'
  | .bad => False
def PostS (E : XK) (ρ : List Addr) (H : Hp) (Dn : Ends) : RS → Prop
  | .nx fr μ' => ∀ σ' ρ' H', Grow K ρ H ρ' H' → HRel K G ρ' μ' H' → Lc K ρ' H' σ' fr → Dn.nx σ' H'
  | .ret d μ' => ∀ v ρ' H', Grow K ρ H ρ' H' → HRel K G ρ' μ' H' → Rel K ρ' H' d v → Dn.rt v H'
  | .brk fr μ' => ∀ σ' ρ' H', Grow K ρ H ρ' H' → HRel K G ρ' μ' H' → Lc K ρ' H' σ' fr → Dn.bk σ' H'
  | .ct fr μ' => ∀ σ' ρ' H', Grow K ρ H ρ' H' → HRel K G ρ' μ' H' → Lc K ρ' H' σ' fr → Dn.ct σ' H'
  | .exc e _ μ' => PostX K G ρ H E e μ'
  | .bad => False
def rdE (E : XK) (m : EM) : TE := fun σ H Q => ∃ ρ fr μ, Lc K ρ H σ fr ∧ HRel K G ρ μ H ∧ PostE K G E ρ H Q (m fr μ)
def rdT (E : XK) (m : TM) : TT := fun σ H Q => ∃ ρ fr μ, Lc K ρ H σ fr ∧ HRel K G ρ μ H ∧ PostT K G E ρ H Q (m fr μ)
def rdA (E : XK) (m : AM) : TA := fun σ H Q => ∃ ρ fr μ, Lc K ρ H σ fr ∧ HRel K G ρ μ H ∧ PostA K G E ρ H Q (m fr μ)
def rdS (E : XK) (m : SM) : TS := fun Dn σ H => ∃ ρ fr μ, Lc K ρ H σ fr ∧ HRel K G ρ μ H ∧ PostS K G E ρ H Dn (m fr μ)
/-- a def's promise -/
def spM (m : List D → Mu → Res D) : Sp := fun vs H Q E => ∃ ρ μ ds, HRel K G ρ μ H ∧ Rels K ρ H ds vs ∧ PostE K G E ρ H Q (m ds μ)
end

/-! ### growing -/
section
variable {K : PySem.W.Frag} {G : Cg} {ρ ρ' ρ2 : List Addr} {H H' H2 : Hp} {μ μ' : Mu} {a p : Addr} {o : HO} {vs : List V} {d : D} {v : V} {ds : List D} {σ : L2.St} {fr : Fr}
theorem Grow.refl : Grow K ρ H ρ H := ⟨fun _ _ h => h, fun _ _ h => h, fun _ _ h => h⟩
theorem Grow.trans (g : Grow K ρ H ρ' H') (h : Grow K ρ' H' ρ2 H2) : Grow K ρ H ρ2 H2 := ⟨fun n a e => h.pre n a (g.pre n a e), fun a vs e => h.tup a vs (g.tup a vs e), fun a vs e => h.frl a vs (g.frl a vs e)⟩
theorem FL.sq (h : FL K H a vs) : SqL K H a vs := by
  rcases h with ⟨o, h⟩ | h
  · exact .inl (.inr ⟨o, h⟩)
  · exact .inr h
theorem sqT_new (hp : H p = none) (h : SqT K H a vs) : SqT K (upd H p o) a vs := by
  rcases h with (h | ⟨ob, h⟩) | h
  · exact .inl (.inl (by rw [upd_ne (ne_of_none h hp)]; exact h))
  · exact .inl (.inr ⟨ob, by rw [upd_ne (ne_of_none h hp)]; exact h⟩)
  · exact .inr h
theorem fl_new (hp : H p = none) (h : FL K H a vs) : FL K (upd H p o) a vs := by
  rcases h with ⟨ob, h⟩ | h
  · exact .inl ⟨ob, by rw [upd_ne (ne_of_none h hp)]; exact h⟩
  · exact .inr h
theorem sqT_mut (hm : Mut (H p)) (h : SqT K H a vs) : SqT K (upd H p o) a vs := by
  have ne : ∀ ob, H a = some ob → ¬ Mut (some ob) → a ≠ p := fun ob e n z => by subst z; rw [e] at hm; exact n hm
  rcases h with (h | ⟨ob, h⟩) | h
  · exact .inl (.inl (by rw [upd_ne (ne _ h (fun z => z))]; exact h))
  · exact .inl (.inr ⟨ob, by rw [upd_ne (ne _ h (fun z => z))]; exact h⟩)
  · exact .inr h
theorem fl_mut (hm : Mut (H p)) (h : FL K H a vs) : FL K (upd H p o) a vs := by
  have ne : ∀ ob, H a = some ob → ¬ Mut (some ob) → a ≠ p := fun ob e n z => by subst z; rw [e] at hm; exact n hm
  rcases h with ⟨ob, h⟩ | h
  · exact .inl ⟨ob, by rw [upd_ne (ne _ h (fun z => z))]; exact h⟩
  · exact .inr h
theorem Grow.tupnew (hp : H p = none) : Grow K ρ H ρ (upd H p o) := ⟨fun _ _ e => e, fun _ _ h => sqT_new hp h, fun _ _ h => fl_new hp h⟩
theorem getElem?_snoc {α : Type} {l : List α} {x y : α} {n : Nat} (h : l[n]? = some y) : (l ++ [x])[n]? = some y := by
  rw [List.getElem?_append_left (List.getElem?_eq_some_iff.mp h).1]; exact h
theorem Grow.new (hp : H p = none) : Grow K ρ H (ρ ++ [p]) (upd H p o) := ⟨fun _ _ e => getElem?_snoc e, fun _ _ h => sqT_new hp h, fun _ _ h => fl_new hp h⟩
theorem Grow.mut (hm : Mut (H p)) : Grow K ρ H ρ (upd H p o) := ⟨fun _ _ e => e, fun _ _ h => sqT_mut hm h, fun _ _ h => fl_mut hm h⟩

theorem Rel.mono (g : Grow K ρ H ρ' H') (h : Rel K ρ H d v) : Rel K ρ' H' d v := by
  induction h with
  | non => exact .non
  | bl b => exact .bl b
  | int i => exact .int i
  | str x => exact .str x
  | tup h hl _ ih => exact .tup (g.tup _ _ h) hl ih
  | frl h hl _ ih => exact .frl (g.frl _ _ h) hl ih
  | ref h => exact .ref (g.pre _ _ h)
theorem Rels.mono (g : Grow K ρ H ρ' H') (h : Rels K ρ H ds vs) : Rels K ρ' H' ds vs := Paired.mapP h fun _ _ r => r.mono g
theorem KRel.mono {ks : List (Key × V)} {kvs : List (Ky × D)} (g : Grow K ρ H ρ' H') (h : Paired (KRel K ρ H) kvs ks) : Paired (KRel K ρ' H') kvs ks := Paired.mapP h fun _ _ r => ⟨r.1, r.2.mono g⟩
theorem FRel.mono {ks : List (Str × V)} {kvs : List (Nat × D)} (g : Grow K ρ H ρ' H') (h : Paired (FRel K G ρ H) kvs ks) : Paired (FRel K G ρ' H') kvs ks := Paired.mapP h fun _ _ r => ⟨r.1, r.2.1, r.2.2.mono g⟩
theorem OOk.mono {o : O} (g : Grow K ρ H ρ' H') (e : H' a = H a) (h : OOk K G ρ H a o) : OOk K G ρ' H' a o := by
  cases o with
  | lst xs => obtain ⟨vs, h1, h2⟩ := h; exact ⟨vs, e.trans h1, h2.mono g⟩
  | dic kvs => obtain ⟨vs, h1, h2⟩ := h; exact ⟨vs, e.trans h1, KRel.mono g h2⟩
  | ins c ds => obtain ⟨dx, fs, h1, h2⟩ := h; exact ⟨dx, fs, e.trans h1, FRel.mono g h2⟩
theorem OOk.some {o : O} (h : OOk K G ρ H a o) : ∃ ho, H a = some ho ∧ Mut (some ho) := by
  cases o with
  | lst xs => obtain ⟨vs, h1, h2⟩ := h; exact ⟨_, h1, trivial⟩
  | dic kvs => obtain ⟨vs, h1, h2⟩ := h; exact ⟨_, h1, trivial⟩
  | ins c ds => obtain ⟨dx, fs, h1, _⟩ := h; exact ⟨_, h1, trivial⟩
theorem Lc.mono (g : Grow K ρ H ρ' H') (h : Lc K ρ H σ fr) : Lc K ρ' H' σ fr := ⟨h.1, fun k d e => (h.2 k d e).imp id fun ⟨v, q, r⟩ => ⟨v, q, r.mono g⟩⟩
theorem ERel.mono {e : Exc} {cls : Value} {dd : Option Addr} (g : Grow K ρ H ρ' H') (hd : ∀ d fs, H d = some (.xd fs) → H' d = some (.xd fs)) (h : ERel K G ρ H e cls dd) : ERel K G ρ' H' e cls dd :=
  ⟨h.1, h.2.imp id fun ⟨d, fs, h1, h2, h3⟩ => ⟨d, fs, h1, hd _ _ h2, FRel.mono g h3⟩⟩

/-- every place has its object -/
theorem HRel.at (R : HRel K G ρ μ H) {n : Nat} {a : Addr} (h : ρ[n]? = some a) : ∃ o, μ[n]? = some o ∧ OOk K G ρ H a o := by
  have hn : n < μ.length := by rw [← R.len]; exact (List.getElem?_eq_some_iff.mp h).1
  exact ⟨μ[n], by simp [hn], R.obj n a _ h (by simp [hn])⟩
theorem HRel.ad (R : HRel K G ρ μ H) {n : Nat} {o : O} (h : μ[n]? = some o) : ∃ a, ρ[n]? = some a ∧ OOk K G ρ H a o := by
  have hn : n < ρ.length := by rw [R.len]; exact (List.getElem?_eq_some_iff.mp h).1
  exact ⟨ρ[n], by simp [hn], R.obj n _ _ (by simp [hn]) h⟩
theorem HRel.tupnew (R : HRel K G ρ μ H) (hp : H p = none) : HRel K G ρ μ (upd H p o) := ⟨R.len, R.inj, fun n a ob h1 h2 => by
  have q := R.obj n a ob h1 h2
  obtain ⟨ho, e, _⟩ := q.some
  exact q.mono (Grow.tupnew hp) (upd_ne (ne_of_none e hp))⟩
theorem HRel.new {ob : O} (R : HRel K G ρ μ H) (hp : H p = none) (h : OOk K G (ρ ++ [p]) (upd H p o) p ob) : HRel K G (ρ ++ [p]) (μ ++ [ob]) (upd H p o) := by
  have old : ∀ n a, ρ[n]? = some a → a ≠ p := fun n a h1 => by
    obtain ⟨ob, _, q⟩ := R.at h1
    obtain ⟨ho, e, _⟩ := q.some
    exact ne_of_none e hp
  have split : ∀ (n : Nat) (a : Addr), (ρ ++ [p])[n]? = some a → ρ[n]? = some a ∨ (n = ρ.length ∧ a = p) := fun n a e => by
    by_cases hn : n < ρ.length
    · rw [List.getElem?_append_left hn] at e; exact .inl e
    · rw [List.getElem?_append_right (by omega)] at e
      obtain ⟨q1, q2⟩ := List.getElem?_eq_some_iff.mp e
      simp at q1
      have : n - ρ.length = 0 := by omega
      refine .inr ⟨by omega, ?_⟩
      simp [this] at q2
      exact q2.symm
  refine ⟨by simp [R.len], fun i j a h1 h2 => ?_, fun n a ob' h1 h2 => ?_⟩
  · rcases split i a h1 with q1 | ⟨q1, e1⟩
    · rcases split j a h2 with q2 | ⟨q2, e2⟩
      · exact R.inj i j a q1 q2
      · exact absurd e2 (old i a q1)
    · rcases split j a h2 with q2 | ⟨q2, e2⟩
      · exact absurd e1 (old j a q2)
      · rw [q1, q2]
  · rcases split n a h1 with q1 | ⟨q1, e1⟩
    · have hn : n < μ.length := by rw [← R.len]; exact (List.getElem?_eq_some_iff.mp q1).1
      rw [List.getElem?_append_left hn] at h2
      have q := R.obj n a ob' q1 h2
      obtain ⟨ho, e, _⟩ := q.some
      exact q.mono (Grow.new hp) (upd_ne (ne_of_none e hp))
    · subst q1; subst e1
      rw [R.len, List.getElem?_append_right (Nat.le_refl _)] at h2
      simp at h2
      subst h2
      exact h
theorem HRel.set {ob : O} {n : Nat} (R : HRel K G ρ μ H) (hn : ρ[n]? = some a) (h : OOk K G ρ (upd H a o) a ob) : HRel K G ρ (μ.set n ob) (upd H a o) := by
  have hm : Mut (H a) := by
    obtain ⟨ob, _, q⟩ := R.at hn
    obtain ⟨ho, e, m⟩ := q.some
    rw [e]; exact m
  refine ⟨by simp [R.len], R.inj, fun k b ob' h1 h2 => ?_⟩
  by_cases hk : n = k
  · subst hk
    rw [hn] at h1
    cases h1
    have hl : n < μ.length := by rw [← R.len]; exact (List.getElem?_eq_some_iff.mp hn).1
    rw [List.getElem?_set_self hl] at h2
    cases h2
    exact h
  · rw [List.getElem?_set_ne hk] at h2
    have hb : b ≠ a := fun z => by subst z; exact hk (R.inj n k b hn h1)
    exact (R.obj k b ob' h1 h2).mono (Grow.mut hm) (upd_ne hb)
theorem HRel.mutOf (R : HRel K G ρ μ H) {n : Nat} (hn : ρ[n]? = some a) : Mut (H a) := by
  obtain ⟨ob, _, q⟩ := R.at hn
  obtain ⟨ho, e, m⟩ := q.some
  rw [e]; exact m
theorem HRel.lst {n : Nat} {xs : List D} (R : HRel K G ρ μ H) (h : μ[n]? = some (.lst xs)) (hn : ρ[n]? = some a) : ∃ vs, H a = some (.lst vs) ∧ Rels K ρ H xs vs := R.obj n a _ hn h
end

/-! ### lists of values -/
section
variable {K : PySem.W.Frag} {ρ : List Addr} {H : Hp} {ds : List D} {vs : List V}
theorem Paired.get {α β : Type} {F : α → β → Prop} : ∀ {l₁ : List α} {l₂ : List β}, Paired F l₁ l₂ → ∀ (k : Nat) (x : α) (y : β), l₁[k]? = some x → l₂[k]? = some y → F x y
  | _, _, .nil, k, _, _, h, _ => by simp at h
  | _, _, .cons r t, 0, _, _, h, h' => by simp at h h'; subst h h'; exact r
  | _, _, .cons r t, k + 1, _, _, h, h' => Paired.get t k _ _ (by simpa using h) (by simpa using h')
theorem Paired.of_get {α β : Type} {F : α → β → Prop} : ∀ {l₁ : List α} {l₂ : List β}, l₂.length = l₁.length → (∀ (k : Nat) (x : α) (y : β), l₁[k]? = some x → l₂[k]? = some y → F x y) → Paired F l₁ l₂
  | [], [], _, _ => .nil
  | [], _ :: _, h, _ => by simp at h
  | _ :: _, [], h, _ => by simp at h
  | x :: xs, y :: ys, h, f => .cons (f 0 x y rfl rfl) (Paired.of_get (by simpa using h) fun k a b e e' => f (k + 1) a b (by simpa using e) (by simpa using e'))
theorem Paired.getR {α β : Type} {F : α → β → Prop} {l₁ : List α} {l₂ : List β} (p : Paired F l₁ l₂) {k : Nat} {x : α} (h : l₁[k]? = some x) : ∃ y, l₂[k]? = some y ∧ F x y := by
  have hl := Paired.length p
  have hk : k < l₂.length := by rw [← hl]; exact (List.getElem?_eq_some_iff.mp h).1
  exact ⟨l₂[k], by simp [hk], Paired.get p k _ _ h (by simp [hk])⟩
theorem Paired.app {α β : Type} {F : α → β → Prop} : ∀ {l₁ m₁ : List α} {l₂ m₂ : List β}, Paired F l₁ l₂ → Paired F m₁ m₂ → Paired F (l₁ ++ m₁) (l₂ ++ m₂)
  | _, _, _, _, .nil, s => s
  | _, _, _, _, .cons r t, s => .cons r (Paired.app t s)
theorem Paired.takeP {α β : Type} {F : α → β → Prop} : ∀ {l₁ : List α} {l₂ : List β} (n : Nat), Paired F l₁ l₂ → Paired F (l₁.take n) (l₂.take n)
  | _, _, 0, _ => .nil
  | _, _, _ + 1, .nil => .nil
  | _, _, n + 1, .cons r t => .cons r (Paired.takeP n t)
theorem Paired.dropP {α β : Type} {F : α → β → Prop} : ∀ {l₁ : List α} {l₂ : List β} (n : Nat), Paired F l₁ l₂ → Paired F (l₁.drop n) (l₂.drop n)
  | _, _, 0, r => r
  | _, _, _ + 1, .nil => .nil
  | _, _, n + 1, .cons _ t => Paired.dropP n t
theorem Paired.setP {α β : Type} {F : α → β → Prop} {x : α} {y : β} (r : F x y) : ∀ {l₁ : List α} {l₂ : List β} (n : Nat), Paired F l₁ l₂ → Paired F (l₁.set n x) (l₂.set n y)
  | _, _, _, .nil => .nil
  | _, _, 0, .cons _ t => .cons r t
  | _, _, n + 1, .cons q t => .cons q (Paired.setP r n t)
theorem Rel.rels_of {ρ : List Addr} {H : Hp} {a : Addr} {ds : List D} (h : Rel K ρ H (.tup ds) (.ref a)) : ∃ vs, SqT K H a vs ∧ Rels K ρ H ds vs := by
  cases h with
  | tup h hl f => exact ⟨_, h, Paired.of_get hl f⟩
theorem Rel.tupP {ρ : List Addr} {H : Hp} {a : Addr} {ds : List D} {vs : List V} (h : SqT K H a vs) (p : Rels K ρ H ds vs) : Rel K ρ H (.tup ds) (.ref a) := .tup h (Paired.length p).symm (Paired.get p)
end
end Lw

set_option Elab.async false
set_option linter.all false
set_option maxRecDepth 100000
set_option maxHeartbeats 4000000
/-! Expressions and statements as plain functions, and that the text does what they say. -/
namespace Lw
open PySem PySem.Spec PyProof.Rows L2

/-! ### the functions -/
def bnd {α β : Type} (r : Res α) (f : α → Mu → Res β) : Res β := match r with
  | .ok a m => f a m
  | .exc e m => .exc e m
  | .bad => .bad
@[simp] theorem bnd_ok {α β : Type} (a : α) (m : Mu) (f : α → Mu → Res β) : bnd (.ok a m) f = f a m := rfl
@[simp] theorem bnd_exc {α β : Type} (e : Exc) (m : Mu) (f : α → Mu → Res β) : bnd (.exc e m) f = .exc e m := rfl
@[simp] theorem bnd_bad {α β : Type} (f : α → Mu → Res β) : bnd .bad f = .bad := rfl
def bndS {α : Type} (fr : Fr) (r : Res α) (f : α → Mu → RS) : RS := match r with
  | .ok a m => f a m
  | .exc e m => .exc e fr m
  | .bad => .bad
@[simp] theorem bndS_ok {α : Type} (fr : Fr) (a : α) (m : Mu) (f : α → Mu → RS) : bndS fr (.ok a m) f = f a m := rfl
@[simp] theorem bndS_exc {α : Type} (fr : Fr) (e : Exc) (m : Mu) (f : α → Mu → RS) : bndS fr (.exc e m) f = .exc e fr m := rfl
@[simp] theorem bndS_bad {α : Type} (fr : Fr) (f : α → Mu → RS) : bndS fr .bad f = .bad := rfl

def eV (k : Nat) : EM := fun fr μ => match fr[k]? with
  | some .und => .bad
  | some d => .ok d μ
  | none => .bad
def eC (d : D) : EM := fun _ μ => .ok d μ
def eBin (f : D → D → Mu → Res D) (a b : EM) : EM := fun fr μ => bnd (a fr μ) fun x μ1 => bnd (b fr μ1) fun y μ2 => f x y μ2
def eUn (f : D → Mu → Res D) (a : EM) : EM := fun fr μ => bnd (a fr μ) fun x μ1 => f x μ1
def aNil : AM := fun _ μ => .ok [] μ
def aCons (a : EM) (r : AM) : AM := fun fr μ => bnd (a fr μ) fun x μ1 => bnd (r fr μ1) fun xs μ2 => .ok (x :: xs) μ2
def eTup (a : AM) : EM := fun fr μ => bnd (a fr μ) fun xs μ1 => .ok (.tup xs) μ1
def eLst (a : AM) : EM := fun fr μ => bnd (a fr μ) fun xs μ1 => .ok (.ref μ1.length) (μ1 ++ [.lst xs])
def eCall (g : List D → Mu → Res D) (a : AM) : EM := fun fr μ => bnd (a fr μ) fun xs μ1 => g xs μ1
def eIf (t : TM) (a b : EM) : EM := fun fr μ => bnd (t fr μ) fun c μ1 => if c = true then a fr μ1 else b fr μ1
/-- the truth of a value -/
def tru (x : D) (μ : Mu) : Option Bool := match x with
  | .non => some false
  | .bl b => some b
  | .int i => some (i != 0)
  | .str s => if s.length ≤ 1000000 then some (!s.isEmpty) else none
  | .tup xs => some (!xs.isEmpty)
  | .ref n => match μ[n]? with
    | some (.lst xs) => some (!xs.isEmpty)
    | _ => none
  | _ => none
def eAnd (a b : EM) : EM := fun fr μ => bnd (a fr μ) fun x μ1 => match tru x μ1 with
  | some true => b fr μ1
  | some false => .ok x μ1
  | none => .bad
def eOr (a b : EM) : EM := fun fr μ => bnd (a fr μ) fun x μ1 => match tru x μ1 with
  | some true => .ok x μ1
  | some false => b fr μ1
  | none => .bad
def eNot (a : EM) : EM := fun fr μ => bnd (a fr μ) fun x μ1 => match tru x μ1 with
  | some b => .ok (.bl (!b)) μ1
  | none => .bad
/-- a field -/
def eFld (f : Nat) (a : EM) : EM := fun fr μ => bnd (a fr μ) fun x μ1 => match x with
  | .ref n => match μ1[n]? with
    | some (.ins _ fs) => match fs.lookup f with
      | some d => .ok d μ1
      | none => .bad
    | _ => .bad
  | _ => .bad
/-! tests -/
def tB (a : EM) : TM := fun fr μ => bnd (a fr μ) fun x μ1 => match x with
  | .bl b => .ok b μ1
  | _ => .bad
def tTr (a : EM) : TM := fun fr μ => bnd (a fr μ) fun x μ1 => match tru x μ1 with
  | some b => .ok b μ1
  | none => .bad
def tAnd (a b : TM) : TM := fun fr μ => bnd (a fr μ) fun c μ1 => if c = true then b fr μ1 else .ok false μ1
def tOr (a b : TM) : TM := fun fr μ => bnd (a fr μ) fun c μ1 => if c = true then .ok true μ1 else b fr μ1
def tNot (a : TM) : TM := fun fr μ => bnd (a fr μ) fun c μ1 => .ok (!c) μ1
/-! statements -/
def sNx : SM := fun fr μ => .nx fr μ
def sSeq (s t : SM) : SM := fun fr μ => match s fr μ with
  | .nx fr' μ' => t fr' μ'
  | r => r
def sAsg (k : Nat) (e : EM) : SM := fun fr μ => bndS fr (e fr μ) fun d μ1 => .nx (fr.set k d) μ1
def sExp (e : EM) : SM := fun fr μ => bndS fr (e fr μ) fun _ μ1 => .nx fr μ1
def sRet (e : EM) : SM := fun fr μ => bndS fr (e fr μ) fun d μ1 => .ret d μ1
def sRetN : SM := fun _ μ => .ret .non μ
def sIf (t : TM) (a b : SM) : SM := fun fr μ => bndS fr (t fr μ) fun c μ1 => if c = true then a fr μ1 else b fr μ1
def sBrk : SM := fun fr μ => .brk fr μ
def sCt : SM := fun fr μ => .ct fr μ
def putN (f : Nat) (d : D) : List (Nat × D) → List (Nat × D)
  | [] => [(f, d)]
  | (g, x) :: r => if g = f then (g, d) :: r else (g, x) :: putN f d r
/-- o.f = e -/
def sFldM (f : Nat) (o e : EM) : SM := fun fr μ => bndS fr (e fr μ) fun d μ1 => bndS fr (o fr μ1) fun x μ2 => match x with
  | .ref n => match μ2[n]? with
    | some (.ins c fs) => if fs.length < 500 then .nx fr (μ2.set n (.ins c (putN f d fs))) else .bad
    | _ => .bad
  | _ => .bad
/-- a def: its body over its slots (many: how many slots beside the parameters) -/
def outM (r : RS) : Res D := match r with
  | .nx _ μ' => .ok .non μ'
  | .ret d μ' => .ok d μ'
  | .exc e _ μ' => .exc e μ'
  | _ => .bad
def defM (np many : Nat) (body : SM) : List D → Mu → Res D := fun ds μ => if ds.length = np then outM (body (ds ++ List.replicate many .und) μ) else .bad

/-! ### that the text does so -/
section
variable {X : Cx} {G : Cg} {E : XK}
abbrev PEm (X : Cx) (G : Cg) (E : XK) (e : Expr) (m : EM) : Prop := PE X e (rdE X.K G E m)
abbrev PTm (X : Cx) (G : Cg) (E : XK) (e : Expr) (m : TM) : Prop := PT X e (rdT X.K G E m)
abbrev PWm (X : Cx) (G : Cg) (E : XK) (e : Expr) (m : TM) : Prop := PW X e (rdT X.K G E m)
structure PAm (X : Cx) (G : Cg) (E : XK) (es : List Expr) (m : AM) : Prop where
  pa : PA X es (rdA X.K G E m)
  len : ∀ fr μ ds μ', m fr μ = .ok ds μ' → ds.length = es.length
abbrev PSm (X : Cx) (G : Cg) (E : XK) (st : Stmt) (m : SM) : Prop := PS X st (rdS X.K G E m)
abbrev PSsm (X : Cx) (G : Cg) (E : XK) (st : List Stmt) (m : SM) : Prop := PSs X st (rdS X.K G E m)
theorem _root_.L2.PE.imp {e : Expr} {t t' : TE} (h : PE X e t) (i : ∀ σ H Q, t' σ H Q → t σ H Q) : PE X e t' := ⟨fun pins s σ H Q I q => h.run pins s σ H Q I (i σ H Q q)⟩
theorem _root_.L2.PT.imp {e : Expr} {t t' : TT} (h : PT X e t) (i : ∀ σ H Q, t' σ H Q → t σ H Q) : PT X e t' := ⟨fun pins s σ H Q I q => h.run pins s σ H Q I (i σ H Q q)⟩
theorem _root_.L2.PW.imp {e : Expr} {t t' : TT} (h : PW X e t) (i : ∀ σ H Q, t' σ H Q → t σ H Q) : PW X e t' := ⟨fun wh pins s σ H Q I q => h.run wh pins s σ H Q I (i σ H Q q)⟩
theorem _root_.L2.PA.imp {es : List Expr} {t t' : TA} (h : PA X es t) (i : ∀ σ H Q, t' σ H Q → t σ H Q) : PA X es t' := ⟨fun pos pins s σ H Q I q => h.run pos pins s σ H Q I (i σ H Q q)⟩
theorem _root_.L2.PS.imp {st : Stmt} {t t' : TS} (h : PS X st t) (i : ∀ D σ H, t' D σ H → t D σ H) : PS X st t' := ⟨fun pins s σ H D I q => h.run pins s σ H D I (i D σ H q)⟩
theorem _root_.L2.PSs.imp {st : List Stmt} {t t' : TS} (h : PSs X st t) (i : ∀ D σ H, t' D σ H → t D σ H) : PSs X st t' := ⟨fun pins s σ H D I q => h.run pins s σ H D I (i D σ H q)⟩

variable {K : PySem.W.Frag} {ρ ρ' : List Addr} {H H' : Hp} {μ μ' : Mu} {σ : L2.St} {fr : Fr}
theorem PostX.mono {e : Exc} (g : Grow K ρ H ρ' H') (h : PostX K G ρ H E e μ) : PostX K G ρ' H' E e μ := fun cls dd ρ2 H2 g2 => h cls dd ρ2 H2 (g.trans g2)
theorem PostE.mono {Q : VK} {r : Res D} (g : Grow K ρ H ρ' H') (h : PostE K G E ρ H Q r) : PostE K G E ρ' H' Q r := by
  cases r with
  | ok d μ' => exact fun v ρ2 H2 g2 => h v ρ2 H2 (g.trans g2)
  | exc e μ' => exact PostX.mono g h
  | bad => exact h
theorem PostT.mono {Q : Bool → Hp → Prop} {r : Res Bool} (g : Grow K ρ H ρ' H') (h : PostT K G E ρ H Q r) : PostT K G E ρ' H' Q r := by
  cases r with
  | ok d μ' => exact fun ρ2 H2 g2 => h ρ2 H2 (g.trans g2)
  | exc e μ' => exact PostX.mono g h
  | bad => exact h
theorem PostA.mono {Q : List V → Hp → Prop} {r : Res (List D)} (g : Grow K ρ H ρ' H') (h : PostA K G E ρ H Q r) : PostA K G E ρ' H' Q r := by
  cases r with
  | ok d μ' => exact fun v ρ2 H2 g2 => h v ρ2 H2 (g.trans g2)
  | exc e μ' => exact PostX.mono g h
  | bad => exact h
theorem PostS.mono {Dn : Ends} {r : RS} (g : Grow K ρ H ρ' H') (h : PostS K G E ρ H Dn r) : PostS K G E ρ' H' Dn r := by
  cases r with
  | nx fr μ' => exact fun v ρ2 H2 g2 => h v ρ2 H2 (g.trans g2)
  | ret d μ' => exact fun v ρ2 H2 g2 => h v ρ2 H2 (g.trans g2)
  | brk fr μ' => exact fun v ρ2 H2 g2 => h v ρ2 H2 (g.trans g2)
  | ct fr μ' => exact fun v ρ2 H2 g2 => h v ρ2 H2 (g.trans g2)
  | exc e fr μ' => exact PostX.mono g h
  | bad => exact h

/-! reading through a bind: from what is wanted of the whole to the first part's reading -/
theorem PostE.bndE {r : Res D} {f : D → Mu → Res D} {Q Q1 : VK} (h : PostE K G E ρ H Q (bnd r f))
    (k : ∀ d μ1, r = .ok d μ1 → ∀ v ρ1 H1, Grow K ρ H ρ1 H1 → HRel K G ρ1 μ1 H1 → Rel K ρ1 H1 d v → PostE K G E ρ1 H1 Q (f d μ1) → Q1 v H1) : PostE K G E ρ H Q1 r := by
  cases r with
  | ok d μ1 => exact fun v ρ1 H1 g R r => k d μ1 rfl v ρ1 H1 g R r (PostE.mono g h)
  | exc e μ1 => exact h
  | bad => exact h
theorem PostE.bndA {r : Res (List D)} {f : List D → Mu → Res D} {Q : VK} {Q1 : List V → Hp → Prop} (h : PostE K G E ρ H Q (bnd r f))
    (k : ∀ ds μ1, r = .ok ds μ1 → ∀ vs ρ1 H1, Grow K ρ H ρ1 H1 → HRel K G ρ1 μ1 H1 → Rels K ρ1 H1 ds vs → PostE K G E ρ1 H1 Q (f ds μ1) → Q1 vs H1) : PostA K G E ρ H Q1 r := by
  cases r with
  | ok d μ1 => exact fun v ρ1 H1 g R r => k d μ1 rfl v ρ1 H1 g R r (PostE.mono g h)
  | exc e μ1 => exact h
  | bad => exact h
theorem PostE.bndT {r : Res Bool} {f : Bool → Mu → Res D} {Q : VK} {Q1 : Bool → Hp → Prop} (h : PostE K G E ρ H Q (bnd r f))
    (k : ∀ b μ1, r = .ok b μ1 → ∀ ρ1 H1, Grow K ρ H ρ1 H1 → HRel K G ρ1 μ1 H1 → PostE K G E ρ1 H1 Q (f b μ1) → Q1 b H1) : PostT K G E ρ H Q1 r := by
  cases r with
  | ok d μ1 => exact fun ρ1 H1 g R => k d μ1 rfl ρ1 H1 g R (PostE.mono g h)
  | exc e μ1 => exact h
  | bad => exact h
theorem PostT.bndE {r : Res D} {f : D → Mu → Res Bool} {Q : Bool → Hp → Prop} {Q1 : VK} (h : PostT K G E ρ H Q (bnd r f))
    (k : ∀ d μ1, r = .ok d μ1 → ∀ v ρ1 H1, Grow K ρ H ρ1 H1 → HRel K G ρ1 μ1 H1 → Rel K ρ1 H1 d v → PostT K G E ρ1 H1 Q (f d μ1) → Q1 v H1) : PostE K G E ρ H Q1 r := by
  cases r with
  | ok d μ1 => exact fun v ρ1 H1 g R r => k d μ1 rfl v ρ1 H1 g R r (PostT.mono g h)
  | exc e μ1 => exact h
  | bad => exact h
theorem PostT.bndT {r : Res Bool} {f : Bool → Mu → Res Bool} {Q Q1 : Bool → Hp → Prop} (h : PostT K G E ρ H Q (bnd r f))
    (k : ∀ b μ1, r = .ok b μ1 → ∀ ρ1 H1, Grow K ρ H ρ1 H1 → HRel K G ρ1 μ1 H1 → PostT K G E ρ1 H1 Q (f b μ1) → Q1 b H1) : PostT K G E ρ H Q1 r := by
  cases r with
  | ok d μ1 => exact fun ρ1 H1 g R => k d μ1 rfl ρ1 H1 g R (PostT.mono g h)
  | exc e μ1 => exact h
  | bad => exact h
theorem PostA.bndE {r : Res D} {f : D → Mu → Res (List D)} {Q : List V → Hp → Prop} {Q1 : VK} (h : PostA K G E ρ H Q (bnd r f))
    (k : ∀ d μ1, r = .ok d μ1 → ∀ v ρ1 H1, Grow K ρ H ρ1 H1 → HRel K G ρ1 μ1 H1 → Rel K ρ1 H1 d v → PostA K G E ρ1 H1 Q (f d μ1) → Q1 v H1) : PostE K G E ρ H Q1 r := by
  cases r with
  | ok d μ1 => exact fun v ρ1 H1 g R r => k d μ1 rfl v ρ1 H1 g R r (PostA.mono g h)
  | exc e μ1 => exact h
  | bad => exact h
theorem PostA.bndA {r : Res (List D)} {f : List D → Mu → Res (List D)} {Q Q1 : List V → Hp → Prop} (h : PostA K G E ρ H Q (bnd r f))
    (k : ∀ ds μ1, r = .ok ds μ1 → ∀ vs ρ1 H1, Grow K ρ H ρ1 H1 → HRel K G ρ1 μ1 H1 → Rels K ρ1 H1 ds vs → PostA K G E ρ1 H1 Q (f ds μ1) → Q1 vs H1) : PostA K G E ρ H Q1 r := by
  cases r with
  | ok d μ1 => exact fun v ρ1 H1 g R r => k d μ1 rfl v ρ1 H1 g R r (PostA.mono g h)
  | exc e μ1 => exact h
  | bad => exact h
theorem PostS.bndE {r : Res D} {f : D → Mu → RS} {Dn : Ends} {Q1 : VK} (h : PostS K G E ρ H Dn (bndS fr r f))
    (k : ∀ d μ1, r = .ok d μ1 → ∀ v ρ1 H1, Grow K ρ H ρ1 H1 → HRel K G ρ1 μ1 H1 → Rel K ρ1 H1 d v → PostS K G E ρ1 H1 Dn (f d μ1) → Q1 v H1) : PostE K G E ρ H Q1 r := by
  cases r with
  | ok d μ1 => exact fun v ρ1 H1 g R r => k d μ1 rfl v ρ1 H1 g R r (PostS.mono g h)
  | exc e μ1 => exact h
  | bad => exact h
theorem PostS.bndT {r : Res Bool} {f : Bool → Mu → RS} {Dn : Ends} {Q1 : Bool → Hp → Prop} (h : PostS K G E ρ H Dn (bndS fr r f))
    (k : ∀ b μ1, r = .ok b μ1 → ∀ ρ1 H1, Grow K ρ H ρ1 H1 → HRel K G ρ1 μ1 H1 → PostS K G E ρ1 H1 Dn (f b μ1) → Q1 b H1) : PostT K G E ρ H Q1 r := by
  cases r with
  | ok d μ1 => exact fun ρ1 H1 g R => k d μ1 rfl ρ1 H1 g R (PostS.mono g h)
  | exc e μ1 => exact h
  | bad => exact h

/-! ### names and constants -/
variable {a b c : Expr} {ma mb mc : EM} {pos : Pos}
theorem s_var (i : Nat) {x : Str} (hN : X.N[i]? = some x := by rfl) (hv : Vis X.env.scope x := by first | exact Or.inl rfl | exact Or.inr (Or.inl rfl) | exact Or.inr (Or.inr rfl)) (hd : (x == ("__debug__" : Str)) = false := by decide)
    (hcd : (x == ("__classdict__" : Str)) = false := by decide) : PEm X G E (.Name x pos) (eV i) := (pe_var hN hv hd hcd).imp fun σ H Q ⟨ρ, fr, μ, L, R, P⟩ => by
  unfold eV at P
  cases e : fr[i]? with
  | none => rw [e] at P; exact P.elim
  | some d =>
    rw [e] at P
    rcases L.2 i d e with h | ⟨v, h, r⟩
    · subst h; exact P.elim
    · refine ⟨v, h, ?_⟩
      cases d with
      | und => exact P.elim
      | _ => exact P v ρ H Grow.refl R r
/-- a value that is known -/
theorem s_c {e : Expr} {v : V} {d : D} (h : PE X e (tC v)) (r : ∀ ρ H, Rel X.K ρ H d v) : PEm X G E e (eC d) := h.imp fun σ H Q ⟨ρ, fr, μ, L, R, P⟩ => P v ρ H Grow.refl R (r ρ H)
theorem s_int {i : Int} {j : Nat} : PEm X G E (.Constant (.int i) j pos) (eC (.int i)) := s_c pe_int fun _ _ => .int i
theorem s_bl {b : Bool} {j : Nat} : PEm X G E (.Constant (.bool b) j pos) (eC (.bl b)) := s_c pe_bl fun _ _ => .bl b
theorem s_non {j : Nat} : PEm X G E (.Constant .none j pos) (eC .non) := s_c pe_non fun _ _ => .non
theorem s_str {x : Str} {y : List Nat} {j : Nat} (h : x.cps.toList = y) : PEm X G E (.Constant (.str x) j pos) (eC (.str y)) := s_c pe_str fun _ _ => by
  subst h
  have e : (V.str x) = V.str ⟨x.cps.toList.toArray⟩ := by simp
  rw [e]
  exact .str _
/-- a constant of the module -/
theorem s_glob {x : Str} {v : V} {u : Value} {d : D} (hg : Gl X x) (hm : X.mg x = some u) (r : RelV v u) (q : ∀ ρ H, Rel X.K ρ H d v) (hd : (x == ("__debug__" : Str)) = false := by decide) : PEm X G E (.Name x pos) (eC d) :=
  s_c (pe_glob hg hm r hd) q

/-! ### operators -/
/-- an operation on values does what a function says (it raises nothing) -/
def OpS (K : PySem.W.Frag) (G : Cg) (r : R2) (f : D → D → Mu → Res D) : Prop :=
  ∀ ρ μ H x y dx dy Q, HRel K G ρ μ H → Rel K ρ H dx x → Rel K ρ H dy y → PostE K G (fun _ _ _ => False) ρ H Q (f dx dy μ) → r x y H Q
def NoX (f : D → D → Mu → Res D) : Prop := ∀ x y μ e μ', f x y μ ≠ .exc e μ'
theorem PostE.nox {Q : VK} {r : Res D} (h : PostE K G E ρ H Q r) (n : ∀ e μ', r ≠ .exc e μ') : PostE K G (fun _ _ _ => False) ρ H Q r := by
  cases r with
  | ok d μ' => exact h
  | exc e μ' => exact absurd rfl (n e μ')
  | bad => exact h
theorem s_op {op : Operator} {r : R2} {f : D → D → Mu → Res D} (ho : OpR X (binaryOp op) r) (hs : OpS X.K G r f) (hn : NoX f) (ha : PEm X G E a ma) (hb : PEm X G E b mb) : PEm X G E (.BinOp a op b pos) (eBin f ma mb) :=
  (pe_op ho ha hb).imp fun σ H Q ⟨ρ, fr, μ, L, R, P⟩ => ⟨ρ, fr, μ, L, R, PostE.bndE P fun dx μ1 _ x ρ1 H1 g1 R1 r1 P1 => ⟨ρ1, fr, μ1, L.mono g1, R1, PostE.bndE P1 fun dy μ2 _ y ρ2 H2 g2 R2 r2 P2 =>
    hs ρ2 μ2 H2 x y dx dy Q R2 (r1.mono g2) r2 (PostE.nox P2 (hn dx dy μ2))⟩⟩
theorem s_cmp {op : CmpOp} {r : R2} {f : D → D → Mu → Res D} (ho : OpR X (compareOp op) r) (hs : OpS X.K G r f) (hn : NoX f) (ha : PEm X G E a ma) (hb : PEm X G E b mb) (hm : behindInMarks op b = false) :
    PEm X G E (.Compare a [op] [b] pos) (eBin f ma mb) :=
  (pe_cmpR ho ha hb hm).imp fun σ H Q ⟨ρ, fr, μ, L, R, P⟩ => ⟨ρ, fr, μ, L, R, PostE.bndE P fun dx μ1 _ x ρ1 H1 g1 R1 r1 P1 => ⟨ρ1, fr, μ1, L.mono g1, R1, PostE.bndE P1 fun dy μ2 _ y ρ2 H2 g2 R2 r2 P2 =>
    hs ρ2 μ2 H2 x y dx dy Q R2 (r1.mono g2) r2 (PostE.nox P2 (hn dx dy μ2))⟩⟩
/-- a test that compares -/
theorem s_cmpT {op : CmpOp} {r : R2} {f : D → D → Mu → Res D} (ho : OpR X (compareOp op) r) (hs : OpS X.K G r f) (hn : NoX f) (ha : PEm X G E a ma) (hb : PEm X G E b mb) (hm : behindInMarks op b = false) :
    PTm X G E (.Compare a [op] [b] pos) (tB (eBin f ma mb)) :=
  (pt_cmpR ho ha hb hm).imp fun σ H Q ⟨ρ, fr, μ, L, R, P⟩ => ⟨ρ, fr, μ, L, R, by
    have P' : PostE X.K G E ρ H (fun v H2 => ∃ k, v = .bl k ∧ Q k H2) (eBin f ma mb fr μ) := PostT.bndE P fun d μ1 _ v ρ1 H1 g1 R1 r1 P1 => by
      cases r1 with
      | bl k => exact ⟨k, rfl, P1 ρ1 H1 Grow.refl R1⟩
      | _ => exact P1.elim
    exact PostE.bndE P' fun dx μ1 _ x ρ1 H1 g1 R1 r1 P1 => ⟨ρ1, fr, μ1, L.mono g1, R1, PostE.bndE P1 fun dy μ2 _ y ρ2 H2 g2 R2 r2 P2 =>
      hs ρ2 μ2 H2 x y dx dy _ R2 (r1.mono g2) r2 (PostE.nox P2 (hn dx dy μ2))⟩⟩

/-! ### tests -/
theorem tru_str (s : List Nat) (μ : Mu) : tru (.str s) μ = if s.length ≤ 1000000 then some (!s.isEmpty) else none := rfl
theorem tru_ref (n : Nat) (μ : Mu) : tru (.ref n) μ = match μ[n]? with
    | some (.lst xs) => some (!xs.isEmpty)
    | _ => none := rfl
theorem truV_of {x : D} {v : V} {k : Bool} (R : HRel K G ρ μ H) (r : Rel K ρ H x v) (h : tru x μ = some k) : TruV K v H k := by
  cases r with
  | non => cases h; rfl
  | bl b => cases h; rfl
  | int i => cases h; rfl
  | str s =>
    rw [tru_str] at h
    by_cases hl : s.length ≤ 1000000
    · rw [if_pos hl] at h
      cases h
      refine ⟨Nat.le_trans (show s.toArray.size ≤ 1000000 by simpa using hl) (by decide), ?_⟩
      show (!s.isEmpty) = (((s.toArray.size : Nat) : Int) != 0)
      cases s with
      | nil => rfl
      | cons c t =>
        show true = _
        symm
        rw [bne_iff_ne]
        simp only [List.size_toArray, List.length_cons]
        omega
    · rw [if_neg hl] at h
      cases h
  | @tup a ds vs hs hl f =>
    cases h
    refine .inr (.inl ⟨vs, hs, ?_⟩)
    cases ds with
    | nil => cases vs with
      | nil => rfl
      | cons _ _ => simp at hl
    | cons _ _ => cases vs with
      | nil => simp at hl
      | cons _ _ => rfl
  | frl => cases h
  | @ref n a e =>
    rw [tru_ref] at h
    cases q : μ[n]? with
    | none => rw [q] at h; cases h
    | some o =>
      rw [q] at h
      cases o with
      | lst xs =>
        cases h
        obtain ⟨vs, h1, h2⟩ := R.lst q e
        refine .inl ⟨vs, SqL.of h1, ?_⟩
        have hl := Paired.length h2
        cases xs with
        | nil => cases vs with
          | nil => rfl
          | cons _ _ => simp at hl
        | cons _ _ => cases vs with
          | nil => simp at hl
          | cons _ _ => rfl
      | _ => cases h
theorem s_tr (ha : PEm X G E a ma) (he : ∀ whole, isTrue a X.env whole = (do let v ← whole; standAt a.pos; holding [v] (truthy v)) := by intro _; rfl) : PTm X G E a (tTr ma) :=
  (pt_truth ha he).imp fun σ H Q ⟨ρ, fr, μ, L, R, P⟩ => ⟨ρ, fr, μ, L, R, PostT.bndE P fun d μ1 _ v ρ1 H1 g1 R1 r1 P1 => by
    cases e : tru d μ1 with
    | none => rw [e] at P1; exact P1.elim
    | some k => rw [e] at P1; exact ⟨k, truV_of R1 r1 e, P1 ρ1 H1 Grow.refl R1⟩⟩
theorem s_tnot {m : TM} (h : PTm X G E a m) : PTm X G E (.UnaryOp .Not a pos) (tNot m) :=
  (pt_not h).imp fun σ H Q ⟨ρ, fr, μ, L, R, P⟩ => ⟨ρ, fr, μ, L, R, PostT.bndT P fun b μ1 _ ρ1 H1 g1 R1 P1 => P1 ρ1 H1 Grow.refl R1⟩

theorem s_wand1 {m : TM} (h : PTm X G E a m) : PWm X G E (.BoolOp .And [a] pos) m := pw_and1 h
theorem s_wor1 {m : TM} (h : PTm X G E a m) : PWm X G E (.BoolOp .Or [a] pos) m := pw_or1 h
theorem s_wand {rest : List Expr} {m m' : TM} (h : PTm X G E a m) (h' : PWm X G E (.BoolOp .And (b :: rest) pos) m') : PWm X G E (.BoolOp .And (a :: b :: rest) pos) (tAnd m m') :=
  (pw_and h h').imp fun σ H Q ⟨ρ, fr, μ, L, R, P⟩ => ⟨ρ, fr, μ, L, R, PostT.bndT P fun b μ1 _ ρ1 H1 g1 R1 P1 => by
    cases b with
    | true => exact ⟨ρ1, fr, μ1, L.mono g1, R1, P1⟩
    | false => exact P1 ρ1 H1 Grow.refl R1⟩
theorem s_wor {rest : List Expr} {m m' : TM} (h : PTm X G E a m) (h' : PWm X G E (.BoolOp .Or (b :: rest) pos) m') : PWm X G E (.BoolOp .Or (a :: b :: rest) pos) (tOr m m') :=
  (pw_or h h').imp fun σ H Q ⟨ρ, fr, μ, L, R, P⟩ => ⟨ρ, fr, μ, L, R, PostT.bndT P fun b μ1 _ ρ1 H1 g1 R1 P1 => by
    cases b with
    | false => exact ⟨ρ1, fr, μ1, L.mono g1, R1, P1⟩
    | true => exact P1 ρ1 H1 Grow.refl R1⟩
theorem s_w {m : TM} (h : PWm X G E a m) : PTm X G E a m := h.pt
theorem s_one {op : BoolOp} (h : PEm X G E a ma) : PEm X G E (.BoolOp op [a] pos) ma := pe_one h
theorem s_and {rest : List Expr} {m' : EM} (h : PEm X G E a ma) (h' : PEm X G E (.BoolOp .And (b :: rest) pos) m') : PEm X G E (.BoolOp .And (a :: b :: rest) pos) (eAnd ma m') :=
  (pe_andT h h').imp fun σ H Q ⟨ρ, fr, μ, L, R, P⟩ => ⟨ρ, fr, μ, L, R, PostE.bndE P fun d μ1 _ v ρ1 H1 g1 R1 r1 P1 => by
    cases e : tru d μ1 with
    | none => rw [e] at P1; exact P1.elim
    | some k =>
      rw [e] at P1
      refine ⟨k, truV_of R1 r1 e, ?_⟩
      cases k with
      | true => exact ⟨ρ1, fr, μ1, L.mono g1, R1, P1⟩
      | false => exact P1 v ρ1 H1 Grow.refl R1 r1⟩
theorem s_or {rest : List Expr} {m' : EM} (h : PEm X G E a ma) (h' : PEm X G E (.BoolOp .Or (b :: rest) pos) m') : PEm X G E (.BoolOp .Or (a :: b :: rest) pos) (eOr ma m') :=
  (pe_orT h h').imp fun σ H Q ⟨ρ, fr, μ, L, R, P⟩ => ⟨ρ, fr, μ, L, R, PostE.bndE P fun d μ1 _ v ρ1 H1 g1 R1 r1 P1 => by
    cases e : tru d μ1 with
    | none => rw [e] at P1; exact P1.elim
    | some k =>
      rw [e] at P1
      refine ⟨k, truV_of R1 r1 e, ?_⟩
      cases k with
      | false => exact ⟨ρ1, fr, μ1, L.mono g1, R1, P1⟩
      | true => exact P1 v ρ1 H1 Grow.refl R1 r1⟩
theorem s_not (h : PEm X G E a ma) : PEm X G E (.UnaryOp .Not a pos) (eNot ma) :=
  (pe_notT h).imp fun σ H Q ⟨ρ, fr, μ, L, R, P⟩ => ⟨ρ, fr, μ, L, R, PostE.bndE P fun d μ1 _ v ρ1 H1 g1 R1 r1 P1 => by
    cases e : tru d μ1 with
    | none => rw [e] at P1; exact P1.elim
    | some k =>
      rw [e] at P1
      exact ⟨k, truV_of R1 r1 e, P1 _ ρ1 H1 Grow.refl R1 (.bl _)⟩⟩
theorem s_ifE {t : Expr} {mt : TM} (ht : PTm X G E t mt) (ha : PEm X G E a ma) (hb : PEm X G E b mb) : PEm X G E (.IfExp t a b pos) (eIf mt ma mb) :=
  (pe_ifExp ht ha hb).imp fun σ H Q ⟨ρ, fr, μ, L, R, P⟩ => ⟨ρ, fr, μ, L, R, PostE.bndT P fun k μ1 _ ρ1 H1 g1 R1 P1 => by
    cases k with
    | true => exact ⟨ρ1, fr, μ1, L.mono g1, R1, P1⟩
    | false => exact ⟨ρ1, fr, μ1, L.mono g1, R1, P1⟩⟩

/-! ### arguments, displays, calls -/
theorem s_nil : PAm X G E [] aNil := ⟨pa_nil.imp fun σ H Q ⟨ρ, fr, μ, L, R, P⟩ => P [] ρ H Grow.refl R .nil, fun fr μ ds μ' h => by cases h; rfl⟩
theorem s_cons {e : Expr} {es : List Expr} {m : EM} {ms : AM} (h : PEm X G E e m) (hs : PAm X G E es ms) (hst : starEach (e :: es) X.env = (false, eval e X.env) :: starEach es X.env := by rfl) : PAm X G E (e :: es) (aCons m ms) :=
  ⟨(pa_cons h hs.pa hst).imp fun σ H Q ⟨ρ, fr, μ, L, R, P⟩ => ⟨ρ, fr, μ, L, R, PostA.bndE P fun d μ1 _ v ρ1 H1 g1 R1 r1 P1 => ⟨ρ1, fr, μ1, L.mono g1, R1, PostA.bndA P1 fun ds μ2 _ vs ρ2 H2 g2 R2 r2 P2 =>
    P2 (v :: vs) ρ2 H2 Grow.refl R2 (.cons (r1.mono g2) r2)⟩⟩, fun fr μ ds μ' h => by
    unfold aCons at h
    cases e1 : m fr μ with
    | ok x μ1 =>
      rw [e1, bnd_ok] at h
      cases e2 : ms fr μ1 with
      | ok xs μ2 =>
        rw [e2, bnd_ok] at h
        cases h
        have := hs.len _ _ _ _ e2
        simp [this]
      | exc => rw [e2] at h; cases h
      | bad => rw [e2] at h; cases h
    | exc => rw [e1] at h; cases h
    | bad => rw [e1] at h; cases h⟩
theorem s_tup {x1} {es : List Expr} {m : AM} (h : PAm X G E es m) (hl : es.length ≤ 10000 := by decide) : PEm X G E (.Tuple es x1 pos) (eTup m) :=
  (pe_tup h.pa).imp fun σ H Q ⟨ρ, fr, μ, L, R, P⟩ => ⟨ρ, fr, μ, L, R, PostE.bndA P fun ds μ1 e vs ρ1 H1 g1 R1 r1 P1 => by
    have hn := h.len _ _ _ _ e
    have hv := Paired.length r1
    refine ⟨by rw [← hv, hn]; exact Nat.le_trans hl (by decide), fun p hp => P1 _ ρ1 _ (Grow.tupnew hp) (R1.tupnew hp) (Rel.tupP (SqT.of upd_same) (r1.mono (Grow.tupnew hp)))⟩⟩
theorem s_lst {es : List Expr} {m : AM} (h : PAm X G E es m) (hl : es.length ≤ 10000 := by decide) : PEm X G E (.List es pos) (eLst m) :=
  (pe_lst h.pa).imp fun σ H Q ⟨ρ, fr, μ, L, R, P⟩ => ⟨ρ, fr, μ, L, R, PostE.bndA P fun ds μ1 e vs ρ1 H1 g1 R1 r1 P1 => by
    have hn := h.len _ _ _ _ e
    have hv := Paired.length r1
    refine ⟨by rw [← hv, hn]; exact Nat.le_trans hl (by decide), fun p hp => P1 _ (ρ1 ++ [p]) _ (Grow.new hp) (R1.new hp ⟨vs, upd_same, r1.mono (Grow.new hp)⟩) (.ref ?_)⟩
    rw [← R1.len]
    simp⟩
/-- a call of a def of the program -/
theorem s_call {CX : CXT} {k : Nat} {f : Addr} {fd : FuncData} {ps : List Str} {x : Str} {p : Pos} {e : Expr} {es : List Expr} {m : AM} {g : List D → Mu → Res D} (F : FnOk X.prog X.w X.K X.mg X.base CX k f fd ps (spM X.K G g)) (hr : Room k X.A) (hg : Gl X x)
    (hm : X.mg x = some (.ref f)) (hk : PySem.W.keepIn X.K (.ref f) = true) (hb : Binds X.K fd ps []) (hx : Passes CX X E) (ha : PAm X G E (e :: es) m) (hdb : (x == ("__debug__" : Str)) = false := by decide)
    (he : starEach (e :: es) X.env = (false, eval e X.env) :: starEach es X.env := by rfl) (hpl : (backTo pos (starEach es X.env)).any (·.1) = false := by rfl) :
    PEm X G E (.Call (.Name x p) (e :: es) [] pos) (eCall g m) :=
  (pe_call F hr hg hm hk hb .nil hx ha.pa hdb he hpl).imp fun σ H Q ⟨ρ, fr, μ, L, R, P⟩ => ⟨ρ, fr, μ, L, R, PostE.bndA P fun ds μ1 e vs ρ1 H1 g1 R1 r1 P1 =>
    ⟨ρ1, μ1, ds, R1, by rw [List.append_nil]; exact r1, P1⟩⟩
theorem s_call0 {CX : CXT} {k : Nat} {f : Addr} {fd : FuncData} {ps : List Str} {x : Str} {p : Pos} {g : List D → Mu → Res D} (F : FnOk X.prog X.w X.K X.mg X.base CX k f fd ps (spM X.K G g)) (hr : Room k X.A) (hg : Gl X x)
    (hm : X.mg x = some (.ref f)) (hk : PySem.W.keepIn X.K (.ref f) = true) (hb : Binds X.K fd ps []) (hx : Passes CX X E) (hdb : (x == ("__debug__" : Str)) = false := by decide) :
    PEm X G E (.Call (.Name x p) [] [] pos) (eCall g aNil) :=
  (pe_call0 F hr hg hm hk hb .nil hx hdb).imp fun σ H Q ⟨ρ, fr, μ, L, R, P⟩ => ⟨ρ, μ, [], R, .nil, P⟩
/-- a call on values: a built-in function, a built-in class -/
def CallS (K : PySem.W.Frag) (G : Cg) (r : List V → Hp → VK → Prop) (f : List D → Mu → Res D) : Prop :=
  ∀ ρ μ H xs ds Q, HRel K G ρ μ H → Rels K ρ H ds xs → PostE K G (fun _ _ _ => False) ρ H Q (f ds μ) → r xs H Q
def NoXs (f : List D → Mu → Res D) : Prop := ∀ xs μ e μ', f xs μ ≠ .exc e μ'
theorem s_callB {id : String} {x : Str} {p : Pos} {e : Expr} {es : List Expr} {r : List V → Hp → VK → Prop} {m : AM} {f : List D → Mu → Res D} (hc : CallR X (.builtin id) r) (hs : CallS X.K G r f) (hn : NoXs f) (hg : Gl X x) (hm : X.mg x = none)
    (hv : bootBuiltins x = some (.builtin id)) (ha : PAm X G E (e :: es) m) (hnn : x ≠ "__name__" := by decide) (hdb : (x == ("__debug__" : Str)) = false := by decide)
    (he : starEach (e :: es) X.env = (false, eval e X.env) :: starEach es X.env := by rfl) (hpl : (backTo pos (starEach es X.env)).any (·.1) = false := by rfl) : PEm X G E (.Call (.Name x p) (e :: es) [] pos) (eCall f m) :=
  (pe_callB hc hg hm hv ha.pa hnn hdb he hpl).imp fun σ H Q ⟨ρ, fr, μ, L, R, P⟩ => ⟨ρ, fr, μ, L, R, PostE.bndA P fun ds μ1 e vs ρ1 H1 g1 R1 r1 P1 => hs ρ1 μ1 H1 vs ds Q R1 r1 (PostE.nox P1 (hn ds μ1))⟩
theorem s_callTy {T : String} {x : Str} {p : Pos} {e : Expr} {es : List Expr} {r : List V → Hp → VK → Prop} {m : AM} {f : List D → Mu → Res D} (hc : CallR X (.type T) r) (hs : CallS X.K G r f) (hn : NoXs f) (hg : Gl X x) (hm : X.mg x = none)
    (hv : bootBuiltins x = some (.type T)) (ha : PAm X G E (e :: es) m) (hnn : x ≠ "__name__" := by decide) (hdb : (x == ("__debug__" : Str)) = false := by decide)
    (he : starEach (e :: es) X.env = (false, eval e X.env) :: starEach es X.env := by rfl) (hpl : (backTo pos (starEach es X.env)).any (·.1) = false := by rfl) : PEm X G E (.Call (.Name x p) (e :: es) [] pos) (eCall f m) :=
  (pe_callTy hc hg hm hv ha.pa hnn hdb he hpl).imp fun σ H Q ⟨ρ, fr, μ, L, R, P⟩ => ⟨ρ, fr, μ, L, R, PostE.bndA P fun ds μ1 e vs ρ1 H1 g1 R1 r1 P1 => hs ρ1 μ1 H1 vs ds Q R1 r1 (PostE.nox P1 (hn ds μ1))⟩

/-! ### instances -/
theorem FRel.look {ρ : List Addr} {H : Hp} {f : Nat} (hf : f < G.nf) : ∀ {fs : List (Nat × D)} {gs : List (Str × V)}, Paired (FRel K G ρ H) fs gs → ∀ d, fs.lookup f = some d → ∃ v, gs.lookup (G.fnm f) = some v ∧ Rel K ρ H d v
  | _, _, .nil, d, h => by cases h
  | (g, x) :: fs, (n, y) :: gs, .cons ⟨h1, h2, h3⟩ t, d, h => by
    have h2 : n = G.fnm g := h2
    subst h2
    by_cases e : g = f
    · subst e
      rw [List.lookup_cons_self] at h
      cases h
      exact ⟨y, List.lookup_cons_self, h3⟩
    · have ne : (f == g) = false := by simp; exact fun z => e z.symm
      have ne2 : (G.fnm f == G.fnm g) = false := by
        rw [beq_eq_false_iff_ne]
        exact fun z => e (G.inj g f h1 hf z.symm)
      rw [List.lookup_cons, ne] at h
      obtain ⟨v, q1, q2⟩ := FRel.look hf t d h
      exact ⟨v, by rw [List.lookup_cons, ne2]; exact q1, q2⟩
theorem FRel.put {ρ : List Addr} {H : Hp} {f : Nat} (hf : f < G.nf) {d : D} {v : V} (r : Rel K ρ H d v) : ∀ {fs : List (Nat × D)} {gs : List (Str × V)}, Paired (FRel K G ρ H) fs gs → Paired (FRel K G ρ H) (putN f d fs) (putF (G.fnm f) v gs)
  | _, _, .nil => .cons ⟨hf, rfl, r⟩ .nil
  | (g, x) :: fs, (n, y) :: gs, .cons ⟨h1, h2, h3⟩ t => by
    have h2 : n = G.fnm g := h2
    subst h2
    unfold putN putF
    by_cases e : g = f
    · subst e
      rw [if_pos rfl, if_pos rfl]
      exact .cons ⟨h1, rfl, r⟩ t
    · rw [if_neg e, if_neg fun z => e (G.inj g f h1 hf z)]
      exact .cons ⟨h1, rfl, h3⟩ (FRel.put hf r t)
/-- the classes: each may be looked at, none has the field's name -/
def ClsOk (K : PySem.W.Frag) (G : Cg) (cs : List Nat) (fs : List Nat) : Prop := ∀ c ∈ cs, Cls K (G.cA c) ∧ ∀ f ∈ fs, NoAttr K (G.cA c) (G.fnm f)
structure ClsAll (K : PySem.W.Frag) (G : Cg) : Prop where
  cls : ∀ c, Cls K (G.cA c)
  no : ∀ c f, f < G.nf → NoAttr K (G.cA c) (G.fnm f)
theorem s_fld {f : Nat} {nm : Str} (C : ClsAll X.K G) (hf : f < G.nf) (hn : G.fnm f = nm) (ha : PEm X G E a ma) (hb : attributeBase a nm X.env (eval a X.env) = eval a X.env := by rfl) : PEm X G E (.Attribute a nm pos) (eFld f ma) :=
  (pe_fld ha hb).imp fun σ H Q ⟨ρ, fr, μ, L, R, P⟩ => ⟨ρ, fr, μ, L, R, PostE.bndE P fun d μ1 _ v ρ1 H1 g1 R1 r1 P1 => by
    subst hn
    cases r1 with
    | @ref n a e =>
      cases q : μ1[n]? with
      | none => simp only [q] at P1; exact P1.elim
      | some o =>
        simp only [q] at P1
        cases o with
        | ins c fs =>
          obtain ⟨dx, gs, h1, h2⟩ := R1.obj n a _ e q
          cases q2 : fs.lookup f with
          | none => simp only [q2] at P1; exact P1.elim
          | some d =>
            simp only [q2] at P1
            obtain ⟨v, q3, r3⟩ := FRel.look hf h2 d q2
            exact ⟨a, _, dx, gs, v, rfl, h1, C.cls c, C.no c f hf, q3, P1 v ρ1 H1 Grow.refl R1 r3⟩
        | _ => exact P1.elim
    | _ => exact P1.elim⟩

/-! ### statements -/
variable {Dn : Ends}
theorem s_pass : PSm X G E (.Pass pos) sNx := ps_pass.imp fun Dn σ H ⟨ρ, fr, μ, L, R, P⟩ => P σ ρ H Grow.refl R L
theorem ss_nil : PSsm X G E [] sNx := pss_nil.imp fun Dn σ H ⟨ρ, fr, μ, L, R, P⟩ => P σ ρ H Grow.refl R L
theorem ss_one {st : Stmt} {m : SM} (h : PSm X G E st m) : PSsm X G E [st] m := pss_one h
theorem ss_cons {st : Stmt} {sts : List Stmt} {m ms : SM} (h : PSm X G E st m) (hs : PSsm X G E sts ms) : PSsm X G E (st :: sts) (sSeq m ms) :=
  (pss_cons h hs).imp fun Dn σ H ⟨ρ, fr, μ, L, R, P⟩ => ⟨ρ, fr, μ, L, R, by
    unfold sSeq at P
    cases e : m fr μ with
    | nx fr1 μ1 =>
      rw [e] at P
      exact fun σ1 ρ1 H1 g1 R1 L1 => ⟨ρ1, fr1, μ1, L1, R1, PostS.mono g1 P⟩
    | _ => rw [e] at P; exact P⟩
theorem Lc.set {k : Nat} {d : D} {v : V} (L : Lc K ρ H σ fr) (r : Rel K ρ H d v) : Lc K ρ H (σ.set k (some v)) (fr.set k d) := by
  refine ⟨by simp [L.1], fun j e h => ?_⟩
  by_cases hj : k = j
  · subst hj
    have hk : k < fr.length := by
      have := (List.getElem?_eq_some_iff.mp h).1
      simpa using this
    rw [List.getElem?_set_self hk] at h
    cases h
    exact .inr ⟨v, List.getElem?_set_self (by rw [L.1]; exact hk), r⟩
  · rw [List.getElem?_set_ne hj] at h
    rcases L.2 j e h with q | ⟨w, q1, q2⟩
    · exact .inl q
    · exact .inr ⟨w, by rw [List.getElem?_set_ne hj]; exact q1, q2⟩
/-- name = e -/
theorem s_set (i : Nat) {x : Str} {p : Pos} {e : Expr} {m : EM} (h : PEm X G E e m) (nd : X.N.Nodup) (hN : X.N[i]? = some x := by rfl) (hv : L2.Loc X.env.scope x := by first | exact Or.inl rfl | exact Or.inr rfl)
    (hs : swapsWith e (some (.Name x p)) pos.line X.env = pure false := by rfl) (hf : X.fn x = true ∨ X.env.scope.names.lookup x = some .local := by first | exact .inl rfl | exact .inr rfl) :
    PSm X G E (.Assign [.Name x p] e pos) (sAsg i m) :=
  (ps_set (i := i) nd hN hv h hs hf).imp fun Dn σ H ⟨ρ, fr, μ, L, R, P⟩ => ⟨ρ, fr, μ, L, R, PostS.bndE P fun d μ1 _ v ρ1 H1 g1 R1 r1 P1 => P1 _ ρ1 H1 Grow.refl R1 ((L.mono g1).set r1)⟩
theorem s_exp {e : Expr} {m : EM} (h : PEm X G E e m) (hs : swapsWith e none pos.line X.env = pure false := by rfl) : PSm X G E (.Expr e pos) (sExp m) :=
  (ps_expr h hs).imp fun Dn σ H ⟨ρ, fr, μ, L, R, P⟩ => ⟨ρ, fr, μ, L, R, PostS.bndE P fun d μ1 _ v ρ1 H1 g1 R1 r1 P1 => P1 σ ρ1 H1 Grow.refl R1 (L.mono g1)⟩
theorem s_ret {e : Expr} {m : EM} (h : PEm X G E e m) : PSm X G E (.Return (some e) pos) (sRet m) :=
  (ps_ret h).imp fun Dn σ H ⟨ρ, fr, μ, L, R, P⟩ => ⟨ρ, fr, μ, L, R, PostS.bndE P fun d μ1 _ v ρ1 H1 g1 R1 r1 P1 => P1 v ρ1 H1 Grow.refl R1 r1⟩
theorem s_if {t : Expr} {mt : TM} {as bs : List Stmt} {m1 m2 : SM} (ht : PTm X G E t mt) (ha : PSsm X G E as m1) (hb : PSsm X G E bs m2) : PSm X G E (.If t as bs pos) (sIf mt m1 m2) :=
  (ps_if ht ha hb).imp fun Dn σ H ⟨ρ, fr, μ, L, R, P⟩ => ⟨ρ, fr, μ, L, R, PostS.bndT P fun k μ1 _ ρ1 H1 g1 R1 P1 => by
    cases k with
    | true => exact ⟨ρ1, fr, μ1, L.mono g1, R1, P1⟩
    | false => exact ⟨ρ1, fr, μ1, L.mono g1, R1, P1⟩⟩
theorem s_brk : PSm X G E (.Break pos) sBrk := ps_break.imp fun Dn σ H ⟨ρ, fr, μ, L, R, P⟩ => P σ ρ H Grow.refl R L
theorem s_ct : PSm X G E (.Continue pos) sCt := ps_continue.imp fun Dn σ H ⟨ρ, fr, μ, L, R, P⟩ => P σ ρ H Grow.refl R L
theorem s_sfld {f : Nat} {nm : Str} {p : Pos} {o e : Expr} {mo me : EM} (C : ClsAll X.K G) (hf : f < G.nf) (hn : G.fnm f = nm) (ho : PEm X G E o mo) (he : PEm X G E e me)
    (hs : swapsWith e (some (.Attribute o nm p)) pos.line X.env = pure false := by rfl) : PSm X G E (.Assign [.Attribute o nm p] e pos) (sFldM f mo me) :=
  (ps_fld ho he hs).imp fun Dn σ H ⟨ρ, fr, μ, L, R, P⟩ => ⟨ρ, fr, μ, L, R, PostS.bndE P fun d μ1 _ v ρ1 H1 g1 R1 r1 P1 => ⟨ρ1, fr, μ1, L.mono g1, R1, PostS.bndE P1 fun x μ2 _ y ρ2 H2 g2 R2 r2 P2 => by
    subst hn
    cases r2 with
    | @ref n a e =>
      cases q : μ2[n]? with
      | none => simp only [q] at P2; exact P2.elim
      | some ob =>
        simp only [q] at P2
        cases ob with
        | ins c fs =>
          obtain ⟨dx, gs, h1, h2⟩ := R2.obj n a _ e q
          simp only at P2
          split at P2
          · rename_i hl
            have hlen := Paired.length h2
            have hm := R2.mutOf e
            refine ⟨a, _, dx, gs, rfl, h1, C.cls c, C.no c f hf, by omega, ?_⟩
            refine P2 σ ρ2 _ (Grow.mut hm) (R2.set e ⟨dx, _, upd_same, ?_⟩) ((L.mono (g1.trans g2)).mono (Grow.mut hm))
            exact FRel.put hf ((r1.mono g2).mono (Grow.mut hm)) (FRel.mono (Grow.mut hm) h2)
          · exact P2.elim
        | _ => exact P2.elim
    | _ => exact P2.elim⟩⟩
end
end Lw

set_option Elab.async false
set_option linter.all false
set_option maxRecDepth 100000
set_option maxHeartbeats 4000000
/-! Defs, loops, comprehensions. -/
namespace Lw
open PySem PySem.Spec PyProof.Rows L2

/-! ### the functions -/
/-- a loop over items that stand still -/
def forL (g : D → Fr → Option Fr) (body : SM) : List D → Fr → Mu → RS
  | [], fr, μ => .nx fr μ
  | x :: xs, fr, μ => match g x fr with
    | none => .bad
    | some fr1 => match body fr1 μ with
      | .nx fr2 μ2 => forL g body xs fr2 μ2
      | .ct fr2 μ2 => forL g body xs fr2 μ2
      | .brk fr2 μ2 => .nx fr2 μ2
      | r => r
/-- a loop over the list at n as it stands at each turn -/
def forM (g : D → Fr → Option Fr) (body : SM) (n : Nat) : Nat → Nat → Fr → Mu → RS
  | 0, i, fr, μ => match μ[n]? with
    | some (.lst xs) => if xs.length ≤ i then .nx fr μ else .bad
    | _ => .bad
  | m + 1, i, fr, μ => match μ[n]? with
    | some (.lst xs) => match xs[i]? with
      | none => .bad
      | some x => match g x fr with
        | none => .bad
        | some fr1 => match body fr1 μ with
          | .nx fr2 μ2 => forM g body n m (i + 1) fr2 μ2
          | .ct fr2 μ2 => forM g body n m (i + 1) fr2 μ2
          | .brk fr2 μ2 => .nx fr2 μ2
          | r => r
    | _ => .bad
/-- for over a list, a tuple -/
def sFor (g : D → Fr → Option Fr) (e : EM) (body : SM) : SM := fun fr μ => bndS fr (e fr μ) fun d μ1 => match d with
  | .ref n => match μ1[n]? with
    | some (.lst xs) => forM g body n xs.length 0 fr μ1
    | _ => .bad
  | .tup xs => forL g body xs fr μ1
  | .frl xs => forL g body xs fr μ1
  | .str xs => forL g body (xs.map fun c => .str [c]) fr μ1
  | _ => .bad
def rngL (lo : Int) (n : Nat) : List D := (List.range n).map fun i => .int (lo + (i : Nat))
/-- for over range(n) -/
def sForR (g : D → Fr → Option Fr) (a : AM) (body : SM) : SM := fun fr μ => bndS fr (a fr μ) fun ds μ1 => match ds with
  | [.int j] => if -(2 ^ 62) ≤ j ∧ j < 2 ^ 62 then forL g body (rngL 0 j.toNat) fr μ1 else .bad
  | [.int i, .int j] => if -(2 ^ 62) ≤ i ∧ i < 2 ^ 62 ∧ -(2 ^ 62) ≤ j ∧ j < 2 ^ 62 then forL g body (rngL i (j - i).toNat) fr μ1 else .bad
  | _ => .bad
def gN (k : Nat) : D → Fr → Option Fr := fun x fr => some (fr.set k x)
/-- while, so many turns at most -/
def whM (t : TM) (body : SM) : Nat → SM
  | 0, _, _ => .bad
  | m + 1, fr, μ => bndS fr (t fr μ) fun c μ1 => if c = true then (match body fr μ1 with
      | .nx fr2 μ2 => whM t body m fr2 μ2
      | .ct fr2 μ2 => whM t body m fr2 μ2
      | .brk fr2 μ2 => .nx fr2 μ2
      | r => r) else .nx fr μ1
def sWhile (m : Nat) (t : TM) (body : SM) : SM := whM t body m
/-- comprehensions -/
def wipF (fr : Fr) : List Nat → Fr
  | [] => fr
  | v :: vs => (wipF fr vs).set v .und
def lcPut (n : Nat) (y : D) (μ : Mu) : Option Mu := match μ[n]? with
  | some (.lst acc) => if acc.length < 10000000 then some (μ.set n (.lst (acc ++ [y]))) else none
  | _ => none
def lcL (g : D → Fr → Option Fr) (t : TM) (e : EM) (n : Nat) : List D → Fr → Mu → Res D
  | [], _, μ => .ok (.ref n) μ
  | x :: xs, fr, μ => match g x fr with
    | none => .bad
    | some fr1 => bnd (t fr1 μ) fun c μ1 => if c = true then bnd (e fr1 μ1) fun y μ2 => (match lcPut n y μ2 with
        | some μ3 => lcL g t e n xs fr μ3
        | none => .bad) else lcL g t e n xs fr μ1
def lcM (g : D → Fr → Option Fr) (t : TM) (e : EM) (l n : Nat) : Nat → Nat → Fr → Mu → Res D
  | 0, i, fr, μ => match μ[l]? with
    | some (.lst xs) => if xs.length ≤ i then .ok (.ref n) μ else .bad
    | _ => .bad
  | m + 1, i, fr, μ => match μ[l]? with
    | some (.lst xs) => match xs[i]? with
      | none => .bad
      | some x => match g x fr with
        | none => .bad
        | some fr1 => bnd (t fr1 μ) fun c μ1 => if c = true then bnd (e fr1 μ1) fun y μ2 => (match lcPut n y μ2 with
            | some μ3 => lcM g t e l n m (i + 1) fr μ3
            | none => .bad) else lcM g t e l n m (i + 1) fr μ1
    | _ => .bad
/-- nothing raised leaves a comprehension here -/
def noX (r : Res D) : Res D := match r with
  | .exc _ _ => .bad
  | r => r
def eLc (g : D → Fr → Option Fr) (it : EM) (t : TM) (e : EM) (vs : List Nat) : EM := fun fr μ => bnd (it fr μ) fun d μ1 => match d with
  | .ref l => match μ1[l]? with
    | some (.lst xs) => noX (lcM g t e l μ1.length xs.length 0 (wipF fr vs) (μ1 ++ [.lst []]))
    | _ => .bad
  | .tup xs => noX (lcL g t e μ1.length xs (wipF fr vs) (μ1 ++ [.lst []]))
  | .frl xs => noX (lcL g t e μ1.length xs (wipF fr vs) (μ1 ++ [.lst []]))
  | .str xs => noX (lcL g t e μ1.length (xs.map fun c => .str [c]) (wipF fr vs) (μ1 ++ [.lst []]))
  | _ => .bad
def eLcR (g : D → Fr → Option Fr) (a : AM) (t : TM) (e : EM) (vs : List Nat) : EM := fun fr μ => bnd (a fr μ) fun ds μ1 => match ds with
  | [.int j] => if -(2 ^ 62) ≤ j ∧ j < 2 ^ 62 then noX (lcL g t e μ1.length (rngL 0 j.toNat) (wipF fr vs) (μ1 ++ [.lst []])) else .bad
  | [.int i, .int j] => if -(2 ^ 62) ≤ i ∧ i < 2 ^ 62 ∧ -(2 ^ 62) ≤ j ∧ j < 2 ^ 62 then noX (lcL g t e μ1.length (rngL i (j - i).toNat) (wipF fr vs) (μ1 ++ [.lst []])) else .bad
  | _ => .bad
def tYesM : TM := fun _ μ => .ok true μ

section
variable {X : Cx} {G : Cg} {E : XK} {K : PySem.W.Frag} {ρ ρ' : List Addr} {H H' : Hp} {μ μ' : Mu} {σ : L2.St} {fr : Fr} {Dn : Ends}

/-! ### a def -/
theorem lc_start {N : List Str} {vs : List V} {ds : List D} (r : Rels K ρ H ds vs) (hl : vs.length ≤ N.length) : Lc K ρ H (start N vs) (ds ++ List.replicate (N.length - vs.length) .und) := by
  have e := Paired.length r
  refine ⟨by simp [L2.start, e], fun k d h => ?_⟩
  by_cases hk : k < ds.length
  · rw [List.getElem?_append_left hk] at h
    obtain ⟨v, q1, q2⟩ := Paired.getR r h
    refine .inr ⟨v, ?_, q2⟩
    unfold L2.start
    rw [List.getElem?_append_left (by simp; omega), List.getElem?_map, q1]
    rfl
  · rw [List.getElem?_append_right (by omega)] at h
    exact .inl (by have := List.mem_of_getElem? h; exact (List.mem_replicate.mp this).2)
theorem ok_def {P : Program} {w : World} {mg : Str → Option Value} {base : Heap} {x qual : Str} {params : Arguments} {body : List Stmt} {scope : Scope} {f : Addr} {fd : FuncData} {N ps : List Str} {k many : Nat} {m : SM}
    (F : FunD K x qual params body scope [] [] f fd) (S : FnScope N ps scope) (hp : ps.length ≤ N.length) (hm : N.length - ps.length = many)
    (hb : ∀ (cdv : Value) (A : Around) (outer : List Env) (s : Shared) (H : Hp) (E : XK), Room k (A.deeper (envOfC qual scope s.heap.objs.size f cdv)) →
      PSsm (cxOf (L2.CX P w) P w K mg base N qual scope f cdv A outer s H E) G E body m) :
    FnOk P w K mg base (L2.CX P w) (k + 1) f fd ps (spM K G (defM ps.length many m)) := by
  refine F.ok S (fun vs H Q E h => ?_) (fun cdv A outer s H vs Q E hr h => ⟨_, hb cdv A outer s H E hr, ?_⟩)
  · obtain ⟨ρ, μ, ds, R, r, P⟩ := h
    rw [← Paired.length r]
    unfold defM at P
    by_cases e : ds.length = ps.length
    · exact e
    · rw [if_neg e] at P; exact P.elim
  · obtain ⟨ρ, μ, ds, R, r, P⟩ := h
    have e := Paired.length r
    unfold defM at P
    by_cases el : ds.length = ps.length
    · rw [if_pos el] at P
      refine ⟨ρ, ds ++ List.replicate many .und, μ, ?_, R, ?_⟩
      · have := lc_start (N := N) r (by omega)
        have e2 : N.length - vs.length = many := by omega
        rw [e2] at this
        exact this
      · cases e3 : m (ds ++ List.replicate many .und) μ with
        | nx fr1 μ1 => rw [e3] at P; exact fun σ' ρ' H' g R' L' => P _ ρ' H' g R' .non
        | ret d μ1 => rw [e3] at P; exact P
        | brk fr1 μ1 => rw [e3] at P; exact P.elim
        | ct fr1 μ1 => rw [e3] at P; exact P.elim
        | exc e fr1 μ1 => rw [e3] at P; exact P
        | bad => rw [e3] at P; exact P.elim
    · rw [if_neg el] at P; exact P.elim

/-! ### targets -/
/-- the target g does what the reading t says -/
def TgS (K : PySem.W.Frag) (G : Cg) (t : TG) (g : D → Fr → Option Fr) : Prop := ∀ ρ H σ fr d v fr1 Q, Lc K ρ H σ fr → Rel K ρ H d v → g d fr = some fr1 → (∀ σ1, Lc K ρ H σ1 fr1 → Q σ1 H) → t v σ H Q
theorem tg_name {k : Nat} : TgS K G (gName k) (gN k) := fun ρ H σ fr d v fr1 Q L r e q => by
  cases e
  exact q _ (L.set r)

/-! ### for -/
theorem rng_get {lo : Int} {n i : Nat} : (rngL lo n)[i]? = if i < n then some (.int (lo + (i : Nat))) else none := by
  unfold rngL
  rw [List.getElem?_map]
  by_cases h : i < n
  · rw [if_pos h, List.getElem?_range h]; rfl
  · rw [if_neg h, List.getElem?_eq_none (by simp; omega)]; rfl
/-- the turns of a loop over items that stand still -/
theorem for_turns {J : It} {t : TG} {g : D → Fr → Option Fr} {body : SM} {xs : List D} (hg : TgS K G t g)
    (hstop : ∀ ρ1 H1, Grow K ρ H ρ1 H1 → J.stop xs.length H1) (hgo : ∀ i ρ1 H1, i < xs.length → Grow K ρ H ρ1 H1 → J.go i H1)
    (hy : ∀ i d ρ1 H1 v H2, xs[i]? = some d → Grow K ρ H ρ1 H1 → J.yld i H1 v H2 → H2 = H1 ∧ Rel K ρ1 H1 d v)
    (L : Lc K ρ H σ fr) (R : HRel K G ρ μ H) (P : PostS K G E ρ H Dn (forL g body xs fr μ)) :
    ∃ W : Nat → Nat → L2.St → Hp → Prop, (∃ m, W 0 m σ H) ∧ ∀ i m σ H, W i m σ H →
      (J.stop i H ∧ Dn.nx σ H) ∨ (J.go i H ∧ ∃ N : L2.St → Hp → Prop, (∀ σ' H', N σ' H' → ∃ m', m' < m ∧ W (i + 1) m' σ' H') ∧ ∀ x H', J.yld i H x H' → t x σ H' fun σ2 H2 => rdS K G E body { Dn with nx := N, ct := N, bk := Dn.nx } σ2 H2) := by
  refine ⟨fun i m σ1 H1 => ∃ ρ1 fr1 μ1, i + m = xs.length ∧ Grow K ρ H ρ1 H1 ∧ Lc K ρ1 H1 σ1 fr1 ∧ HRel K G ρ1 μ1 H1 ∧ PostS K G E ρ1 H1 Dn (forL g body (xs.drop i) fr1 μ1),
    ⟨xs.length, ρ, fr, μ, by omega, Grow.refl, L, R, by simpa using P⟩, ?_⟩
  rintro i m σ1 H1 ⟨ρ1, fr1, μ1, hi, g1, L1, R1, P1⟩
  cases m with
  | zero =>
    have e : i = xs.length := by omega
    subst e
    refine .inl ⟨hstop ρ1 H1 g1, ?_⟩
    rw [List.drop_length] at P1
    exact P1 σ1 ρ1 H1 Grow.refl R1 L1
  | succ m =>
    have hlt : i < xs.length := by omega
    rw [List.drop_eq_getElem_cons hlt] at P1
    refine .inr ⟨hgo i ρ1 H1 hlt g1, fun σ' H' => ∃ ρ2 fr2 μ2, Grow K ρ H ρ2 H' ∧ Lc K ρ2 H' σ' fr2 ∧ HRel K G ρ2 μ2 H' ∧ PostS K G E ρ2 H' Dn (forL g body (xs.drop (i + 1)) fr2 μ2),
      fun σ' H' ⟨ρ2, fr2, μ2, q1, q2, q3, q4⟩ => ⟨m, Nat.lt_succ_self _, ρ2, fr2, μ2, by omega, q1, q2, q3, q4⟩, fun v H2 y => ?_⟩
    obtain ⟨e2, r⟩ := hy i xs[i] ρ1 H1 v H2 (by simp [hlt]) g1 y
    subst e2
    unfold forL at P1
    cases e : g xs[i] fr1 with
    | none => rw [e] at P1; exact P1.elim
    | some frb =>
      rw [e] at P1
      refine hg ρ1 H2 σ1 fr1 xs[i] v frb _ L1 r e fun σb Lb => ⟨ρ1, frb, μ1, Lb, R1, ?_⟩
      simp only at P1
      cases e3 : body frb μ1 with
      | nx fr2 μ2 => rw [e3] at P1; exact fun σ' ρ' H' g' R' L' => ⟨ρ', fr2, μ2, g1.trans g', L', R', PostS.mono g' P1⟩
      | ct fr2 μ2 => rw [e3] at P1; exact fun σ' ρ' H' g' R' L' => ⟨ρ', fr2, μ2, g1.trans g', L', R', PostS.mono g' P1⟩
      | brk fr2 μ2 => rw [e3] at P1; exact P1
      | ret d μ2 => rw [e3] at P1; exact P1
      | exc ex fr2 μ2 => rw [e3] at P1; exact P1
      | bad => rw [e3] at P1; exact P1.elim
/-- over a list that stands in the store -/
theorem for_turnsM {t : TG} {g : D → Fr → Option Fr} {body : SM} {n : Nat} {a : Addr} {m0 : Nat} (hg : TgS K G t g) (hn : ρ[n]? = some a)
    (L : Lc K ρ H σ fr) (R : HRel K G ρ μ H) (P : PostS K G E ρ H Dn (forM g body n m0 0 fr μ)) :
    ∃ W : Nat → Nat → L2.St → Hp → Prop, (∃ m, W 0 m σ H) ∧ ∀ i m σ H, W i m σ H →
      ((Itl K a).stop i H ∧ Dn.nx σ H) ∨ ((Itl K a).go i H ∧ ∃ N : L2.St → Hp → Prop, (∀ σ' H', N σ' H' → ∃ m', m' < m ∧ W (i + 1) m' σ' H') ∧ ∀ x H', (Itl K a).yld i H x H' → t x σ H' fun σ2 H2 => rdS K G E body { Dn with nx := N, ct := N, bk := Dn.nx } σ2 H2) := by
  refine ⟨fun i m σ1 H1 => ∃ ρ1 fr1 μ1, ρ1[n]? = some a ∧ Lc K ρ1 H1 σ1 fr1 ∧ HRel K G ρ1 μ1 H1 ∧ PostS K G E ρ1 H1 Dn (forM g body n m i fr1 μ1), ⟨m0, ρ, fr, μ, hn, L, R, P⟩, ?_⟩
  rintro i m σ1 H1 ⟨ρ1, fr1, μ1, hn1, L1, R1, P1⟩
  cases m with
  | zero =>
    unfold forM at P1
    cases q : μ1[n]? with
    | none => simp only [q] at P1; exact P1.elim
    | some o =>
      simp only [q] at P1
      cases o with
      | lst xs =>
        simp only at P1
        split at P1
        · rename_i hl
          obtain ⟨vs, h1, h2⟩ := R1.lst q hn1
          refine .inl ⟨⟨vs, SqL.of h1, by rw [← Paired.length h2]; exact hl⟩, P1 σ1 ρ1 H1 Grow.refl R1 L1⟩
        · exact P1.elim
      | _ => exact P1.elim
  | succ m =>
    unfold forM at P1
    cases q : μ1[n]? with
    | none => simp only [q] at P1; exact P1.elim
    | some o =>
      simp only [q] at P1
      cases o with
      | lst xs =>
        simp only at P1
        obtain ⟨vs, h1, h2⟩ := R1.lst q hn1
        cases qi : xs[i]? with
        | none => simp only [qi] at P1; exact P1.elim
        | some d =>
          simp only [qi] at P1
          obtain ⟨v, qv, r⟩ := Paired.getR h2 qi
          refine .inr ⟨⟨vs, v, SqL.of h1, qv⟩, fun σ' H' => ∃ ρ2 fr2 μ2, ρ2[n]? = some a ∧ Lc K ρ2 H' σ' fr2 ∧ HRel K G ρ2 μ2 H' ∧ PostS K G E ρ2 H' Dn (forM g body n m (i + 1) fr2 μ2),
            fun σ' H' ⟨ρ2, fr2, μ2, q1, q2, q3, q4⟩ => ⟨m, Nat.lt_succ_self _, ρ2, fr2, μ2, q1, q2, q3, q4⟩, fun v' H2 y => ?_⟩
          obtain ⟨e2, y⟩ := y
          subst e2
          have ev := y vs (SqL.of h1)
          rw [qv] at ev
          cases ev
          cases e : g d fr1 with
          | none => simp only [e] at P1; exact P1.elim
          | some frb =>
            simp only [e] at P1
            refine hg ρ1 H2 σ1 fr1 d v frb _ L1 r e fun σb Lb => ⟨ρ1, frb, μ1, Lb, R1, ?_⟩
            cases e3 : body frb μ1 with
            | nx fr2 μ2 => rw [e3] at P1; exact fun σ' ρ' H' g' R' L' => ⟨ρ', fr2, μ2, g'.pre _ _ hn1, L', R', PostS.mono g' P1⟩
            | ct fr2 μ2 => rw [e3] at P1; exact fun σ' ρ' H' g' R' L' => ⟨ρ', fr2, μ2, g'.pre _ _ hn1, L', R', PostS.mono g' P1⟩
            | brk fr2 μ2 => rw [e3] at P1; exact P1
            | ret d μ2 => rw [e3] at P1; exact P1
            | exc ex fr2 μ2 => rw [e3] at P1; exact P1
            | bad => rw [e3] at P1; exact P1.elim
      | _ => exact P1.elim
theorem FL.getL {a : Addr} {xs : List V} (h : FL K H a xs) (g : Grow K ρ H ρ' H') : SqL K H' a xs := (g.frl a xs h).sq
/-- any of two -/
theorem pi_or {tg iter : Expr} {w1 w2 : TI} (h1 : PI X tg iter w1) (h2 : PI X tg iter w2) : PI X tg iter (fun σ H R => w1 σ H R ∨ w2 σ H R) := ⟨fun pins s σ H R I h => by
  rcases h with h | h
  · exact h1.run pins s σ H R I h
  · exact h2.run pins s σ H R I h⟩
theorem s_for {iter tg : Expr} {body : List Stmt} {t : TG} {g : D → Fr → Option Fr} {mi : EM} {mb : SM} {pos : Pos} (hp : PassesOwn (model X.prog X.w) X.A X.env X.xe) (hc : X.calm = true) (hi : PEm X G E iter mi) (hg : PG X tg t) (hs : TgS X.K G t g) (hb : PSsm X G E body mb)
    (hf : ∀ x, foldedSetIterable iter X.env x = pure x := by intro _; rfl) : PSm X G E (.For tg iter body [] pos) (sFor g mi mb) :=
  (ps_for hp hc (pi_or (pi_list hi) (pi_or (pi_tup hi) (pi_str hi))) hg hb hf).imp fun Dn σ H ⟨ρ, fr, μ, L, R, P⟩ => by
    have key : ∀ d μ1, mi fr μ = .ok d μ1 → PostS X.K G E ρ H Dn (bndS fr (.ok d μ1) fun d μ1 => match d with
        | .ref n => match μ1[n]? with
          | some (.lst xs) => forM g mb n xs.length 0 fr μ1
          | _ => .bad
        | .tup xs => forL g mb xs fr μ1
        | .frl xs => forL g mb xs fr μ1
        | .str xs => forL g mb (xs.map fun c => .str [c]) fr μ1
        | _ => .bad) := fun d μ1 e => by
      have P' : PostS X.K G E ρ H Dn (sFor g mi mb fr μ) := P
      unfold sFor at P'
      rw [e] at P'
      exact P'
    cases e : mi fr μ with
    | bad =>
      have P' : PostS X.K G E ρ H Dn (sFor g mi mb fr μ) := P
      unfold sFor at P'
      rw [e] at P'
      exact P'.elim
    | exc ex μ1 =>
      have P' : PostS X.K G E ρ H Dn (sFor g mi mb fr μ) := P
      unfold sFor at P'
      rw [e] at P'
      exact .inl ⟨ρ, fr, μ, L, R, by rw [e]; exact P'⟩
    | ok d μ1 =>
      have P1 := key d μ1 e
      simp only [bndS_ok] at P1
      cases d with
      | ref n =>
        refine .inl ⟨ρ, fr, μ, L, R, by
          rw [e]
          intro v ρ1 H1 g1 R1 r1
          cases r1 with
          | @ref n a hn =>
            cases q : μ1[n]? with
            | none => simp only [q] at P1; exact P1.elim
            | some o =>
              simp only [q] at P1
              cases o with
              | lst xs =>
                obtain ⟨vs, h1, h2⟩ := R1.lst q hn
                exact ⟨a, rfl, ⟨vs, SqL.of h1⟩, for_turnsM hs hn (L.mono g1) R1 (PostS.mono g1 P1)⟩
              | _ => exact P1.elim⟩
      | tup xs =>
        refine .inr (.inl ⟨ρ, fr, μ, L, R, by
          rw [e]
          intro v ρ1 H1 g1 R1 r1
          cases r1 with
          | @tup a ds vs h hl f =>
            refine ⟨a, rfl, ⟨vs, h⟩, for_turns (J := Itt X.K a) hs (fun ρ2 H2 g2 => ⟨vs, g2.tup _ _ h, by omega⟩) (fun i ρ2 H2 hi g2 => ⟨vs, vs[i]'(by omega), g2.tup _ _ h, by simp [show i < vs.length by omega]⟩) (fun i d ρ2 H2 v H3 hd g2 y => ?_) (L.mono g1) R1 (PostS.mono g1 P1)⟩
            obtain ⟨e3, y⟩ := y
            exact ⟨e3, (f i d v hd (y vs (g2.tup _ _ h))).mono g2⟩⟩)
      | frl xs =>
        refine .inl ⟨ρ, fr, μ, L, R, by
          rw [e]
          intro v ρ1 H1 g1 R1 r1
          cases r1 with
          | @frl a ds vs h hl f =>
            refine ⟨a, rfl, ⟨vs, h.sq⟩, for_turns (J := Itl X.K a) hs (fun ρ2 H2 g2 => ⟨vs, (g2.frl _ _ h).sq, by omega⟩) (fun i ρ2 H2 hi g2 => ⟨vs, vs[i]'(by omega), (g2.frl _ _ h).sq, by simp [show i < vs.length by omega]⟩) (fun i d ρ2 H2 v H3 hd g2 y => ?_) (L.mono g1) R1 (PostS.mono g1 P1)⟩
            obtain ⟨e3, y⟩ := y
            exact ⟨e3, (f i d v hd (y vs (g2.frl _ _ h).sq)).mono g2⟩⟩
      | str xs =>
        refine .inr (.inr ⟨ρ, fr, μ, L, R, by
          rw [e]
          intro v ρ1 H1 g1 R1 r1
          cases r1 with
          | str =>
            refine ⟨⟨xs.toArray⟩, rfl, for_turns (J := Its ⟨xs.toArray⟩) hs (fun ρ2 H2 g2 => show xs.toArray.size ≤ _ by simp) (fun i ρ2 H2 hi g2 => show i < xs.toArray.size by simpa using hi) (fun i d ρ2 H2 v H3 hd g2 y => ?_) (L.mono g1) R1 (PostS.mono g1 P1)⟩
            obtain ⟨e3, c, hc1, hc2⟩ := y
            refine ⟨e3, ?_⟩
            rw [List.getElem?_map] at hd
            have hc3 : xs[i]? = some c := by simpa using hc1
            rw [hc3] at hd
            cases hd
            rw [hc2]
            exact .str [c]⟩)
      | _ => exact P1.elim
theorem rng_turns {t : TG} {g : D → Fr → Option Fr} {body : SM} {lo : Int} {n : Nat} (hg : TgS K G t g) (L : Lc K ρ H σ fr) (R : HRel K G ρ μ H) (P : PostS K G E ρ H Dn (forL g body (rngL lo n) fr μ)) :
    ∃ W : Nat → Nat → L2.St → Hp → Prop, (∃ m, W 0 m σ H) ∧ ∀ i m σ H, W i m σ H →
      ((Itr lo n).stop i H ∧ Dn.nx σ H) ∨ ((Itr lo n).go i H ∧ ∃ N : L2.St → Hp → Prop, (∀ σ' H', N σ' H' → ∃ m', m' < m ∧ W (i + 1) m' σ' H') ∧ ∀ x H', (Itr lo n).yld i H x H' → t x σ H' fun σ2 H2 => rdS K G E body { Dn with nx := N, ct := N, bk := Dn.nx } σ2 H2) := by
  have hl : (rngL lo n).length = n := by simp [rngL]
  refine for_turns (J := Itr lo n) hg (fun ρ2 H2 g2 => show n ≤ (rngL lo n).length by omega) (fun i ρ2 H2 hi g2 => show i < n by omega) (fun i d ρ2 H2 v H3 hd g2 y => ?_) L R P
  obtain ⟨e3, y⟩ := y
  refine ⟨e3, ?_⟩
  rw [rng_get] at hd
  split at hd
  · cases hd
    rw [y]
    exact .int _
  · cases hd
theorem s_forR1 {tg e : Expr} {p cpos : Pos} {body : List Stmt} {t : TG} {g : D → Fr → Option Fr} {ma : AM} {mb : SM} {pos : Pos} (hp : PassesOwn (model X.prog X.w) X.A X.env X.xe) (hc : X.calm = true) (hg0 : Gl X "range") (hm : X.mg "range" = none) (ha : PAm X G E [e] ma)
    (hg : PG X tg t) (hs : TgS X.K G t g) (hb : PSsm X G E body mb) (hst : starEach [e] X.env = [(false, eval e X.env)] := by rfl) (hf : ∀ x, foldedSetIterable (.Call (.Name "range" p) [e] [] cpos) X.env x = pure x := by intro _; rfl) :
    PSm X G E (.For tg (.Call (.Name "range" p) [e] [] cpos) body [] pos) (sForR g ma mb) :=
  (ps_for hp hc (pi_range1 hg0 hm ha.pa hst) hg hb hf).imp fun Dn σ H ⟨ρ, fr, μ, L, R, P⟩ => ⟨ρ, fr, μ, L, R, by
    have P' : PostS X.K G E ρ H Dn (sForR g ma mb fr μ) := P
    unfold sForR at P'
    cases e1 : ma fr μ with
    | bad => rw [e1] at P'; exact P'.elim
    | exc ex μ1 => rw [e1] at P'; exact P'
    | ok ds μ1 =>
      rw [e1] at P'
      have hl := ha.len _ _ _ _ e1
      intro vs ρ1 H1 g1 R1 r1
      simp only [bndS_ok] at P'
      split at P'
      · rename_i j
        split at P'
        · rename_i hj
          cases r1 with
          | cons r1 r2 => cases r1; cases r2; exact ⟨j, rfl, hj.1, hj.2, rng_turns hs (L.mono g1) R1 (PostS.mono g1 P')⟩
        · exact P'.elim
      · simp at hl
      · exact P'.elim⟩
theorem s_forR2 {tg e e2 : Expr} {p cpos : Pos} {body : List Stmt} {t : TG} {g : D → Fr → Option Fr} {ma : AM} {mb : SM} {pos : Pos} (hp : PassesOwn (model X.prog X.w) X.A X.env X.xe) (hc : X.calm = true) (hg0 : Gl X "range") (hm : X.mg "range" = none) (ha : PAm X G E [e, e2] ma)
    (hg : PG X tg t) (hs : TgS X.K G t g) (hb : PSsm X G E body mb) (hst : starEach [e, e2] X.env = [(false, eval e X.env), (false, eval e2 X.env)] := by rfl) (hst2 : starEach [e2] X.env = [(false, eval e2 X.env)] := by rfl)
    (hf : ∀ x, foldedSetIterable (.Call (.Name "range" p) [e, e2] [] cpos) X.env x = pure x := by intro _; rfl) :
    PSm X G E (.For tg (.Call (.Name "range" p) [e, e2] [] cpos) body [] pos) (sForR g ma mb) :=
  (ps_for hp hc (pi_range2 hg0 hm ha.pa hst hst2) hg hb hf).imp fun Dn σ H ⟨ρ, fr, μ, L, R, P⟩ => ⟨ρ, fr, μ, L, R, by
    have P' : PostS X.K G E ρ H Dn (sForR g ma mb fr μ) := P
    unfold sForR at P'
    cases e1 : ma fr μ with
    | bad => rw [e1] at P'; exact P'.elim
    | exc ex μ1 => rw [e1] at P'; exact P'
    | ok ds μ1 =>
      rw [e1] at P'
      have hl := ha.len _ _ _ _ e1
      intro vs ρ1 H1 g1 R1 r1
      simp only [bndS_ok] at P'
      split at P'
      · simp at hl
      · rename_i i j
        split at P'
        · rename_i hj
          cases r1 with
          | cons r1 r2 => cases r1; cases r2 with
            | cons r2 r3 => cases r2; cases r3; exact ⟨i, j, rfl, hj, rng_turns hs (L.mono g1) R1 (PostS.mono g1 P')⟩
        · exact P'.elim
      · exact P'.elim⟩
/-! ### while -/
theorem s_while (m : Nat) {c : Expr} {body : List Stmt} {t : TM} {mb : SM} {pos : Pos} (hp : PassesOwn (model X.prog X.w) X.A X.env X.xe) (hc : PTm X G E c t) (hb : PSsm X G E body mb) : PSm X G E (.While c body [] pos) (sWhile m t mb) :=
  (ps_while hp hc hb).imp fun Dn σ H ⟨ρ, fr, μ, L, R, P⟩ => by
    refine ⟨fun m σ1 H1 => ∃ ρ1 fr1 μ1, Lc X.K ρ1 H1 σ1 fr1 ∧ HRel X.K G ρ1 μ1 H1 ∧ PostS X.K G E ρ1 H1 Dn (whM t mb m fr1 μ1), ⟨m, ρ, fr, μ, L, R, P⟩, ?_⟩
    rintro n σ1 H1 ⟨ρ1, fr1, μ1, L1, R1, P1⟩
    cases n with
    | zero => exact P1.elim
    | succ n =>
      unfold whM at P1
      refine ⟨ρ1, fr1, μ1, L1, R1, PostS.bndT P1 fun k μ2 _ ρ2 H2 g2 R2 P2 => ?_⟩
      cases k with
      | false => exact P2 σ1 ρ2 H2 Grow.refl R2 (L1.mono g2)
      | true =>
        show ∃ N : L2.St → Hp → Prop, _
        refine ⟨fun σ' H' => ∃ ρ1 fr1 μ1, Lc X.K ρ1 H' σ' fr1 ∧ HRel X.K G ρ1 μ1 H' ∧ PostS X.K G E ρ1 H' Dn (whM t mb n fr1 μ1), fun σ' H' q => ⟨n, Nat.lt_succ_self _, q⟩, ρ2, fr1, μ2, L1.mono g2, R2, ?_⟩
        simp only [if_true] at P2
        cases e3 : mb fr1 μ2 with
        | nx fr2 μ3 => rw [e3] at P2; exact fun σ' ρ' H' g' R' L' => ⟨ρ', fr2, μ3, L', R', PostS.mono g' P2⟩
        | ct fr2 μ3 => rw [e3] at P2; exact fun σ' ρ' H' g' R' L' => ⟨ρ', fr2, μ3, L', R', PostS.mono g' P2⟩
        | brk fr2 μ3 => rw [e3] at P2; exact P2
        | ret d μ3 => rw [e3] at P2; exact P2
        | exc ex fr2 μ3 => rw [e3] at P2; exact P2
        | bad => rw [e3] at P2; exact P2.elim
end
end Lw

set_option Elab.async false
set_option linter.all false
set_option maxRecDepth 100000
set_option maxHeartbeats 4000000
/-! List comprehensions. -/
namespace Lw
open PySem PySem.Spec PyProof.Rows L2
section
variable {X : Cx} {G : Cg} {E : XK} {K : PySem.W.Frag} {ρ ρ' : List Addr} {H H' : Hp} {μ μ' : Mu} {σ : L2.St} {fr : Fr} {Dn : Ends}
theorem wipe_get (σ : L2.St) (i : Nat) : ∀ vs : List Nat, (wipe σ vs)[i]? = if i ∈ vs then (σ[i]?).map fun _ => none else σ[i]?
  | [] => by simp [wipe]
  | v :: vs => by
    show ((wipe σ vs).set v none)[i]? = _
    rw [List.getElem?_set]
    by_cases h : v = i
    · subst h
      rw [if_pos rfl]
      by_cases hl : v < σ.length
      · simp [wipe_length, hl]
      · simp [wipe_length, hl]
    · rw [if_neg h, wipe_get σ i vs]
      have : (i ∈ v :: vs) = (i ∈ vs) := by simp [show ¬ i = v from fun e => h e.symm]
      simp only [this]
theorem wipF_get (fr : Fr) (i : Nat) : ∀ vs : List Nat, (wipF fr vs)[i]? = if i ∈ vs then (fr[i]?).map fun _ => .und else fr[i]?
  | [] => by simp [wipF]
  | v :: vs => by
    show ((wipF fr vs).set v .und)[i]? = _
    have hw : ∀ ws : List Nat, (wipF fr ws).length = fr.length := fun ws => by
      induction ws with
      | nil => rfl
      | cons w ws ih => show ((wipF fr ws).set w .und).length = _; simp [ih]
    rw [List.getElem?_set]
    by_cases h : v = i
    · subst h
      rw [if_pos rfl]
      by_cases hl : v < fr.length
      · simp [hw, hl]
      · simp [hw, hl]
    · rw [if_neg h, wipF_get fr i vs]
      have : (i ∈ v :: vs) = (i ∈ vs) := by simp [show ¬ i = v from fun e => h e.symm]
      simp only [this]
theorem wipF_length (fr : Fr) (vs : List Nat) : (wipF fr vs).length = fr.length := by
  induction vs with
  | nil => rfl
  | cons w ws ih => show ((wipF fr ws).set w .und).length = _; simp [ih]
theorem wipe_set {σ : L2.St} {k : Nat} {vs : List Nat} {x : Option V} (h : k ∈ vs) : wipe ((wipe σ vs).set k x) vs = wipe σ vs := by
  apply List.ext_getElem?
  intro i
  rw [wipe_get, wipe_get]
  by_cases hi : i ∈ vs
  · rw [if_pos hi, if_pos hi, List.getElem?_set]
    split
    · rename_i e
      subst e
      by_cases hl : k < σ.length
      · simp [wipe_length, hl]
      · simp [wipe_length, hl]
    · rw [wipe_get, if_pos hi]
      cases σ[i]? <;> rfl
  · rw [if_neg hi, if_neg hi, List.getElem?_set_ne (show k ≠ i from fun e => hi (e ▸ h)), wipe_get, if_neg hi]
theorem Lc.wipe {vs : List Nat} (L : Lc K ρ H σ fr) : Lc K ρ H (wipe σ vs) (wipF fr vs) := by
  refine ⟨by rw [wipe_length, wipF_length, L.1], fun k d h => ?_⟩
  rw [wipF_get] at h
  by_cases hk : k ∈ vs
  · rw [if_pos hk] at h
    cases e : fr[k]? with
    | none => rw [e] at h; cases h
    | some x => rw [e] at h; cases h; exact .inl rfl
  · rw [if_neg hk] at h
    rcases L.2 k d h with q | ⟨v, q1, q2⟩
    · exact .inl q
    · exact .inr ⟨v, by rw [wipe_get, if_neg hk]; exact q1, q2⟩
/-- a target within a comprehension -/
def TgW (K : PySem.W.Frag) (G : Cg) (t : TG) (g : D → Fr → Option Fr) (vs : List Nat) : Prop := ∀ ρ H σ fr d v fr1 Q, Lc K ρ H (wipe σ vs) fr → Rel K ρ H d v → g d fr = some fr1 → (∀ σ1, Lc K ρ H σ1 fr1 → wipe σ1 vs = wipe σ vs → Q σ1 H) → t v (wipe σ vs) H Q
theorem tgw_name {k : Nat} {vs : List Nat} (h : k ∈ vs := by decide) : TgW K G (gName k) (gN k) vs := fun ρ H σ fr d v fr1 Q L r e q => by
  cases e
  exact q _ (L.set r) (wipe_set h)
/-- the tests of a clause -/
abbrev PTsm (X : Cx) (G : Cg) (E : XK) (ifs : List Expr) (m : TM) : Prop := PTs X ifs (rdT X.K G E m)
theorem s_noIf : PTsm X G E [] tYesM := ⟨fun pins s σ H Q I ⟨ρ, fr, μ, L, R, P⟩ => pts_nil.run pins s σ H Q I (P ρ H Grow.refl R)⟩
theorem s_oneIf {c : Expr} {m : TM} (h : PTm X G E c m) : PTsm X G E [c] m := pts_one h

theorem noX_post {Q : VK} {r : Res D} (h : PostE K G E ρ H Q (noX r)) : PostE K G E0 ρ H Q r := by
  cases r with
  | ok d μ' => exact h
  | exc e μ' => exact h.elim
  | bad => exact h
theorem lcPut_ok {n : Nat} {Dl : Addr} {y : D} {v : V} {μ3 : Mu} (R : HRel K G ρ μ H) (hn : ρ[n]? = some Dl) (r : Rel K ρ H y v) (h : lcPut n y μ = some μ3) :
    ∃ acc, H Dl = some (.lst acc) ∧ acc.length < sizeLine ∧ HRel K G ρ μ3 (upd H Dl (.lst (acc ++ [v]))) ∧ Mut (H Dl) := by
  unfold lcPut at h
  cases q : μ[n]? with
  | none => simp only [q] at h; cases h
  | some o =>
    simp only [q] at h
    cases o with
    | lst xs =>
      simp only at h
      split at h
      · rename_i hl
        cases h
        obtain ⟨vs, h1, h2⟩ := R.lst q hn
        have hm := R.mutOf hn
        refine ⟨vs, h1, ?_, R.set hn ⟨_, upd_same, Paired.snoc (h2.mono (Grow.mut hm)) (r.mono (Grow.mut hm))⟩, hm⟩
        have := Paired.length h2
        exact Nat.lt_of_lt_of_le (show vs.length < 10000000 by omega) (by decide)
      · cases h
    | _ => cases h
/-- a turn of a comprehension -/
theorem lc_step {t : TG} {g : D → Fr → Option Fr} {tm : TM} {em : EM} {vs : List Nat} {n : Nat} {Dl : Addr} {x : D} {v : V} {rest : Mu → Res D} {Q : VK} {Nx : Hp → Prop} (hg : TgW K G t g vs) (L : Lc K ρ H (wipe σ vs) fr) (R : HRel K G ρ μ H) (hn : ρ[n]? = some Dl) (r : Rel K ρ H x v)
    (P : PostE K G E0 ρ H Q (match g x fr with
      | none => .bad
      | some fr1 => bnd (tm fr1 μ) fun c μ1 => if c = true then bnd (em fr1 μ1) fun y μ2 => (match lcPut n y μ2 with
        | some μ3 => rest μ3
        | none => .bad) else rest μ1))
    (hx : ∀ ρ2 μ2 H2, Grow K ρ H ρ2 H2 → HRel K G ρ2 μ2 H2 → PostE K G E0 ρ2 H2 Q (rest μ2) → Nx H2) :
    t v (wipe σ vs) H fun σ2 H2 => wipe σ2 vs = wipe σ vs ∧ rdT K G E0 tm σ2 H2 fun b H3 => if b = true then rdE K G E0 em σ2 H3 fun y H4 => ∃ acc, H4 Dl = some (.lst acc) ∧ acc.length < sizeLine ∧ Nx (upd H4 Dl (.lst (acc ++ [y]))) else Nx H3 := by
  cases e : g x fr with
  | none => simp only [e] at P; exact P.elim
  | some fr1 =>
    simp only [e] at P
    refine hg ρ H σ fr x v fr1 _ L r e fun σ1 L1 w => ⟨w, ρ, fr1, μ, L1, R, PostE.bndT P fun c μ1 _ ρ1 H1 g1 R1 P1 => ?_⟩
    cases c with
    | false => exact hx ρ1 μ1 H1 g1 R1 P1
    | true =>
      refine ⟨ρ1, fr1, μ1, L1.mono g1, R1, PostE.bndE P1 fun y μ2 _ vy ρ2 H2 g2 R2 r2 P2 => ?_⟩
      cases e4 : lcPut n y μ2 with
      | none => simp only [e4] at P2; exact P2.elim
      | some μ3 =>
        simp only [e4] at P2
        have hn2 := g2.pre _ _ (g1.pre _ _ hn)
        obtain ⟨acc, h1, h2, R3, hm⟩ := lcPut_ok R2 hn2 r2 e4
        exact ⟨acc, h1, h2, hx ρ2 μ3 _ ((g1.trans g2).trans (Grow.mut hm)) R3 (PostE.mono (Grow.mut hm) P2)⟩
theorem lc_turns {J : It} {t : TG} {g : D → Fr → Option Fr} {tm : TM} {em : EM} {vs : List Nat} {xs : List D} {n : Nat} {Dl : Addr} {Q : VK} (hg : TgW K G t g vs)
    (hstop : ∀ ρ1 H1, Grow K ρ H ρ1 H1 → J.stop xs.length H1) (hgo : ∀ i ρ1 H1, i < xs.length → Grow K ρ H ρ1 H1 → J.go i H1)
    (hy : ∀ i d ρ1 H1 v H2, xs[i]? = some d → Grow K ρ H ρ1 H1 → J.yld i H1 v H2 → H2 = H1 ∧ Rel K ρ1 H1 d v)
    (L : Lc K ρ H (wipe σ vs) fr) (R : HRel K G ρ μ H) (hn : ρ[n]? = some Dl) (P : PostE K G E0 ρ H Q (lcL g tm em n xs fr μ)) :
    ∃ W : Nat → Nat → Hp → Prop, (∃ m, W 0 m H) ∧ ∀ i m H, W i m H →
      (J.stop i H ∧ Q (.ref Dl) H) ∨ (J.go i H ∧ ∃ Nx : Hp → Prop, (∀ H', Nx H' → ∃ m', m' < m ∧ W (i + 1) m' H') ∧ ∀ x H', J.yld i H x H' → t x (wipe σ vs) H' fun σ2 H2 => wipe σ2 vs = wipe σ vs ∧ rdT K G E0 tm σ2 H2 fun b H3 =>
        if b = true then rdE K G E0 em σ2 H3 fun y H4 => ∃ acc, H4 Dl = some (.lst acc) ∧ acc.length < sizeLine ∧ Nx (upd H4 Dl (.lst (acc ++ [y]))) else Nx H3) := by
  refine ⟨fun i m H1 => ∃ ρ1 μ1, i + m = xs.length ∧ Grow K ρ H ρ1 H1 ∧ HRel K G ρ1 μ1 H1 ∧ PostE K G E0 ρ1 H1 Q (lcL g tm em n (xs.drop i) fr μ1),
    ⟨xs.length, ρ, μ, by omega, Grow.refl, R, by simpa using P⟩, ?_⟩
  rintro i m H1 ⟨ρ1, μ1, hi, g1, R1, P1⟩
  cases m with
  | zero =>
    have e : i = xs.length := by omega
    subst e
    refine .inl ⟨hstop ρ1 H1 g1, ?_⟩
    rw [List.drop_length] at P1
    exact P1 _ ρ1 H1 Grow.refl R1 (.ref (g1.pre _ _ hn))
  | succ m =>
    have hlt : i < xs.length := by omega
    rw [List.drop_eq_getElem_cons hlt] at P1
    refine .inr ⟨hgo i ρ1 H1 hlt g1, fun H' => ∃ ρ2 μ2, Grow K ρ H ρ2 H' ∧ HRel K G ρ2 μ2 H' ∧ PostE K G E0 ρ2 H' Q (lcL g tm em n (xs.drop (i + 1)) fr μ2),
      fun H' ⟨ρ2, μ2, q1, q2, q3⟩ => ⟨m, Nat.lt_succ_self _, ρ2, μ2, by omega, q1, q2, q3⟩, fun v H2 y => ?_⟩
    obtain ⟨e2, r⟩ := hy i xs[i] ρ1 H1 v H2 (by simp [hlt]) g1 y
    subst e2
    unfold lcL at P1
    exact lc_step hg (L.mono g1) R1 (g1.pre _ _ hn) r P1 fun ρ2 μ2 H3 g2 R2 P2 => ⟨ρ2, μ2, g1.trans g2, R2, P2⟩
theorem lc_turnsM {t : TG} {g : D → Fr → Option Fr} {tm : TM} {em : EM} {vs : List Nat} {l n m0 : Nat} {a Dl : Addr} {Q : VK} (hg : TgW K G t g vs) (hl : ρ[l]? = some a)
    (L : Lc K ρ H (wipe σ vs) fr) (R : HRel K G ρ μ H) (hn : ρ[n]? = some Dl) (P : PostE K G E0 ρ H Q (lcM g tm em l n m0 0 fr μ)) :
    ∃ W : Nat → Nat → Hp → Prop, (∃ m, W 0 m H) ∧ ∀ i m H, W i m H →
      ((Itl K a).stop i H ∧ Q (.ref Dl) H) ∨ ((Itl K a).go i H ∧ ∃ Nx : Hp → Prop, (∀ H', Nx H' → ∃ m', m' < m ∧ W (i + 1) m' H') ∧ ∀ x H', (Itl K a).yld i H x H' → t x (wipe σ vs) H' fun σ2 H2 => wipe σ2 vs = wipe σ vs ∧ rdT K G E0 tm σ2 H2 fun b H3 =>
        if b = true then rdE K G E0 em σ2 H3 fun y H4 => ∃ acc, H4 Dl = some (.lst acc) ∧ acc.length < sizeLine ∧ Nx (upd H4 Dl (.lst (acc ++ [y]))) else Nx H3) := by
  refine ⟨fun i m H1 => ∃ ρ1 μ1, Grow K ρ H ρ1 H1 ∧ HRel K G ρ1 μ1 H1 ∧ PostE K G E0 ρ1 H1 Q (lcM g tm em l n m i fr μ1), ⟨m0, ρ, μ, Grow.refl, R, P⟩, ?_⟩
  rintro i m H1 ⟨ρ1, μ1, g1, R1, P1⟩
  have hl1 := g1.pre _ _ hl
  cases m with
  | zero =>
    unfold lcM at P1
    cases q : μ1[l]? with
    | none => simp only [q] at P1; exact P1.elim
    | some o =>
      simp only [q] at P1
      cases o with
      | lst xs =>
        simp only at P1
        split at P1
        · rename_i hl
          obtain ⟨ys, h1, h2⟩ := R1.lst q hl1
          exact .inl ⟨⟨ys, SqL.of h1, by rw [← Paired.length h2]; exact hl⟩, P1 _ ρ1 H1 Grow.refl R1 (.ref (g1.pre _ _ hn))⟩
        · exact P1.elim
      | _ => exact P1.elim
  | succ m =>
    unfold lcM at P1
    cases q : μ1[l]? with
    | none => simp only [q] at P1; exact P1.elim
    | some o =>
      simp only [q] at P1
      cases o with
      | lst xs =>
        simp only at P1
        obtain ⟨ys, h1, h2⟩ := R1.lst q hl1
        cases qi : xs[i]? with
        | none => simp only [qi] at P1; exact P1.elim
        | some d =>
          simp only [qi] at P1
          obtain ⟨v, qv, r⟩ := Paired.getR h2 qi
          refine .inr ⟨⟨ys, v, SqL.of h1, qv⟩, fun H' => ∃ ρ2 μ2, Grow K ρ H ρ2 H' ∧ HRel K G ρ2 μ2 H' ∧ PostE K G E0 ρ2 H' Q (lcM g tm em l n m (i + 1) fr μ2),
            fun H' ⟨ρ2, μ2, q1, q2, q3⟩ => ⟨m, Nat.lt_succ_self _, ρ2, μ2, q1, q2, q3⟩, fun v' H2 y => ?_⟩
          obtain ⟨e2, y⟩ := y
          subst e2
          have ev := y ys (SqL.of h1)
          rw [qv] at ev
          cases ev
          exact lc_step hg (L.mono g1) R1 (g1.pre _ _ hn) r P1 fun ρ2 μ2 H3 g2 R2 P2 => ⟨ρ2, μ2, g1.trans g2, R2, P2⟩
      | _ => exact P1.elim

/-- the new list at Dl -/
theorem lc_new {Dl : Addr} (R : HRel K G ρ μ H) (hD : H Dl = none) : HRel K G (ρ ++ [Dl]) (μ ++ [.lst []]) (upd H Dl (.lst [])) ∧ Grow K ρ H (ρ ++ [Dl]) (upd H Dl (.lst [])) ∧ (ρ ++ [Dl])[μ.length]? = some Dl :=
  ⟨R.new hD ⟨[], upd_same, .nil⟩, Grow.new hD, by rw [← R.len]; simp⟩
theorem lc_rd {t : TG} {g : D → Fr → Option Fr} {mi em : EM} {tm : TM} {vs : List Nat} {Q : VK} (hg : TgW K G t g vs) (h : rdE K G E (eLc g mi tm em vs) σ H Q) :
    tLc (fun σ H R => iList K (rdE K G E mi) σ H R ∨ iTup K (rdE K G E mi) σ H R ∨ iStr (rdE K G E mi) σ H R) t (rdT K G E0 tm) (rdE K G E0 em) vs σ H Q := by
  obtain ⟨ρ, fr, μ, L, R, P⟩ := h
  unfold eLc at P
  cases e : mi fr μ with
  | bad => rw [e] at P; exact P.elim
  | exc ex μ1 => rw [e] at P; exact .inl ⟨ρ, fr, μ, L, R, by rw [e]; exact P⟩
  | ok d μ1 =>
    rw [e] at P
    simp only [bnd_ok] at P
    cases d with
    | ref l =>
      refine .inl ⟨ρ, fr, μ, L, R, by
        rw [e]
        intro v ρ1 H1 g1 R1 r1
        cases r1 with
        | @ref n a hn =>
          cases q : μ1[l]? with
          | none => simp only [q] at P; exact P.elim
          | some o =>
            simp only [q] at P
            cases o with
            | lst xs =>
              obtain ⟨ys, h1, h2⟩ := R1.lst q hn
              refine ⟨a, rfl, ⟨ys, SqL.of h1⟩, fun Dl hD => ?_⟩
              obtain ⟨R2, g2, n2⟩ := lc_new R1 hD
              exact lc_turnsM hg (g2.pre _ _ hn) ((L.mono (g1.trans g2)).wipe) R2 n2 (PostE.mono (g1.trans g2) (noX_post P))
            | _ => exact P.elim⟩
    | tup xs =>
      refine .inr (.inl ⟨ρ, fr, μ, L, R, by
        rw [e]
        intro v ρ1 H1 g1 R1 r1
        cases r1 with
        | @tup a ds ws h hl f =>
          refine ⟨a, rfl, ⟨ws, h⟩, fun Dl hD => ?_⟩
          obtain ⟨R2, g2, n2⟩ := lc_new R1 hD
          refine lc_turns (J := Itt K a) hg (fun ρ3 H3 g3 => ⟨ws, g3.tup _ _ (g2.tup _ _ h), by omega⟩) (fun i ρ3 H3 hi g3 => ⟨ws, ws[i]'(by omega), g3.tup _ _ (g2.tup _ _ h), by simp [show i < ws.length by omega]⟩) (fun i d ρ3 H3 v H4 hd g3 y => ?_) ((L.mono (g1.trans g2)).wipe) R2 n2 (PostE.mono (g1.trans g2) (noX_post P))
          obtain ⟨e3, y⟩ := y
          exact ⟨e3, (f i d v hd (y ws (g3.tup _ _ (g2.tup _ _ h)))).mono (g2.trans g3)⟩⟩)
    | frl xs =>
      refine .inl ⟨ρ, fr, μ, L, R, by
        rw [e]
        intro v ρ1 H1 g1 R1 r1
        cases r1 with
        | @frl a ds ws h hl f =>
          refine ⟨a, rfl, ⟨ws, h.sq⟩, fun Dl hD => ?_⟩
          obtain ⟨R2, g2, n2⟩ := lc_new R1 hD
          refine lc_turns (J := Itl K a) hg (fun ρ3 H3 g3 => ⟨ws, (g3.frl _ _ (g2.frl _ _ h)).sq, by omega⟩) (fun i ρ3 H3 hi g3 => ⟨ws, ws[i]'(by omega), (g3.frl _ _ (g2.frl _ _ h)).sq, by simp [show i < ws.length by omega]⟩) (fun i d ρ3 H3 v H4 hd g3 y => ?_) ((L.mono (g1.trans g2)).wipe) R2 n2 (PostE.mono (g1.trans g2) (noX_post P))
          obtain ⟨e3, y⟩ := y
          exact ⟨e3, (f i d v hd (y ws (g3.frl _ _ (g2.frl _ _ h)).sq)).mono (g2.trans g3)⟩⟩
    | str xs =>
      refine .inr (.inr ⟨ρ, fr, μ, L, R, by
        rw [e]
        intro v ρ1 H1 g1 R1 r1
        cases r1 with
        | str =>
          refine ⟨⟨xs.toArray⟩, rfl, fun Dl hD => ?_⟩
          obtain ⟨R2, g2, n2⟩ := lc_new R1 hD
          refine lc_turns (J := Its ⟨xs.toArray⟩) hg (fun ρ2 H2 g2 => show xs.toArray.size ≤ _ by simp) (fun i ρ2 H2 hi g2 => show i < xs.toArray.size by simpa using hi) (fun i d ρ2 H2 v H3 hd g2 y => ?_) ((L.mono (g1.trans g2)).wipe) R2 n2 (PostE.mono (g1.trans g2) (noX_post P))
          obtain ⟨e3, c, hc1, hc2⟩ := y
          refine ⟨e3, ?_⟩
          rw [List.getElem?_map] at hd
          have hc3 : xs[i]? = some c := by simpa using hc1
          rw [hc3] at hd
          cases hd
          rw [hc2]
          exact .str [c]⟩)
    | _ => exact P.elim
/-- [elt for tg in iter if ..] -/
theorem s_lc {elt tg iter : Expr} {ifs : List Expr} {scope : Scope} {own : List (Str × Nat)} {pos : Pos} {t : TG} {g : D → Fr → Option Fr} {mi em : EM} {tm : TM} (hc : X.calm = true) (hN : X.N.Nodup) (hi : PEm X G E iter mi) (ok : BlkOk X.N X.env.scope scope own)
    (hg : ∀ (s : Shared) (H : Hp) (C : Addr) (cl : List (Str × Addr)) (fp : List Addr), PG (X.blk s H scope (compEnvC scope cl C X.env) fp) tg t) (hs : TgW X.K G t g (own.map (·.2)))
    (ht : ∀ (s : Shared) (H : Hp) (C : Addr) (cl : List (Str × Addr)) (fp : List Addr), PTsm (X.blk s H scope (compEnvC scope cl C X.env) fp) G E0 ifs tm)
    (he : ∀ (s : Shared) (H : Hp) (C : Addr) (cl : List (Str × Addr)) (fp : List Addr), PEm (X.blk s H scope (compEnvC scope cl C X.env) fp) G E0 elt em) (hf : ∀ x, foldedSetIterable iter X.env x = pure x := by intro _; rfl) :
    PEm X G E (.ListComp elt [⟨tg, iter, ifs, 0⟩] scope pos) (eLc g mi tm em (own.map (·.2))) :=
  (pe_lc hc hN (pi_or (pi_list hi) (pi_or (pi_tup hi) (pi_str hi))) ok hg ht he hf).imp fun σ H Q h => lc_rd hs h
/-- name = [..] on one line -/
theorem s_setLc (i : Nat) {y : Str} {py : Pos} {elt tg iter : Expr} {ifs : List Expr} {scope : Scope} {own : List (Str × Nat)} {pos spos : Pos} {t : TG} {g : D → Fr → Option Fr} {mi em : EM} {tm : TM} (hc : X.calm = true) (hN : X.N.Nodup)
    (hi : PEm X G E iter mi) (ok : BlkOk X.N X.env.scope scope own) (hsw : swapsWith (.ListComp elt [⟨tg, iter, ifs, 0⟩] scope pos) (some (.Name y py)) spos.line X.env = pure true)
    (hg : ∀ (s : Shared) (H : Hp) (C : Addr) (cl : List (Str × Addr)) (fp : List Addr), PG (X.blk s H scope (compEnvC scope cl C X.env) fp) tg t) (hs : TgW X.K G t g (own.map (·.2)))
    (ht : ∀ (s : Shared) (H : Hp) (C : Addr) (cl : List (Str × Addr)) (fp : List Addr), PTsm (X.blk s H scope (compEnvC scope cl C X.env) fp) G E0 ifs tm)
    (he : ∀ (s : Shared) (H : Hp) (C : Addr) (cl : List (Str × Addr)) (fp : List Addr), PEm (X.blk s H scope (compEnvC scope cl C X.env) fp) G E0 elt em) (hy : X.N[i]? = some y := by rfl) (hyl : X.env.scope.names.lookup y = some .local := by rfl)
    (hf : ∀ x, foldedSetIterable iter X.env x = pure x := by intro _; rfl) :
    PSm X G E (.Assign [.Name y py] (.ListComp elt [⟨tg, iter, ifs, 0⟩] scope pos) spos) (sAsg i (eLc g mi tm em (own.map (·.2)))) :=
  (ps_setLc hc hN hy hyl hsw (pi_or (pi_list hi) (pi_or (pi_tup hi) (pi_str hi))) ok hg ht he hf).imp fun Dn σ H ⟨ρ, fr, μ, L, R, P⟩ =>
    lc_rd hs ⟨ρ, fr, μ, L, R, PostS.bndE P fun d μ1 _ v ρ1 H1 g1 R1 r1 P1 => P1 _ ρ1 H1 Grow.refl R1 ((L.mono g1).set r1)⟩

theorem lcR_turns {t : TG} {g : D → Fr → Option Fr} {tm : TM} {em : EM} {vs : List Nat} {lo : Int} {k n : Nat} {Dl : Addr} {Q : VK} (hg : TgW K G t g vs)
    (L : Lc K ρ H (wipe σ vs) fr) (R : HRel K G ρ μ H) (hn : ρ[n]? = some Dl) (P : PostE K G E0 ρ H Q (lcL g tm em n (rngL lo k) fr μ)) :
    ∃ W : Nat → Nat → Hp → Prop, (∃ m, W 0 m H) ∧ ∀ i m H, W i m H →
      ((Itr lo k).stop i H ∧ Q (.ref Dl) H) ∨ ((Itr lo k).go i H ∧ ∃ Nx : Hp → Prop, (∀ H', Nx H' → ∃ m', m' < m ∧ W (i + 1) m' H') ∧ ∀ x H', (Itr lo k).yld i H x H' → t x (wipe σ vs) H' fun σ2 H2 => wipe σ2 vs = wipe σ vs ∧ rdT K G E0 tm σ2 H2 fun b H3 =>
        if b = true then rdE K G E0 em σ2 H3 fun y H4 => ∃ acc, H4 Dl = some (.lst acc) ∧ acc.length < sizeLine ∧ Nx (upd H4 Dl (.lst (acc ++ [y]))) else Nx H3) := by
  have hl : (rngL lo k).length = k := by simp [rngL]
  refine lc_turns (J := Itr lo k) hg (fun ρ2 H2 g2 => show k ≤ (rngL lo k).length by omega) (fun i ρ2 H2 hi g2 => show i < k by omega) (fun i d ρ2 H2 v H3 hd g2 y => ?_) L R hn P
  obtain ⟨e3, y⟩ := y
  refine ⟨e3, ?_⟩
  rw [rng_get] at hd
  split at hd
  · cases hd
    rw [y]
    exact .int _
  · cases hd
theorem lcR1_rd {t : TG} {g : D → Fr → Option Fr} {ma : AM} {em : EM} {tm : TM} {vs : List Nat} {Q : VK} (hg : TgW K G t g vs) (hlen : ∀ fr μ ds μ', ma fr μ = .ok ds μ' → ds.length = 1) (h : rdE K G E (eLcR g ma tm em vs) σ H Q) :
    tLc (iRng1 (rdA K G E ma)) t (rdT K G E0 tm) (rdE K G E0 em) vs σ H Q := by
  obtain ⟨ρ, fr, μ, L, R, P⟩ := h
  unfold eLcR at P
  refine ⟨ρ, fr, μ, L, R, ?_⟩
  cases e1 : ma fr μ with
  | bad => rw [e1] at P; exact P.elim
  | exc ex μ1 => rw [e1] at P; exact P
  | ok ds μ1 =>
    rw [e1] at P
    have hl := hlen _ _ _ _ e1
    intro ws ρ1 H1 g1 R1 r1
    simp only [bnd_ok] at P
    split at P
    · rename_i j
      split at P
      · rename_i hj
        cases r1 with
        | cons r1 r2 =>
          cases r1; cases r2
          refine ⟨j, rfl, hj.1, hj.2, fun Dl hD => ?_⟩
          obtain ⟨R2, g2, n2⟩ := lc_new R1 hD
          exact lcR_turns hg ((L.mono (g1.trans g2)).wipe) R2 n2 (PostE.mono (g1.trans g2) (noX_post P))
      · exact P.elim
    · simp at hl
    · exact P.elim
theorem lcR2_rd {t : TG} {g : D → Fr → Option Fr} {ma : AM} {em : EM} {tm : TM} {vs : List Nat} {Q : VK} (hg : TgW K G t g vs) (hlen : ∀ fr μ ds μ', ma fr μ = .ok ds μ' → ds.length = 2) (h : rdE K G E (eLcR g ma tm em vs) σ H Q) :
    tLc (iRng2 (rdA K G E ma)) t (rdT K G E0 tm) (rdE K G E0 em) vs σ H Q := by
  obtain ⟨ρ, fr, μ, L, R, P⟩ := h
  unfold eLcR at P
  refine ⟨ρ, fr, μ, L, R, ?_⟩
  cases e1 : ma fr μ with
  | bad => rw [e1] at P; exact P.elim
  | exc ex μ1 => rw [e1] at P; exact P
  | ok ds μ1 =>
    rw [e1] at P
    have hl := hlen _ _ _ _ e1
    intro ws ρ1 H1 g1 R1 r1
    simp only [bnd_ok] at P
    split at P
    · simp at hl
    · rename_i i j
      split at P
      · rename_i hj
        cases r1 with
        | cons r1 r2 =>
          cases r1; cases r2 with
          | cons r2 r3 =>
            cases r2; cases r3
            refine ⟨i, j, rfl, hj, fun Dl hD => ?_⟩
            obtain ⟨R2, g2, n2⟩ := lc_new R1 hD
            exact lcR_turns hg ((L.mono (g1.trans g2)).wipe) R2 n2 (PostE.mono (g1.trans g2) (noX_post P))
      · exact P.elim
    · exact P.elim
theorem s_lcR1 {elt tg e : Expr} {ifs : List Expr} {scope : Scope} {own : List (Str × Nat)} {pos p cpos : Pos} {t : TG} {g : D → Fr → Option Fr} {ma : AM} {em : EM} {tm : TM} (hc : X.calm = true) (hN : X.N.Nodup) (hg0 : Gl X "range") (hm : X.mg "range" = none) (ha : PAm X G E [e] ma)
    (ok : BlkOk X.N X.env.scope scope own)
    (hg : ∀ (s : Shared) (H : Hp) (C : Addr) (cl : List (Str × Addr)) (fp : List Addr), PG (X.blk s H scope (compEnvC scope cl C X.env) fp) tg t) (hs : TgW X.K G t g (own.map (·.2)))
    (ht : ∀ (s : Shared) (H : Hp) (C : Addr) (cl : List (Str × Addr)) (fp : List Addr), PTsm (X.blk s H scope (compEnvC scope cl C X.env) fp) G E0 ifs tm)
    (he : ∀ (s : Shared) (H : Hp) (C : Addr) (cl : List (Str × Addr)) (fp : List Addr), PEm (X.blk s H scope (compEnvC scope cl C X.env) fp) G E0 elt em) (hst : starEach [e] X.env = [(false, eval e X.env)] := by rfl)
    (hf : ∀ x, foldedSetIterable (.Call (.Name "range" p) [e] [] cpos) X.env x = pure x := by intro _; rfl) :
    PEm X G E (.ListComp elt [⟨tg, .Call (.Name "range" p) [e] [] cpos, ifs, 0⟩] scope pos) (eLcR g ma tm em (own.map (·.2))) :=
  (pe_lc hc hN (pi_range1 hg0 hm ha.pa hst) ok hg ht he hf).imp fun σ H Q h => lcR1_rd hs ha.len h
theorem s_lcR2 {elt tg e e2 : Expr} {ifs : List Expr} {scope : Scope} {own : List (Str × Nat)} {pos p cpos : Pos} {t : TG} {g : D → Fr → Option Fr} {ma : AM} {em : EM} {tm : TM} (hc : X.calm = true) (hN : X.N.Nodup) (hg0 : Gl X "range") (hm : X.mg "range" = none) (ha : PAm X G E [e, e2] ma)
    (ok : BlkOk X.N X.env.scope scope own)
    (hg : ∀ (s : Shared) (H : Hp) (C : Addr) (cl : List (Str × Addr)) (fp : List Addr), PG (X.blk s H scope (compEnvC scope cl C X.env) fp) tg t) (hs : TgW X.K G t g (own.map (·.2)))
    (ht : ∀ (s : Shared) (H : Hp) (C : Addr) (cl : List (Str × Addr)) (fp : List Addr), PTsm (X.blk s H scope (compEnvC scope cl C X.env) fp) G E0 ifs tm)
    (he : ∀ (s : Shared) (H : Hp) (C : Addr) (cl : List (Str × Addr)) (fp : List Addr), PEm (X.blk s H scope (compEnvC scope cl C X.env) fp) G E0 elt em) (hst : starEach [e, e2] X.env = [(false, eval e X.env), (false, eval e2 X.env)] := by rfl)
    (hst2 : starEach [e2] X.env = [(false, eval e2 X.env)] := by rfl) (hf : ∀ x, foldedSetIterable (.Call (.Name "range" p) [e, e2] [] cpos) X.env x = pure x := by intro _; rfl) :
    PEm X G E (.ListComp elt [⟨tg, .Call (.Name "range" p) [e, e2] [] cpos, ifs, 0⟩] scope pos) (eLcR g ma tm em (own.map (·.2))) :=
  (pe_lc hc hN (pi_range2 hg0 hm ha.pa hst hst2) ok hg ht he hf).imp fun σ H Q h => lcR2_rd hs ha.len h
theorem s_setLcR1 (i : Nat) {y : Str} {py : Pos} {elt tg e : Expr} {ifs : List Expr} {scope : Scope} {own : List (Str × Nat)} {pos p cpos spos : Pos} {t : TG} {g : D → Fr → Option Fr} {ma : AM} {em : EM} {tm : TM} (hc : X.calm = true) (hN : X.N.Nodup) (hg0 : Gl X "range") (hm : X.mg "range" = none) (ha : PAm X G E [e] ma)
    (ok : BlkOk X.N X.env.scope scope own) (hsw : swapsWith (.ListComp elt [⟨tg, .Call (.Name "range" p) [e] [] cpos, ifs, 0⟩] scope pos) (some (.Name y py)) spos.line X.env = pure true)
    (hg : ∀ (s : Shared) (H : Hp) (C : Addr) (cl : List (Str × Addr)) (fp : List Addr), PG (X.blk s H scope (compEnvC scope cl C X.env) fp) tg t) (hs : TgW X.K G t g (own.map (·.2)))
    (ht : ∀ (s : Shared) (H : Hp) (C : Addr) (cl : List (Str × Addr)) (fp : List Addr), PTsm (X.blk s H scope (compEnvC scope cl C X.env) fp) G E0 ifs tm)
    (he : ∀ (s : Shared) (H : Hp) (C : Addr) (cl : List (Str × Addr)) (fp : List Addr), PEm (X.blk s H scope (compEnvC scope cl C X.env) fp) G E0 elt em) (hy : X.N[i]? = some y := by rfl) (hyl : X.env.scope.names.lookup y = some .local := by rfl)
    (hst : starEach [e] X.env = [(false, eval e X.env)] := by rfl) (hf : ∀ x, foldedSetIterable (.Call (.Name "range" p) [e] [] cpos) X.env x = pure x := by intro _; rfl) :
    PSm X G E (.Assign [.Name y py] (.ListComp elt [⟨tg, .Call (.Name "range" p) [e] [] cpos, ifs, 0⟩] scope pos) spos) (sAsg i (eLcR g ma tm em (own.map (·.2)))) :=
  (ps_setLc hc hN hy hyl hsw (pi_range1 hg0 hm ha.pa hst) ok hg ht he hf).imp fun Dn σ H ⟨ρ, fr, μ, L, R, P⟩ =>
    lcR1_rd hs ha.len ⟨ρ, fr, μ, L, R, PostS.bndE P fun d μ1 _ v ρ1 H1 g1 R1 r1 P1 => P1 _ ρ1 H1 Grow.refl R1 ((L.mono g1).set r1)⟩
end
end Lw

set_option Elab.async false
set_option linter.all false
set_option maxRecDepth 100000
set_option maxHeartbeats 4000000
/-! Operators and built-in functions on values. -/
namespace Lw
open PySem PySem.Spec PyProof.Rows L2

/-! ### the functions -/
def LINE : Nat := 10000000
def opAdd (x y : D) (μ : Mu) : Res D := match x, y with
  | .int i, .int j => .ok (.int (i + j)) μ
  | .str s, .str t => if s.length + t.length ≤ LINE then .ok (.str (s ++ t)) μ else .bad
  | .tup xs, .tup ys => if xs.length + ys.length ≤ LINE then .ok (.tup (xs ++ ys)) μ else .bad
  | .ref n, .ref k => match μ[n]?, μ[k]? with
    | some (.lst xs), some (.lst ys) => if xs.length + ys.length ≤ LINE then .ok (.ref μ.length) (μ ++ [.lst (xs ++ ys)]) else .bad
    | _, _ => .bad
  | _, _ => .bad
def opSub (x y : D) (μ : Mu) : Res D := match x, y with
  | .int i, .int j => .ok (.int (i - j)) μ
  | _, _ => .bad
/-- products: of numbers (one of them within the machine's word), of a list and a number -/
def opMul (x y : D) (μ : Mu) : Res D := match x, y with
  | .int i, .int j => if (-(2 ^ 64) < i ∧ i < 2 ^ 64) ∨ (-(2 ^ 64) < j ∧ j < 2 ^ 64) then .ok (.int (i * j)) μ else .bad
  | .ref n, .int k => match μ[n]? with
    | some (.lst xs) => if -(2 ^ 63) ≤ k ∧ k < 2 ^ 63 ∧ xs.length * k.toNat ≤ LINE then .ok (.ref μ.length) (μ ++ [.lst (List.replicate k.toNat xs).flatten]) else .bad
    | _ => .bad
  | _, _ => .bad
def opFdiv (x y : D) (μ : Mu) : Res D := match x, y with
  | .int i, .int j => if j ≠ 0 ∧ j.natAbs < 1073741824 then .ok (.int (i.fdiv j)) μ else .bad
  | _, _ => .bad
def opMod (x y : D) (μ : Mu) : Res D := match x, y with
  | .int i, .int j => if j ≠ 0 then .ok (.int (i.fmod j)) μ else .bad
  | _, _ => .bad
def opPow (x y : D) (μ : Mu) : Res D := match x, y with
  | .int i, .int j => if 0 ≤ j ∧ j ≤ 1000000 ∧ i.natAbs < 2 ^ 64 then .ok (.int (i ^ j.toNat)) μ else .bad
  | _, _ => .bad
def opNeg (x : D) (μ : Mu) : Res D := match x with
  | .int i => .ok (.int (-i)) μ
  | _ => .bad
/-- texts in order -/
def ltN (s t : List Nat) : Bool := decide (s < t)
def opLt (x y : D) (μ : Mu) : Res D := match x, y with
  | .int i, .int j => .ok (.bl (decide (i < j))) μ
  | .str s, .str t => .ok (.bl (ltN s t)) μ
  | _, _ => .bad
def opLe (x y : D) (μ : Mu) : Res D := match x, y with
  | .int i, .int j => .ok (.bl (decide (i ≤ j))) μ
  | .str s, .str t => .ok (.bl (!ltN t s)) μ
  | _, _ => .bad
def opGt (x y : D) (μ : Mu) : Res D := match x, y with
  | .int i, .int j => .ok (.bl (decide (j < i))) μ
  | .str s, .str t => .ok (.bl (ltN t s)) μ
  | _, _ => .bad
def opGe (x y : D) (μ : Mu) : Res D := match x, y with
  | .int i, .int j => .ok (.bl (decide (j ≤ i))) μ
  | .str s, .str t => .ok (.bl (!ltN s t)) μ
  | _, _ => .bad
/-- == of plain values -/
def eqS (x y : D) : Option Bool := match x, y with
  | .non, .non => some true
  | .bl a, .bl b => some (a == b)
  | .int a, .int b => some (decide (a = b))
  | .str a, .str b => some (decide (a = b))
  | .non, .int _ => some false
  | .int _, .non => some false
  | .non, .bl _ => some false
  | .bl _, .non => some false
  | .non, .str _ => some false
  | .str _, .non => some false
  | .int _, .str _ => some false
  | .str _, .int _ => some false
  | .bl _, .str _ => some false
  | .str _, .bl _ => some false
  | _, _ => none
mutual
def pyD : D → Option PyData
  | .non => some .none
  | .bl b => some (.bool b)
  | .int i => some (.int i)
  | .str s => some (.str ⟨s.toArray⟩)
  | .tup xs => (pyDs xs).map .tuple
  | .frl xs => (pyDs xs).map .list
  | .ref _ => none
  | .und => none
def pyDs : List D → Option (List PyData)
  | [] => some []
  | x :: xs => match pyD x, pyDs xs with
    | some d, some ds => some (d :: ds)
    | _, _ => none
end
def pyM (x : D) (μ : Mu) : Option PyData := match x with
  | .ref n => match μ[n]? with
    | some (.lst xs) => (pyDs xs).map .list
    | _ => none
  | x => pyD x
def opEq (x y : D) (μ : Mu) : Res D := match eqS x y with
  | some b => .ok (.bl b) μ
  | none => match pyM x μ, pyM y μ with
    | some d, some e => if SeqAt.shaped d = true ∧ SeqAt.shaped e = true then .ok (.bl (PyData.eqv d e)) μ else .bad
    | _, _ => .bad
def opNe (x y : D) (μ : Mu) : Res D := match eqS x y with
  | some b => .ok (.bl (!b)) μ
  | none => match pyM x μ, pyM y μ with
    | some d, some e => if SeqAt.shaped d = true ∧ SeqAt.shaped e = true then .ok (.bl (!PyData.eqv d e)) μ else .bad
    | _, _ => .bad
/-- x is None -/
def opIsN (x y : D) (μ : Mu) : Res D := match x, y with
  | .non, .non => .ok (.bl true) μ
  | .und, _ => .bad
  | _, .non => .ok (.bl false) μ
  | _, _ => .bad
def opNotN (x y : D) (μ : Mu) : Res D := match x, y with
  | .non, .non => .ok (.bl false) μ
  | .und, _ => .bad
  | _, .non => .ok (.bl true) μ
  | _, _ => .bad
def flatD : D → Bool
  | .non => true
  | .bl _ => true
  | .int _ => true
  | .str _ => true
  | _ => false
def eqF : D → D → Bool
  | .non, .non => true
  | .bl a, .bl b => a == b
  | .bl a, .int b => (if a then 1 else 0) == b
  | .int a, .bl b => a == (if b then 1 else 0)
  | .int a, .int b => a == b
  | .str a, .str b => a == b
  | _, _ => false
/-- whether it is in -/
def isIn (x y : D) (μ : Mu) : Option Bool := match y with
  | .tup ys => if flatD x && ys.all flatD then some (ys.any fun z => eqF z x) else none
  | .frl ys => if flatD x && ys.all flatD then some (ys.any fun z => eqF z x) else none
  | .ref n => match μ[n]? with
    | some (.lst ys) => if flatD x && ys.all flatD then some (ys.any fun z => eqF z x) else none
    | _ => none
  | .str t => match x with
    | .str [c] => some (decide (c ∈ t))
    | _ => none
  | _ => none
def opIn (x y : D) (μ : Mu) : Res D := match isIn x y μ with
  | some b => .ok (.bl b) μ
  | none => .bad
def opNotIn (x y : D) (μ : Mu) : Res D := match isIn x y μ with
  | some b => .ok (.bl (!b)) μ
  | none => .bad
/-- a place of any sign -/
def ixD {α : Type} (xs : List α) (i : Int) : Option α := if 0 ≤ i then xs[i.toNat]? else if -(xs.length : Int) ≤ i then xs[(i + xs.length).toNat]? else none
def opIx (x y : D) (μ : Mu) : Res D := match x, y with
  | .tup xs, .int i => match ixD xs i with
    | some d => .ok d μ
    | none => .bad
  | .frl xs, .int i => match ixD xs i with
    | some d => .ok d μ
    | none => .bad
  | .ref n, .int i => match μ[n]? with
    | some (.lst xs) => match ixD xs i with
      | some d => .ok d μ
      | none => .bad
    | _ => .bad
  | .str s, .int i => if s.length ≤ LINE then (match ixD s i with
    | some c => .ok (.str [c]) μ
    | none => .bad) else .bad
  | _, _ => .bad
/-- cuts -/
def cutD {α : Type} (xs : List α) (lo hi : Option Int) : List α := (xs.drop (HT.sIx xs.length 0 lo)).take (HT.sIx xs.length xs.length hi - HT.sIx xs.length 0 lo)
def slM (x : D) (lo hi : Option Int) (μ : Mu) : Res D := match x with
  | .tup xs => .ok (.tup (cutD xs lo hi)) μ
  | .ref n => match μ[n]? with
    | some (.lst xs) => .ok (.ref μ.length) (μ ++ [.lst (cutD xs lo hi)])
    | _ => .bad
  | .str s => if s.length ≤ LINE then .ok (.str (cutD s lo hi)) μ else .bad
  | _ => .bad
abbrev OM := Fr → Mu → Res (Option Int)
def oNone : OM := fun _ μ => .ok none μ
def oSome (e : EM) : OM := fun fr μ => bnd (e fr μ) fun d μ1 => match d with
  | .int i => .ok (some i) μ1
  | _ => .bad
def eSl (a : EM) (lo hi : OM) : EM := fun fr μ => bnd (a fr μ) fun x μ1 => bnd (lo fr μ1) fun l μ2 => bnd (hi fr μ2) fun h μ3 => slM x l h μ3
/-! built-in functions -/
def fLen (xs : List D) (μ : Mu) : Res D := match xs with
  | [.str s] => if s.length ≤ LINE then .ok (.int s.length) μ else .bad
  | [.tup xs] => .ok (.int xs.length) μ
  | [.frl xs] => .ok (.int xs.length) μ
  | [.ref n] => match μ[n]? with
    | some (.lst xs) => .ok (.int xs.length) μ
    | _ => .bad
  | _ => .bad
def fInt (xs : List D) (μ : Mu) : Res D := match xs with
  | [.int i] => .ok (.int i) μ
  | [.bl b] => .ok (.int (if b then 1 else 0)) μ
  | _ => .bad
def fList (xs : List D) (μ : Mu) : Res D := match xs with
  | [.tup xs] => .ok (.ref μ.length) (μ ++ [.lst xs])
  | [.frl xs] => .ok (.ref μ.length) (μ ++ [.lst xs])
  | [.ref n] => match μ[n]? with
    | some (.lst xs) => .ok (.ref μ.length) (μ ++ [.lst xs])
    | _ => .bad
  | _ => .bad
def fTuple (xs : List D) (μ : Mu) : Res D := match xs with
  | [.tup xs] => .ok (.tup xs) μ
  | [.frl xs] => .ok (.tup xs) μ
  | [.ref n] => match μ[n]? with
    | some (.lst xs) => .ok (.tup xs) μ
    | _ => .bad
  | _ => .bad
/-- kinds that isinstance asks -/
inductive Kd where
  | str | int | tup | bool | list
def Kd.nm : Kd → String
  | .str => "str" | .int => "int" | .tup => "tuple" | .bool => "bool" | .list => "list"
/-- the built-in class of a value -/
def kdD (x : D) (μ : Mu) : Option String := match x with
  | .non => some "NoneType"
  | .bl _ => some "bool"
  | .int _ => some "int"
  | .str _ => some "str"
  | .tup _ => some "tuple"
  | .ref n => match μ[n]? with
    | some (.lst _) => some "list"
    | some (.dic _) => some "dict"
    | _ => none
  | _ => none
def isK (k : Kd) (c : String) : Bool := match k with
  | .str => c == "str"
  | .int => c == "int" || c == "bool"
  | .tup => c == "tuple"
  | .bool => c == "bool"
  | .list => c == "list"
def eIsi (ks : List Kd) (a : EM) : EM := fun fr μ => bnd (a fr μ) fun x μ1 => match kdD x μ1 with
  | some c => .ok (.bl (ks.any fun k => isK k c)) μ1
  | none => .bad

/-! ### that the text does so -/
section
variable {X : Cx} {G : Cg} {E : XK} {K : PySem.W.Frag} {ρ ρ' : List Addr} {H H' : Hp} {μ μ' : Mu} {σ : L2.St} {fr : Fr} {a b : Expr} {ma mb : EM} {pos : Pos}
theorem opR_or {f : Value → Value → Sem Value} {r r' : R2} (h : OpR X f r) (h' : OpR X f r') : OpR X f (fun x y H Q => r x y H Q ∨ r' x y H Q) := by
  intro pins s σ H x y v u Q I rx ry q
  rcases q with q | q
  · exact h pins s σ H x y v u Q I rx ry q
  · exact h' pins s σ H x y v u Q I rx ry q
theorem callR_or {f : Value} {r r' : List V → Hp → VK → Prop} (h : CallR X f r) (h' : CallR X f r') : CallR X f (fun x H Q => r x H Q ∨ r' x H Q) := by
  intro pins s σ H xs us Q I rx q
  rcases q with q | q
  · exact h pins s σ H xs us Q I rx q
  · exact h' pins s σ H xs us Q I rx q
theorem line_le {n : Nat} (h : n ≤ LINE) : n ≤ sizeLine := Nat.le_trans h (by decide)
theorem Rels.len {ds : List D} {vs : List V} (h : Rels K ρ H ds vs) : vs.length = ds.length := (Paired.length h).symm
/-- a new list -/
theorem post_lst {Q : VK} {xs : List D} {vs : List V} {p : Addr} (R : HRel K G ρ μ H) (r : Rels K ρ H xs vs) (hp : H p = none) (P : PostE K G E ρ H Q (.ok (.ref μ.length) (μ ++ [.lst xs]))) : Q (.ref p) (upd H p (.lst vs)) :=
  P _ (ρ ++ [p]) _ (Grow.new hp) (R.new hp ⟨vs, upd_same, r.mono (Grow.new hp)⟩) (.ref (by rw [← R.len]; simp))
theorem post_tup {Q : VK} {xs : List D} {vs : List V} {p : Addr} (R : HRel K G ρ μ H) (r : Rels K ρ H xs vs) (hp : H p = none) (P : PostE K G E ρ H Q (.ok (.tup xs) μ)) : Q (.ref p) (upd H p (.tup vs)) :=
  P _ ρ _ (Grow.tupnew hp) (R.tupnew hp) (Rel.tupP (SqT.of upd_same) (r.mono (Grow.tupnew hp)))

/-! t + u with t empty -/
theorem tup_add0 (l b : Addr) (items items2 : Array Value) (n n2 : Nat) (dd dd2 : Option Addr) (sl sl2 : Array (Option Value)) (hc0 : items.isEmpty = true) :
    Meets (Builtin.«tuple.__add__» ⟨[.ref l, .ref b], []⟩) (fun _ R s => s.heap.get? l = some { cls := .type "tuple", dict := dd, data := .seq items n, slots := sl } ∧ s.heap.get? b = some { cls := .type "tuple", dict := dd2, data := .seq items2 n2, slots := sl2 } ∧ R (.ok (.ret (Value.ref b))) { s with heap := s.heap, toks := s.toks }) :=
  .of_wp fun prog w A R s h => by
    obtain ⟨hp, g, d, tk, os⟩ := s
    obtain ⟨hl, hb, h⟩ := h
    have f1 := AutoSeq1.idx_int
    have f2 := AutoSeq1.sub_tuple_tuple
    have f3 := AutoSeq1.sub_list_list
    have f4 := AutoSeq1.sub_tuple_list
    have f5 := AutoSeq1.sub_list_tuple
    wp_walk using wpAny_loadPart' hl, wpAny_loadPart' hb
    exact ⟨_, rfl, h⟩
def rCat0 (K : PySem.W.Frag) : R2 := fun x y H Q => ∃ a b ys, x = .ref a ∧ y = .ref b ∧ SqT K H a [] ∧ SqT K H b ys ∧ Q (.ref b) H
theorem op_cat0 : OpR X (binaryOp .Add) (rCat0 X.K) := by
  intro pins s σ H x y v u Q I rx ry h
  obtain ⟨a, b, ys, rfl, rfl, ha, hb, q⟩ := h
  cases rx
  cases ry
  obtain ⟨its, r1, p1, _⟩ := I.tuple ha
  obtain ⟨its2, r2, p2, _⟩ := I.tuple hb
  cases r1
  obtain ⟨⟨cls, dd, data, sl⟩, ho, hc, n, hd⟩ := p1
  obtain ⟨⟨cls2, dd2, data2, sl2⟩, ho2, hc2, n2, hd2⟩ := p2
  simp only at hc hd hc2 hd2
  subst hc hd hc2 hd2
  exact concat_meets ⟨_, ho, rfl⟩ ⟨_, ho2, rfl⟩ noFill_tuple_add seq_tuple_add PySem.F.slot_tuple_add PySem.F.entry_tuple_add (PySem.F.args_tuple_add_2 _ _)
    (tup_add0 a b _ its2.toArray n n2 dd dd2 sl sl2 rfl) ⟨ho, ho2, .ref b, H, I, rfl, q⟩
end
end Lw

set_option Elab.async false
set_option linter.all false
set_option maxRecDepth 100000
set_option maxHeartbeats 4000000
/-! That the operators do what their functions say. -/
namespace Lw
open PySem PySem.Spec PyProof.Rows L2
section
variable {X : Cx} {G : Cg} {E : XK} {K : PySem.W.Frag} {ρ ρ' : List Addr} {H H' : Hp} {μ μ' : Mu} {σ : L2.St} {fr : Fr} {a b : Expr} {ma mb : EM} {pos : Pos}
theorem str_len (s : List Nat) : (⟨s.toArray⟩ : Str).length = s.length := by show s.toArray.size = s.length; simp
theorem str_app (s t : List Nat) : (⟨s.toArray⟩ : Str) ++ ⟨t.toArray⟩ = ⟨(s ++ t).toArray⟩ := by
  show (⟨s.toArray ++ t.toArray⟩ : Str) = _
  simp
/-! + -/
def rAdd (K : PySem.W.Frag) : R2 := fun x y H Q => rI0 (fun i j => .int (i + j)) x y H Q ∨ (∃ i j, x = .str i ∧ y = .str j ∧ i.length + j.length ≤ sizeLine ∧ Q (.str (i ++ j)) H) ∨ rCat0 K x y H Q ∨ rCatT K x y H Q ∨ rCat x y H Q
theorem op_addA : OpR X (binaryOp .Add) (rAdd X.K) := opR_or op_add (opR_or op_add_str (opR_or op_cat0 (opR_or op_catT op_cat)))
theorem add_s : OpS K G (rAdd K) opAdd := fun ρ μ H x y dx dy Q R rx ry P => by
  cases rx with
  | int i => cases ry with
    | int j => exact .inl ⟨i, j, rfl, rfl, P _ ρ H Grow.refl R (.int _)⟩
    | _ => exact P.elim
  | str s => cases ry with
    | str t =>
      unfold opAdd at P
      simp only at P
      split at P
      · rename_i hl
        exact .inr (.inl ⟨_, _, rfl, rfl, by rw [str_len, str_len]; exact line_le hl, P _ ρ H Grow.refl R (by rw [str_app]; exact .str _)⟩)
      · exact P.elim
    | _ => exact P.elim
  | @tup a xs vs hs hl f => cases ry with
    | @tup b ys ws hs2 hl2 f2 =>
      have p1 : Rels K ρ H xs vs := Paired.of_get hl f
      have p2 : Rels K ρ H ys ws := Paired.of_get hl2 f2
      unfold opAdd at P
      simp only at P
      split at P
      · rename_i hz
        by_cases e : vs = []
        · subst e
          have ex : xs = [] := by simpa using hl.symm
          subst ex
          exact .inr (.inr (.inl ⟨a, b, ws, rfl, rfl, hs, hs2, P _ ρ H Grow.refl R (Rel.tupP hs2 p2)⟩))
        · refine .inr (.inr (.inr (.inl ⟨a, b, vs, ws, rfl, rfl, hs, hs2, e, by rw [hl, hl2]; exact line_le hz, fun e2 => ?_, fun e2 p hp => ?_⟩)))
          · subst e2
            have ey : ys = [] := by simpa using hl2.symm
            subst ey
            rw [List.append_nil] at P
            exact P _ ρ H Grow.refl R (Rel.tupP hs p1)
          · exact post_tup R (Paired.app p1 p2) hp P
      · exact P.elim
    | _ => exact P.elim
  | @ref n a e => cases ry with
    | @ref k b e2 =>
      unfold opAdd at P
      cases q : μ[n]? with
      | none => simp only [q] at P; exact P.elim
      | some o => cases q2 : μ[k]? with
        | none => simp only [q, q2] at P; cases o <;> exact P.elim
        | some o2 =>
          simp only [q, q2] at P
          cases o with
          | lst xs => cases o2 with
            | lst ys =>
              simp only at P
              split at P
              · rename_i hz
                obtain ⟨vs, h1, p1⟩ := R.lst q e
                obtain ⟨ws, h2, p2⟩ := R.lst q2 e2
                exact .inr (.inr (.inr (.inr ⟨a, b, vs, ws, rfl, rfl, h1, h2, by rw [p1.len, p2.len]; exact line_le hz, fun p hp => post_lst R (Paired.app p1 p2) hp P⟩)))
              · exact P.elim
            | _ => exact P.elim
          | _ => cases o2 <;> exact P.elim
    | _ => exact P.elim
  | _ => cases ry <;> exact P.elim
theorem add_n : NoX opAdd := fun x y μ e μ' h => by
  unfold opAdd at h
  split at h <;> (try split at h) <;> (try split at h) <;> cases h
theorem sub_s : OpS K G (rI0 fun i j => .int (i - j)) opSub := fun ρ μ H x y dx dy Q R rx ry P => by
  cases rx with
  | int i => cases ry with
    | int j => exact ⟨i, j, rfl, rfl, P _ ρ H Grow.refl R (.int _)⟩
    | _ => exact P.elim
  | _ => cases ry <;> exact P.elim
theorem sub_n : NoX opSub := fun x y μ e μ' h => by
  unfold opSub at h
  split at h <;> cases h
def rMul : R2 := fun x y H Q => rI CMul (fun i j => .int (i * j)) x y H Q ∨ rRep x y H Q
theorem op_mulA : OpR X (binaryOp .Mult) rMul := opR_or op_mul op_rep
theorem Paired.flatRep {α β : Type} {F : α → β → Prop} {l₁ : List α} {l₂ : List β} (p : Paired F l₁ l₂) : ∀ k : Nat, Paired F (List.replicate k l₁).flatten (List.replicate k l₂).flatten
  | 0 => .nil
  | k + 1 => by
    rw [List.replicate_succ, List.replicate_succ, List.flatten_cons, List.flatten_cons]
    exact Paired.app p (Paired.flatRep p k)
theorem mul_s : OpS K G rMul opMul := fun ρ μ H x y dx dy Q R rx ry P => by
  cases rx with
  | int i => cases ry with
    | int j =>
      unfold opMul at P
      simp only at P
      split at P
      · rename_i hc
        exact .inl ⟨i, j, rfl, rfl, hc, P _ ρ H Grow.refl R (.int _)⟩
      · exact P.elim
    | _ => exact P.elim
  | @ref n a e => cases ry with
    | int k =>
      unfold opMul at P
      cases q : μ[n]? with
      | none => simp only [q] at P; exact P.elim
      | some o =>
        simp only [q] at P
        cases o with
        | lst xs =>
          simp only at P
          split at P
          · rename_i hz
            obtain ⟨vs, h1, p1⟩ := R.lst q e
            exact .inr ⟨a, k, vs, rfl, rfl, h1, hz.1, hz.2.1, by rw [p1.len]; exact line_le hz.2.2, fun p hp => post_lst R (Paired.flatRep p1 k.toNat) hp P⟩
          · exact P.elim
        | _ => exact P.elim
    | _ => exact P.elim
  | _ => cases ry <;> exact P.elim
theorem mul_n : NoX opMul := fun x y μ e μ' h => by
  unfold opMul at h
  split at h <;> (try split at h) <;> (try split at h) <;> cases h
theorem fdiv_s : OpS K G (rI CDivN fun i j => .int (i.fdiv j)) opFdiv := fun ρ μ H x y dx dy Q R rx ry P => by
  cases rx with
  | int i => cases ry with
    | int j =>
      unfold opFdiv at P
      simp only at P
      split at P
      · rename_i hc
        exact ⟨i, j, rfl, rfl, hc, P _ ρ H Grow.refl R (.int _)⟩
      · exact P.elim
    | _ => exact P.elim
  | _ => cases ry <;> exact P.elim
theorem fdiv_n : NoX opFdiv := fun x y μ e μ' h => by
  unfold opFdiv at h
  split at h <;> (try split at h) <;> cases h
theorem mod_s : OpS K G (rI (fun _ j => j ≠ 0) fun i j => .int (i.fmod j)) opMod := fun ρ μ H x y dx dy Q R rx ry P => by
  cases rx with
  | int i => cases ry with
    | int j =>
      unfold opMod at P
      simp only at P
      split at P
      · rename_i hc
        exact ⟨i, j, rfl, rfl, hc, P _ ρ H Grow.refl R (.int _)⟩
      · exact P.elim
    | _ => exact P.elim
  | _ => cases ry <;> exact P.elim
theorem mod_n : NoX opMod := fun x y μ e μ' h => by
  unfold opMod at h
  split at h <;> (try split at h) <;> cases h
theorem pow_s : OpS K G (rI CPow fun i j => .int (i ^ j.toNat)) opPow := fun ρ μ H x y dx dy Q R rx ry P => by
  cases rx with
  | int i => cases ry with
    | int j =>
      unfold opPow at P
      simp only at P
      split at P
      · rename_i hc
        exact ⟨i, j, rfl, rfl, hc, P _ ρ H Grow.refl R (.int _)⟩
      · exact P.elim
    | _ => exact P.elim
  | _ => cases ry <;> exact P.elim
theorem pow_n : NoX opPow := fun x y μ e μ' h => by
  unfold opPow at h
  split at h <;> (try split at h) <;> cases h
theorem s_neg (ha : PEm X G E a ma) : PEm X G E (.UnaryOp .USub a pos) (eUn opNeg ma) :=
  (pe_un un_neg ha).imp fun σ H Q ⟨ρ, fr, μ, L, R, P⟩ => ⟨ρ, fr, μ, L, R, PostE.bndE P fun dx μ1 _ x ρ1 H1 g1 R1 r1 P1 => by
    cases r1 with
    | int i => exact ⟨i, rfl, P1 _ ρ1 H1 Grow.refl R1 (.int _)⟩
    | _ => exact P1.elim⟩
/-! order -/
def rLt : R2 := fun x y H Q => rI0 (fun i j => .bl (decide (i < j))) x y H Q ∨ (∃ i j, x = .str i ∧ y = .str j ∧ Q (.bl (decide (i.cps.toList < j.cps.toList))) H)
def rLe : R2 := fun x y H Q => rI0 (fun i j => .bl (decide (i ≤ j))) x y H Q ∨ (∃ i j, x = .str i ∧ y = .str j ∧ Q (.bl (!decide (j.cps.toList < i.cps.toList))) H)
def rGt : R2 := fun x y H Q => rI0 (fun i j => .bl (decide (j < i))) x y H Q ∨ (∃ i j, x = .str i ∧ y = .str j ∧ Q (.bl (decide (j.cps.toList < i.cps.toList))) H)
def rGe : R2 := fun x y H Q => rI0 (fun i j => .bl (decide (j ≤ i))) x y H Q ∨ (∃ i j, x = .str i ∧ y = .str j ∧ Q (.bl (!decide (i.cps.toList < j.cps.toList))) H)
theorem op_ltA : OpR X (compareOp .Lt) rLt := opR_or op_lt op_lt_str
theorem op_leA : OpR X (compareOp .LtE) rLe := opR_or op_le op_le_str
theorem op_gtA : OpR X (compareOp .Gt) rGt := opR_or op_gt op_gt_str
theorem op_geA : OpR X (compareOp .GtE) rGe := opR_or op_ge op_ge_str
theorem lt_s : OpS K G rLt opLt := fun ρ μ H x y dx dy Q R rx ry P => by
  cases rx with
  | int i => cases ry with
    | int j => exact .inl ⟨i, j, rfl, rfl, P _ ρ H Grow.refl R (.bl _)⟩
    | _ => exact P.elim
  | str s => cases ry with
    | str t => exact .inr ⟨_, _, rfl, rfl, P _ ρ H Grow.refl R (by simpa [ltN] using Rel.bl (ltN s t))⟩
    | _ => exact P.elim
  | _ => cases ry <;> exact P.elim
theorem le_s : OpS K G rLe opLe := fun ρ μ H x y dx dy Q R rx ry P => by
  cases rx with
  | int i => cases ry with
    | int j => exact .inl ⟨i, j, rfl, rfl, P _ ρ H Grow.refl R (.bl _)⟩
    | _ => exact P.elim
  | str s => cases ry with
    | str t => exact .inr ⟨_, _, rfl, rfl, P _ ρ H Grow.refl R (by simpa [ltN] using Rel.bl (!ltN t s))⟩
    | _ => exact P.elim
  | _ => cases ry <;> exact P.elim
theorem gt_s : OpS K G rGt opGt := fun ρ μ H x y dx dy Q R rx ry P => by
  cases rx with
  | int i => cases ry with
    | int j => exact .inl ⟨i, j, rfl, rfl, P _ ρ H Grow.refl R (.bl _)⟩
    | _ => exact P.elim
  | str s => cases ry with
    | str t => exact .inr ⟨_, _, rfl, rfl, P _ ρ H Grow.refl R (by simpa [ltN] using Rel.bl (ltN t s))⟩
    | _ => exact P.elim
  | _ => cases ry <;> exact P.elim
theorem ge_s : OpS K G rGe opGe := fun ρ μ H x y dx dy Q R rx ry P => by
  cases rx with
  | int i => cases ry with
    | int j => exact .inl ⟨i, j, rfl, rfl, P _ ρ H Grow.refl R (.bl _)⟩
    | _ => exact P.elim
  | str s => cases ry with
    | str t => exact .inr ⟨_, _, rfl, rfl, P _ ρ H Grow.refl R (by simpa [ltN] using Rel.bl (!ltN s t))⟩
    | _ => exact P.elim
  | _ => cases ry <;> exact P.elim
theorem lt_n : NoX opLt := fun x y μ e μ' h => by unfold opLt at h; split at h <;> cases h
theorem le_n : NoX opLe := fun x y μ e μ' h => by unfold opLe at h; split at h <;> cases h
theorem gt_n : NoX opGt := fun x y μ e μ' h => by unfold opGt at h; split at h <;> cases h
theorem ge_n : NoX opGe := fun x y μ e μ' h => by unfold opGe at h; split at h <;> cases h
/-! == -/
theorem eqS_ok {x y : D} {v w : V} {k : Bool} (r1 : Rel K ρ H x v) (r2 : Rel K ρ H y w) (h : eqS x y = some k) : scal v w = true ∧ decide (v = w) = k := by
  cases r1 <;> cases r2 <;> (first | (cases h; done) | skip) <;> simp only [eqS, Option.some.injEq] at h <;> subst h <;> refine ⟨rfl, ?_⟩ <;> simp
  all_goals (rename_i a b; cases a <;> cases b <;> rfl)
mutual
theorem pyD_ok : ∀ {x : D} {v : V} {d : PyData}, Rel K ρ H x v → pyD x = some d → Dp K H v d
  | .non, _, _, r, h => by cases r; cases h; exact .non
  | .bl b, _, _, r, h => by cases r; cases h; exact .bl b
  | .int i, _, _, r, h => by cases r; cases h; exact .int i
  | .str s, _, _, r, h => by cases r; cases h; exact .str _
  | .tup xs, _, _, r, h => by
    cases r with
    | @tup a ds vs hs hl f =>
      unfold pyD at h
      cases e : pyDs xs with
      | none => rw [e] at h; cases h
      | some ds => rw [e] at h; cases h; exact .tup hs (pyDs_ok (Paired.of_get hl f) e)
  | .frl xs, _, _, r, h => by
    cases r with
    | @frl a ds vs hs hl f =>
      unfold pyD at h
      cases e : pyDs xs with
      | none => rw [e] at h; cases h
      | some ds => rw [e] at h; cases h; exact .lst hs.sq (pyDs_ok (Paired.of_get hl f) e)
  | .ref n, _, _, _, h => by cases h
  | .und, _, _, _, h => by cases h
theorem pyDs_ok : ∀ {xs : List D} {vs : List V} {ds : List PyData}, Rels K ρ H xs vs → pyDs xs = some ds → DpAll K H vs ds
  | [], _, _, r, h => by cases r; cases h; exact .nil
  | x :: xs, _, _, r, h => by
    cases r with
    | cons r1 r2 =>
      unfold pyDs at h
      cases e1 : pyD x with
      | none => rw [e1] at h; cases h
      | some d => cases e2 : pyDs xs with
        | none => rw [e1, e2] at h; cases h
        | some ds => rw [e1, e2] at h; cases h; exact .cons (pyD_ok r1 e1) (pyDs_ok r2 e2)
end
theorem pyM_ok {x : D} {v : V} {d : PyData} (R : HRel K G ρ μ H) (r : Rel K ρ H x v) (h : pyM x μ = some d) : Dp K H v d := by
  cases r with
  | @ref n a e =>
    unfold pyM at h
    cases q : μ[n]? with
    | none => simp only [q] at h; cases h
    | some o =>
      simp only [q] at h
      cases o with
      | lst xs =>
        obtain ⟨vs, h1, p1⟩ := R.lst q e
        cases e2 : pyDs xs with
        | none => simp only [e2] at h; cases h
        | some ds => simp only [e2] at h; cases h; exact .lst (SqL.of h1) (pyDs_ok p1 e2)
      | _ => cases h
  | non => exact pyD_ok (ρ := ρ) .non h
  | bl b => exact pyD_ok (ρ := ρ) (.bl b) h
  | int i => exact pyD_ok (ρ := ρ) (.int i) h
  | str s => exact pyD_ok (ρ := ρ) (.str s) h
  | tup h1 h2 f => exact pyD_ok (ρ := ρ) (.tup h1 h2 f) h
  | frl h1 h2 f => exact pyD_ok (ρ := ρ) (.frl h1 h2 f) h
def rEqA (K : PySem.W.Frag) : R2 := fun x y H Q => rEq x y H Q ∨ rEqD K x y H Q
def rNeA (K : PySem.W.Frag) : R2 := fun x y H Q => rNe x y H Q ∨ rNeD K x y H Q
theorem op_eqA (hu : X.A.units + 64 < cLine) : OpR X (compareOp .Eq) (rEqA X.K) := opR_or op_eq (op_eqD hu)
theorem op_neA (hu : X.A.units + 64 < cLine) : OpR X (compareOp .NotEq) (rNeA X.K) := opR_or op_ne (op_neD hu)
theorem eq_s : OpS K G (rEqA K) opEq := fun ρ μ H x y dx dy Q R rx ry P => by
  unfold opEq at P
  cases e : eqS dx dy with
  | some k =>
    rw [e] at P
    obtain ⟨h1, h2⟩ := eqS_ok rx ry e
    exact .inl ⟨h1, by rw [h2]; exact P _ ρ H Grow.refl R (.bl _)⟩
  | none =>
    rw [e] at P
    simp only at P
    cases e1 : pyM dx μ with
    | none => rw [e1] at P; exact P.elim
    | some d => cases e2 : pyM dy μ with
      | none => rw [e1, e2] at P; exact P.elim
      | some d2 =>
        rw [e1, e2] at P
        simp only at P
        split at P
        · rename_i hs
          exact .inr ⟨d, d2, pyM_ok R rx e1, pyM_ok R ry e2, hs.1, hs.2, P _ ρ H Grow.refl R (.bl _)⟩
        · exact P.elim
theorem ne_s : OpS K G (rNeA K) opNe := fun ρ μ H x y dx dy Q R rx ry P => by
  unfold opNe at P
  cases e : eqS dx dy with
  | some k =>
    rw [e] at P
    obtain ⟨h1, h2⟩ := eqS_ok rx ry e
    exact .inl ⟨h1, by rw [h2]; exact P _ ρ H Grow.refl R (.bl _)⟩
  | none =>
    rw [e] at P
    simp only at P
    cases e1 : pyM dx μ with
    | none => rw [e1] at P; exact P.elim
    | some d => cases e2 : pyM dy μ with
      | none => rw [e1, e2] at P; exact P.elim
      | some d2 =>
        rw [e1, e2] at P
        simp only at P
        split at P
        · rename_i hs
          exact .inr ⟨d, d2, pyM_ok R rx e1, pyM_ok R ry e2, hs.1, hs.2, P _ ρ H Grow.refl R (.bl _)⟩
        · exact P.elim
theorem eq_n : NoX opEq := fun x y μ e μ' h => by
  unfold opEq at h
  split at h
  · cases h
  · split at h
    · split at h <;> cases h
    · cases h
theorem ne_n : NoX opNe := fun x y μ e μ' h => by
  unfold opNe at h
  split at h
  · cases h
  · split at h
    · split at h <;> cases h
    · cases h
theorem isN_s : OpS K G (fun x y H Q => y = .non ∧ Q (.bl (decide (x = .non))) H) opIsN := fun ρ μ H x y dx dy Q R rx ry P => by
  cases ry with
  | non => cases rx <;> exact ⟨rfl, P _ ρ H Grow.refl R (.bl _)⟩
  | _ => cases rx <;> exact P.elim
theorem notN_s : OpS K G (fun x y H Q => y = .non ∧ Q (.bl (!decide (x = .non))) H) opNotN := fun ρ μ H x y dx dy Q R rx ry P => by
  cases ry with
  | non => cases rx <;> exact ⟨rfl, P _ ρ H Grow.refl R (.bl _)⟩
  | _ => cases rx <;> exact P.elim
theorem isN_n : NoX opIsN := fun x y μ e μ' h => by unfold opIsN at h; split at h <;> cases h
theorem notN_n : NoX opNotN := fun x y μ e μ' h => by unfold opNotN at h; split at h <;> cases h
end
end Lw

set_option Elab.async false
set_option linter.all false
set_option maxRecDepth 100000
set_option maxHeartbeats 4000000
/-! in, places, cuts, len, kinds, written tables, lists' methods. -/
namespace Lw
open PySem PySem.Spec PyProof.Rows L2
section
variable {X : Cx} {G : Cg} {E : XK} {K : PySem.W.Frag} {ρ ρ' : List Addr} {H H' : Hp} {μ μ' : Mu} {σ : L2.St} {fr : Fr} {a b : Expr} {ma mb : EM} {pos : Pos}
/-! in -/
theorem flat_ok {x : D} {v : V} (r : Rel K ρ H x v) : flatV v = flatD x := by cases r <;> rfl
theorem flats_ok : ∀ {xs : List D} {vs : List V}, Rels K ρ H xs vs → vs.all flatV = xs.all flatD
  | _, _, .nil => rfl
  | _, _, .cons r t => by rw [List.all_cons, List.all_cons, flat_ok r, flats_ok t]
theorem beq_str (s t : List Nat) : ((⟨s.toArray⟩ : Str) == ⟨t.toArray⟩) = (s == t) := by
  rw [Bool.eq_iff_iff, beq_iff_eq, beq_iff_eq]
  constructor
  · intro h
    have := congrArg (fun z : Str => z.cps.toList) h
    simpa using this
  · intro h; rw [h]
theorem eqF_ok {x y : D} {v w : V} (r1 : Rel K ρ H x v) (r2 : Rel K ρ H y w) (fx : flatD x = true) (fy : flatD y = true) : eqV v w = eqF x y := by
  cases r1 <;> cases r2 <;> first | rfl | (cases fx; done) | (cases fy; done) | exact beq_str _ _
theorem inV_ok {x : D} {v : V} (r : Rel K ρ H x v) (fx : flatD x = true) : ∀ {ys : List D} {ws : List V}, Rels K ρ H ys ws → ys.all flatD = true → inV v ws = ys.any fun z => eqF z x
  | _, _, .nil, _ => rfl
  | y :: ys, w :: ws, .cons q t, h => by
    rw [List.all_cons, Bool.and_eq_true] at h
    unfold inV
    rw [List.any_cons, List.any_cons, eqF_ok q r h.1 fx]
    have := inV_ok r fx t h.2
    unfold inV at this
    rw [this]
def rInA (K : PySem.W.Frag) : R2 := fun x y H Q => rIn K false x y H Q ∨ (∃ (c : Nat) (z : Str), x = .str ⟨#[c]⟩ ∧ y = .str z ∧ Q (.bl (decide (c ∈ z.cps.toList))) H)
def rNotInA (K : PySem.W.Frag) : R2 := fun x y H Q => rIn K true x y H Q ∨ (∃ (c : Nat) (z : Str), x = .str ⟨#[c]⟩ ∧ y = .str z ∧ Q (.bl (!decide (c ∈ z.cps.toList))) H)
theorem op_inA : OpR X (compareOp .In) (rInA X.K) := opR_or op_in_seq op_in_sign
theorem op_notInA : OpR X (compareOp .NotIn) (rNotInA X.K) := opR_or op_notIn_seq op_notIn_sign
theorem isIn_ok {x y : D} {v w : V} {k : Bool} (R : HRel K G ρ μ H) (r1 : Rel K ρ H x v) (r2 : Rel K ρ H y w) (h : isIn x y μ = some k) :
    (∃ p xs, w = .ref p ∧ (SqL K H p xs ∨ SqT K H p xs) ∧ flatV v = true ∧ xs.all flatV = true ∧ inV v xs = k) ∨ (∃ (c : Nat) (z : Str), v = .str ⟨#[c]⟩ ∧ w = .str z ∧ decide (c ∈ z.cps.toList) = k) := by
  have seq : ∀ {ys : List D} {ws : List V} {p : Addr}, Rels K ρ H ys ws → (SqL K H p ws ∨ SqT K H p ws) → (if (flatD x && ys.all flatD) = true then some (ys.any fun z => eqF z x) else none) = some k → w = .ref p →
      ∃ p xs, w = .ref p ∧ (SqL K H p xs ∨ SqT K H p xs) ∧ flatV v = true ∧ xs.all flatV = true ∧ inV v xs = k := fun {ys ws p} p1 hq e ew => by
    split at e
    · rename_i hf
      rw [Bool.and_eq_true] at hf
      cases e
      exact ⟨p, ws, ew, hq, by rw [flat_ok r1]; exact hf.1, by rw [flats_ok p1]; exact hf.2, inV_ok r1 hf.1 p1 hf.2⟩
    · cases e
  cases r2 with
  | tup hs hl f => exact .inl (seq (Paired.of_get hl f) (.inr hs) h rfl)
  | frl hs hl f => exact .inl (seq (Paired.of_get hl f) (.inl hs.sq) h rfl)
  | @ref n a e =>
    unfold isIn at h
    cases q : μ[n]? with
    | none => simp only [q] at h; cases h
    | some o =>
      simp only [q] at h
      cases o with
      | lst xs =>
        obtain ⟨vs, h1, p1⟩ := R.lst q e
        exact .inl (seq p1 (.inl (SqL.of h1)) h rfl)
      | _ => cases h
  | str t =>
    cases r1 with
    | str s =>
      unfold isIn at h
      simp only at h
      split at h
      · rename_i c hc
        cases h
        cases hc
        exact .inr ⟨c, _, rfl, rfl, by simp⟩
      · cases h
    | _ => cases h
  | _ => cases h
theorem in_s : OpS K G (rInA K) opIn := fun ρ μ H x y dx dy Q R rx ry P => by
  unfold opIn at P
  cases e : isIn dx dy μ with
  | none => rw [e] at P; exact P.elim
  | some k =>
    rw [e] at P
    have q := P _ ρ H Grow.refl R (.bl k)
    rcases isIn_ok R rx ry e with ⟨p, xs, h1, h2, h3, h4, h5⟩ | ⟨c, z, h1, h2, h3⟩
    · exact .inl ⟨p, xs, h1, h2, h3, h4, by simpa [h5] using q⟩
    · exact .inr ⟨c, z, h1, h2, by rw [h3]; exact q⟩
theorem notIn_s : OpS K G (rNotInA K) opNotIn := fun ρ μ H x y dx dy Q R rx ry P => by
  unfold opNotIn at P
  cases e : isIn dx dy μ with
  | none => rw [e] at P; exact P.elim
  | some k =>
    rw [e] at P
    have q := P _ ρ H Grow.refl R (.bl _)
    rcases isIn_ok R rx ry e with ⟨p, xs, h1, h2, h3, h4, h5⟩ | ⟨c, z, h1, h2, h3⟩
    · exact .inl ⟨p, xs, h1, h2, h3, h4, by simpa [h5] using q⟩
    · exact .inr ⟨c, z, h1, h2, by rw [h3]; exact q⟩
theorem in_n : NoX opIn := fun x y μ e μ' h => by unfold opIn at h; split at h <;> cases h
theorem notIn_n : NoX opNotIn := fun x y μ e μ' h => by unfold opNotIn at h; split at h <;> cases h
/-! places -/
theorem ixN_at {α β : Type} {F : α → β → Prop} {xs : List α} {vs : List β} (p : Paired F xs vs) {i : Int} {d : α} (h : ixD xs i = some d) : ∃ v, atI vs i = some v ∧ F d v := by
  have hl := Paired.length p
  unfold ixD at h
  unfold atI ixN
  by_cases h0 : 0 ≤ i
  · rw [if_pos h0] at h ⊢
    have hi : i.toNat < xs.length := (List.getElem?_eq_some_iff.mp h).1
    rw [if_pos (by omega)]
    exact Paired.getR p h
  · rw [if_neg h0] at h ⊢
    split at h
    · rename_i hn
      rw [if_pos (by omega)]
      rw [hl] at h
      exact Paired.getR p h
    · cases h
theorem ix_s : OpS K G (rIx K) opIx := fun ρ μ H x y dx dy Q R rx ry P => by
  cases ry with
  | int i =>
    cases rx with
    | @tup a ds vs hs hl f =>
      unfold opIx at P
      cases e : ixD ds i with
      | none => simp only [e] at P; exact P.elim
      | some d =>
        simp only [e] at P
        obtain ⟨v, h1, h2⟩ := ixN_at (Paired.of_get hl f) e
        exact .inr (.inl ⟨a, vs, i, v, rfl, rfl, hs, h1, P v ρ H Grow.refl R h2⟩)
    | @frl a ds vs hs hl f =>
      unfold opIx at P
      cases e : ixD ds i with
      | none => simp only [e] at P; exact P.elim
      | some d =>
        simp only [e] at P
        obtain ⟨v, h1, h2⟩ := ixN_at (Paired.of_get hl f) e
        exact .inl ⟨a, vs, i, v, rfl, rfl, hs.sq, h1, P v ρ H Grow.refl R h2⟩
    | @ref n a e =>
      unfold opIx at P
      cases q : μ[n]? with
      | none => simp only [q] at P; exact P.elim
      | some o =>
        simp only [q] at P
        cases o with
        | lst xs =>
          simp only at P
          obtain ⟨vs, h1, p1⟩ := R.lst q e
          cases e2 : ixD xs i with
          | none => simp only [e2] at P; exact P.elim
          | some d =>
            simp only [e2] at P
            obtain ⟨v, h3, h4⟩ := ixN_at p1 e2
            exact .inl ⟨a, vs, i, v, rfl, rfl, SqL.of h1, h3, P v ρ H Grow.refl R h4⟩
        | _ => exact P.elim
    | str s =>
      unfold opIx at P
      simp only at P
      split at P
      · rename_i hl
        cases e : ixD s i with
        | none => simp only [e] at P; exact P.elim
        | some c =>
          simp only [e] at P
          obtain ⟨c', h1, h2⟩ := ixN_at (F := fun x y => x = y) (Paired.of_get (l₁ := s) (l₂ := s) rfl fun k x y e1 e2 => by rw [e1] at e2; cases e2; rfl) e
          subst h2
          refine .inr (.inr ⟨_, i, c, rfl, rfl, by rw [str_len]; exact line_le hl, by simpa using h1, P _ ρ H Grow.refl R (.str [c])⟩)
      · exact P.elim
    | _ => exact P.elim
  | _ => cases rx <;> exact P.elim
theorem ix_n : NoX opIx := fun x y μ e μ' h => by
  unfold opIx at h
  split at h <;> (try split at h) <;> (try split at h) <;> cases h
theorem s_ix (ha : PEm X G E a ma) (hb : PEm X G E b mb) (hs : PlainIx b := by exact fun _ _ => rfl) : PEm X G E (.Subscript a b pos) (eBin opIx ma mb) :=
  (pe_ix ix_seq ha hb hs).imp fun σ H Q ⟨ρ, fr, μ, L, R, P⟩ => ⟨ρ, fr, μ, L, R, PostE.bndE P fun dx μ1 _ x ρ1 H1 g1 R1 r1 P1 => ⟨ρ1, fr, μ1, L.mono g1, R1, PostE.bndE P1 fun dy μ2 _ y ρ2 H2 g2 R2 r2 P2 =>
    ix_s ρ2 μ2 H2 x y dx dy Q R2 (r1.mono g2) r2 (PostE.nox P2 (ix_n dx dy μ2))⟩⟩
/-- xs[i] = e -/
def sPutL (o i e : EM) : SM := fun fr μ => bndS fr (e fr μ) fun d μ1 => bndS fr (o fr μ1) fun x μ2 => bndS fr (i fr μ2) fun y μ3 => match x, y with
  | .ref n, .int k => match μ3[n]? with
    | some (.lst xs) => match ixN xs.length k with
      | some j => .nx fr (μ3.set n (.lst (xs.set j d)))
      | none => .bad
    | _ => .bad
  | _, _ => .bad
theorem s_putL {o i e : Expr} {mo mi me : EM} {p : Pos} (ho : PEm X G E o mo) (hi : PEm X G E i mi) (he : PEm X G E e me) (hs : swapsWithSole [.Subscript o i p] e pos.line X.env = pure false := by rfl) (hw : swappedStores [.Subscript o i p] e X.env = pure none := by rfl)
    (h1 : (assignEach [.Subscript o i p] X.env).map (·.2) = [assign (.Subscript o i p) X.env] := by rfl) (hg : PG X (.Subscript o i p) (gSub (rdE X.K G E mo) (rdE X.K G E mi) rSetL)) : PSm X G E (.Assign [.Subscript o i p] e pos) (sPutL mo mi me) :=
  (ps_asg he hg hs hw h1).imp fun Dn σ H ⟨ρ, fr, μ, L, R, P⟩ => ⟨ρ, fr, μ, L, R, PostS.bndE P fun d μ1 _ v ρ1 H1 g1 R1 r1 P1 => ⟨ρ1, fr, μ1, L.mono g1, R1, PostS.bndE P1 fun x μ2 _ w ρ2 H2 g2 R2 r2 P2 =>
    ⟨ρ2, fr, μ2, (L.mono g1).mono g2, R2, PostS.bndE P2 fun y μ3 _ z ρ3 H3 g3 R3 r3 P3 => by
      have r2' := r2.mono g3
      cases r3 with
      | int k =>
        cases r2' with
        | @ref n a e =>
          simp only at P3
          cases q : μ3[n]? with
          | none => simp only [q] at P3; exact P3.elim
          | some ob =>
            simp only [q] at P3
            cases ob with
            | lst xs =>
              simp only at P3
              obtain ⟨vs, h1, p1⟩ := R3.lst q e
              cases e4 : ixN xs.length k with
              | none => simp only [e4] at P3; exact P3.elim
              | some j =>
                simp only [e4] at P3
                have hm := R3.mutOf e
                refine ⟨a, vs, k, j, rfl, rfl, h1, by rw [p1.len]; exact e4, ?_⟩
                refine P3 σ ρ3 _ (Grow.mut hm) (R3.set e ⟨_, upd_same, ?_⟩) ((((L.mono g1).mono g2).mono g3).mono (Grow.mut hm))
                exact Rels.mono (Grow.mut hm) (Paired.setP ((r1.mono g2).mono g3) j p1)
            | _ => exact P3.elim
        | _ => exact P3.elim
      | _ => cases r2' <;> exact P3.elim⟩⟩⟩
/-! cuts -/
def rSlTW (K : PySem.W.Frag) : V → Option Int → Option Int → Hp → VK → Prop := fun x lo hi H Q => ∃ a xs, x = .ref a ∧ SqT K H a xs ∧ (HT.sIx xs.length 0 lo = 0 ∧ HT.sIx xs.length xs.length hi = xs.length) ∧ Q (.ref a) H
theorem sl_tupW : SlR X (rSlTW X.K) := by
  intro pins s σ H x v vl vu lo hi sl Q I rx hs pl pu h
  obtain ⟨t, xs, rfl, hx, hw, q⟩ := h
  cases rx
  obtain ⟨its, r, ht, hz⟩ := I.tuple hx
  have hlen : its.toArray.size = xs.length := by rw [List.size_toArray]; exact r.length.symm
  rw [← hlen] at hw
  refine ⟨"tuple", _, PyProof.Rows.slot_tuple_getitem.lookup, ht.typeIs, ?_⟩
  obtain ⟨os, hos, hcs, hds⟩ := id hs
  have hTs : s.TypeIs (.ref sl) "slice" := ⟨os, hos, hcs⟩
  unfold getItem
  try with_reducible refine wpAny_holding ?_
  first | refine wpAny_bind (wpAny_pure ?_) | skip
  refine wpAny_bind (wpAny_sequenceKey ht.typeIs (by decide) ?_)
  refine wpAny_bind (wpAny_callSpecial?_slot (name := Str.ofString "__getitem__") ht.typeIs slot_tuple_getitem (wpAny_call_entry slot_tuple_getitem ht.typeIs entry_tuple_getitem ?_ (args_tuple_getitem _ _)))
  show wpAny _ _ (Builtin.Tuple.tupleItemsOf (.ref t) >>= _) _ _ s
  refine wpAny_bind (tupleItemsOf_ ht (wpAny_bind (wpAny_typeOf hTs ?_)))
  rw [if_pos (by decide)]
  refine wpAny_bind (HT.sliceApplied_gen hs pl pu ?_)
  have yes : (((HT.sIx its.toArray.size 0 lo : Nat) : Int) == 0 && (1 : Int) == 1 && (HT.sIx its.toArray.size its.toArray.size hi - HT.sIx its.toArray.size 0 lo) == its.toArray.size) = true := by
    rw [hw.1, hw.2]
    simp
  show wpAny _ _ (if (((HT.sIx its.toArray.size 0 lo : Nat) : Int) == 0 && (1 : Int) == 1 && (HT.sIx its.toArray.size its.toArray.size hi - HT.sIx its.toArray.size 0 lo) == its.toArray.size) = true then _ else _) _ _ s
  rw [if_pos yes]
  unfold Builtin.Tuple.tupleIsExact
  refine wpAny_bind (wpAny_bind (wpAny_typeOf ht.typeIs (wpAny_pure ?_)))
  rw [if_pos (by decide)]
  exact wpAny_bind (wpAny_rule (wpAny_pure ⟨_, rfl, wpAny_pure ⟨.ref t, H, I, rfl, q⟩⟩))
def rSlA (K : PySem.W.Frag) : V → Option Int → Option Int → Hp → VK → Prop := fun x lo hi H Q => rSlT K x lo hi H Q ∨ rSlTW K x lo hi H Q ∨ rSlL K x lo hi H Q ∨ rSlS x lo hi H Q
theorem sl_all : SlR X (rSlA X.K) := sl_tup.or (sl_tupW.or (sl_list.or sl_str))
theorem Rels.cut {xs : List D} {vs : List V} {lo hi : Option Int} (p : Rels K ρ H xs vs) : Rels K ρ H (cutD xs lo hi) (cutV vs lo hi) := by
  unfold cutD cutV
  rw [p.len]
  exact Paired.takeP _ (Paired.dropP _ p)
theorem cut_whole {α : Type} {xs : List α} {lo hi : Option Int} (h : HT.sIx xs.length 0 lo = 0 ∧ HT.sIx xs.length xs.length hi = xs.length) : cutD xs lo hi = xs := by
  unfold cutD
  rw [h.1, h.2]
  simp
theorem slM_s {x : V} {dx : D} {lo hi : Option Int} {Q : VK} (R : HRel K G ρ μ H) (rx : Rel K ρ H dx x) (P : PostE K G E ρ H Q (slM dx lo hi μ)) : rSlA K x lo hi H Q := by
  cases rx with
  | @tup a ds vs hs hl f =>
    have p := Paired.of_get hl f
    by_cases hw : HT.sIx vs.length 0 lo = 0 ∧ HT.sIx vs.length vs.length hi = vs.length
    · refine .inr (.inl ⟨a, vs, rfl, hs, hw, ?_⟩)
      have P : PostE K G E ρ H Q (.ok (.tup (cutD ds lo hi)) μ) := P
      rw [hl] at hw
      rw [cut_whole hw] at P
      exact P _ ρ H Grow.refl R (Rel.tupP hs p)
    · exact .inl ⟨a, vs, rfl, hs, hw, fun p' hp => post_tup R (Rels.cut p) hp P⟩
  | @ref n a e =>
    unfold slM at P
    cases q : μ[n]? with
    | none => simp only [q] at P; exact P.elim
    | some o =>
      simp only [q] at P
      cases o with
      | lst xs =>
        obtain ⟨vs, h1, p1⟩ := R.lst q e
        exact .inr (.inr (.inl ⟨a, vs, rfl, SqL.of h1, fun p hp => post_lst R (Rels.cut p1) hp P⟩))
      | _ => exact P.elim
  | str s =>
    unfold slM at P
    simp only at P
    split at P
    · rename_i hl
      refine .inr (.inr (.inr ⟨_, rfl, by rw [str_len]; exact line_le hl, ?_⟩))
      have e : cutS (⟨s.toArray⟩ : Str) lo hi = ⟨(cutD s lo hi).toArray⟩ := by
        unfold cutS cutD
        rw [str_len]
      rw [e]
      exact P _ ρ H Grow.refl R (.str _)
    · exact P.elim
  | _ => exact P.elim
structure POm (X : Cx) (G : Cg) (E : XK) (e : Option Expr) (m : OM) : Prop where
  po : PO X e (fun σ H Q => ∃ ρ fr μ, Lc X.K ρ H σ fr ∧ HRel X.K G ρ μ H ∧ (match m fr μ with
    | .ok o μ' => ∀ ρ' H', Grow X.K ρ H ρ' H' → HRel X.K G ρ' μ' H' → Q o H'
    | .exc e μ' => PostX X.K G ρ H E e μ'
    | .bad => False))
theorem s_oNone : POm X G E none oNone := ⟨⟨fun pins s σ H Q I ⟨ρ, fr, μ, L, R, P⟩ => po_none.run pins s σ H Q I (P ρ H Grow.refl R)⟩⟩
theorem s_oSome (ha : PEm X G E a ma) : POm X G E (some a) (oSome ma) := ⟨⟨fun pins s σ H Q I ⟨ρ, fr, μ, L, R, P⟩ => (po_some ha).run pins s σ H Q I ⟨ρ, fr, μ, L, R, by
  unfold oSome at P
  cases e : ma fr μ with
  | bad => rw [e] at P; exact P
  | exc ex μ1 => rw [e] at P; exact P
  | ok d μ1 =>
    rw [e] at P
    intro v ρ1 H1 g1 R1 r1
    simp only [bnd_ok] at P
    cases r1 with
    | int i => exact ⟨i, rfl, P ρ1 H1 g1 R1⟩
    | _ => exact P.elim⟩⟩⟩
theorem s_sl {lo hi : Option Expr} {ml mh : OM} {p2 : Pos} (ha : PEm X G E a ma) (hl : POm X G E lo ml) (hh : POm X G E hi mh) : PEm X G E (.Subscript a (.Slice lo hi none p2) pos) (eSl ma ml mh) :=
  (pe_slice sl_all ha hl.po hh.po).imp fun σ H Q ⟨ρ, fr, μ, L, R, P⟩ => ⟨ρ, fr, μ, L, R, PostE.bndE P fun dx μ1 _ x ρ1 H1 g1 R1 r1 P1 => ⟨ρ1, fr, μ1, L.mono g1, R1, by
    cases e1 : ml fr μ1 with
    | bad => rw [e1] at P1; exact P1
    | exc ex μ2 => rw [e1] at P1; exact P1
    | ok l μ2 =>
      rw [e1] at P1
      intro ρ2 H2 g2 R2
      refine ⟨ρ2, fr, μ2, (L.mono g1).mono g2, R2, ?_⟩
      have P2 := PostE.mono g2 P1
      simp only [bnd_ok] at P2
      cases e2 : mh fr μ2 with
      | bad => rw [e2] at P2; exact P2
      | exc ex μ3 => rw [e2] at P2; exact P2
      | ok h μ3 =>
        rw [e2] at P2
        intro ρ3 H3 g3 R3
        exact slM_s R3 ((r1.mono g2).mono g3) (PostE.mono g3 P2)⟩⟩
/-! len, int, list, tuple -/
theorem len_s : CallS K G (fun xs H Q => ∃ x n, xs = [x] ∧ LenV K x H n ∧ Q (.int n) H) fLen := fun ρ μ H xs ds Q R r P => by
  cases r with
  | nil => exact P.elim
  | cons r1 r2 => cases r2 with
    | cons _ _ => unfold fLen at P; split at P <;> first | exact P.elim | (rename_i h; cases h)
    | nil =>
      cases r1 with
      | str s =>
        unfold fLen at P
        simp only at P
        split at P
        · rename_i hl
          exact ⟨_, s.length, rfl, ⟨by rw [str_len]; exact line_le hl, (str_len s).symm⟩, P _ ρ H Grow.refl R (.int _)⟩
        · exact P.elim
      | @tup a ds vs hs hl f => exact ⟨_, ds.length, rfl, .inr ⟨vs, hs, hl.symm⟩, P _ ρ H Grow.refl R (.int _)⟩
      | @frl a ds vs hs hl f => exact ⟨_, ds.length, rfl, .inl ⟨vs, hs.sq, hl.symm⟩, P _ ρ H Grow.refl R (.int _)⟩
      | @ref n a e =>
        unfold fLen at P
        cases q : μ[n]? with
        | none => simp only [q] at P; exact P.elim
        | some o =>
          simp only [q] at P
          cases o with
          | lst xs =>
            obtain ⟨vs, h1, p1⟩ := R.lst q e
            exact ⟨_, xs.length, rfl, .inl ⟨vs, SqL.of h1, p1.len.symm⟩, P _ ρ H Grow.refl R (.int _)⟩
          | _ => exact P.elim
      | _ => exact P.elim
theorem len_n : NoXs fLen := fun xs μ e μ' h => by
  unfold fLen at h
  split at h <;> (try split at h) <;> cases h
theorem int_s : CallS K G (fun xs H Q => (∃ i, xs = [.int i] ∧ Q (.int i) H) ∨ ∃ k, xs = [.bl k] ∧ Q (.int (if k then 1 else 0)) H) fInt := fun ρ μ H xs ds Q R r P => by
  cases r with
  | nil => exact P.elim
  | cons r1 r2 => cases r2 with
    | cons _ _ => unfold fInt at P; split at P <;> first | exact P.elim | (rename_i h; cases h)
    | nil =>
      cases r1 with
      | int i => exact .inl ⟨i, rfl, P _ ρ H Grow.refl R (.int _)⟩
      | bl b => exact .inr ⟨b, rfl, P _ ρ H Grow.refl R (.int _)⟩
      | _ => exact P.elim
theorem int_n : NoXs fInt := fun xs μ e μ' h => by
  unfold fInt at h
  split at h <;> cases h
theorem list_s : CallS K G (fun xs H Q => ∃ p ys, xs = [.ref p] ∧ (SqL K H p ys ∨ SqT K H p ys) ∧ ∀ l, H l = none → Q (.ref l) (upd H l (.lst ys))) fList := fun ρ μ H xs ds Q R r P => by
  cases r with
  | nil => exact P.elim
  | cons r1 r2 => cases r2 with
    | cons _ _ => unfold fList at P; split at P <;> first | exact P.elim | (rename_i h; cases h)
    | nil =>
      cases r1 with
      | @tup a ds vs hs hl f => exact ⟨a, vs, rfl, .inr hs, fun l hp => post_lst R (Paired.of_get hl f) hp P⟩
      | @frl a ds vs hs hl f => exact ⟨a, vs, rfl, .inl hs.sq, fun l hp => post_lst R (Paired.of_get hl f) hp P⟩
      | @ref n a e =>
        unfold fList at P
        cases q : μ[n]? with
        | none => simp only [q] at P; exact P.elim
        | some o =>
          simp only [q] at P
          cases o with
          | lst xs =>
            obtain ⟨vs, h1, p1⟩ := R.lst q e
            exact ⟨a, vs, rfl, .inl (SqL.of h1), fun l hp => post_lst R p1 hp P⟩
          | _ => exact P.elim
      | _ => exact P.elim
theorem list_n : NoXs fList := fun xs μ e μ' h => by
  unfold fList at h
  split at h <;> (try split at h) <;> cases h
theorem tuple_s : CallS K G (fun xs H Q => ∃ p ys, xs = [.ref p] ∧ ((SqL K H p ys ∧ ∀ l, H l = none → Q (.ref l) (upd H l (.tup ys))) ∨ (SqT K H p ys ∧ Q (.ref p) H))) fTuple := fun ρ μ H xs ds Q R r P => by
  cases r with
  | nil => exact P.elim
  | cons r1 r2 => cases r2 with
    | cons _ _ => unfold fTuple at P; split at P <;> first | exact P.elim | (rename_i h; cases h)
    | nil =>
      cases r1 with
      | @tup a ds vs hs hl f => exact ⟨a, vs, rfl, .inr ⟨hs, P _ ρ H Grow.refl R (.tup hs hl f)⟩⟩
      | @frl a ds vs hs hl f => exact ⟨a, vs, rfl, .inl ⟨hs.sq, fun l hp => post_tup R (Paired.of_get hl f) hp P⟩⟩
      | @ref n a e =>
        unfold fTuple at P
        cases q : μ[n]? with
        | none => simp only [q] at P; exact P.elim
        | some o =>
          simp only [q] at P
          cases o with
          | lst xs =>
            obtain ⟨vs, h1, p1⟩ := R.lst q e
            exact ⟨a, vs, rfl, .inl ⟨SqL.of h1, fun l hp => post_tup R p1 hp P⟩⟩
          | _ => exact P.elim
      | _ => exact P.elim
theorem tuple_n : NoXs fTuple := fun xs μ e μ' h => by
  unfold fTuple at h
  split at h <;> (try split at h) <;> cases h
/-! isinstance of built-in kinds -/
theorem tyx_ok {x : D} {v : V} {c : String} (R : HRel K G ρ μ H) (r : Rel K ρ H x v) (h : kdD x μ = some c) : TyX K H v (.type c) := by
  cases r with
  | non => cases h; exact .base .non
  | bl b => cases h; exact .base (.bl b)
  | int i => cases h; exact .base (.int i)
  | str s => cases h; exact .base (.str _)
  | @tup a ds vs hs hl f =>
    cases h
    rcases hs with (hs | ⟨o, hs⟩) | ⟨o, its, n, h1, h2, _⟩
    · exact .base (.tup hs)
    · exact .fTuple hs
    · exact .kTuple h1 h2
  | frl => cases h
  | @ref n a e =>
    unfold kdD at h
    cases q : μ[n]? with
    | none => simp only [q] at h; cases h
    | some o =>
      simp only [q] at h
      cases o with
      | lst xs => cases h; obtain ⟨vs, h1, p1⟩ := R.lst q e; exact .base (.lst h1)
      | dic kvs => cases h; obtain ⟨ks, h1, p1⟩ := R.obj n a _ e q; exact .base (.dK h1)
      | ins c fs => cases h
theorem kd_names {x : D} {c : String} (h : kdD x μ = some c) : c ∈ ["NoneType", "bool", "int", "str", "tuple", "list", "dict"] := by
  unfold kdD at h
  split at h <;> (try split at h) <;> cases h <;> decide
theorem kd_kit {c : String} (h : c ∈ ["NoneType", "bool", "int", "str", "tuple", "list", "dict"]) (k : Kd) : PySem.W.kitOne K (.type c) (.type k.nm) = some (isK k c) := by
  simp only [List.mem_cons, List.mem_nil_iff, or_false] at h
  rcases h with rfl | rfl | rfl | rfl | rfl | rfl | rfl <;> cases k <;> exact kit_ty (by decide +kernel)
theorem s_isi {p q : Pos} {k : Kd} {nm : Str} (ha : PEm X G E a ma) (hg : Gl X "isinstance") (hm : X.mg "isinstance" = none) (hg2 : Gl X nm) (hm2 : X.mg nm = none) (hv : bootBuiltins nm = some (.type k.nm)) (hnn : nm ≠ "__name__" := by decide) (hdb : (nm == ("__debug__" : Str)) = false := by decide)
    (he : starEach [a, .Name nm q] X.env = (false, eval a X.env) :: starEach [.Name nm q] X.env := by rfl) (he2 : starEach [.Name nm q] X.env = (false, eval (.Name nm q) X.env) :: starEach [] X.env := by rfl) (hpl : (backTo pos (starEach [.Name nm q] X.env)).any (·.1) = false := by rfl) :
    PEm X G E (.Call (.Name "isinstance" p) [a, .Name nm q] [] pos) (eIsi [k] ma) :=
  (pe_callB call_isi hg hm PyProof.Rows.boot_isinstance (pa_cons ha (pa_cons (pe_bltn (v := .ty k.nm) hg2 hm2 hv rfl hnn hdb) pa_nil he2) he) (by decide) (by decide) he hpl).imp fun σ H Q ⟨ρ, fr, μ, L, R, P⟩ =>
    ⟨ρ, fr, μ, L, R, PostE.bndE P fun d μ1 _ v ρ1 H1 g1 R1 r1 P1 => by
      cases e : kdD d μ1 with
      | none => simp only [e] at P1; exact P1.elim
      | some c =>
        simp only [e] at P1
        refine ⟨v, .ty k.nm, .type c, .type k.nm, isK k c, rfl, .ty _, tyx_ok R1 r1 e, kd_kit (kd_names e) k, ?_⟩
        have := P1 _ ρ1 H1 Grow.refl R1 (.bl _)
        simpa using this⟩
theorem s_isi2 {p q1 q2 qt : Pos} {x1} {k1 k2 : Kd} {n1 n2 : Str} (ha : PEm X G E a ma) (hg : Gl X "isinstance") (hm : X.mg "isinstance" = none) (hg1 : Gl X n1) (hm1 : X.mg n1 = none) (hv1 : bootBuiltins n1 = some (.type k1.nm)) (hg2 : Gl X n2) (hm2 : X.mg n2 = none)
    (hv2 : bootBuiltins n2 = some (.type k2.nm)) (hnn1 : n1 ≠ "__name__" := by decide) (hdb1 : (n1 == ("__debug__" : Str)) = false := by decide) (hnn2 : n2 ≠ "__name__" := by decide) (hdb2 : (n2 == ("__debug__" : Str)) = false := by decide)
    (he : starEach [a, .Tuple [.Name n1 q1, .Name n2 q2] x1 qt] X.env = (false, eval a X.env) :: starEach [.Tuple [.Name n1 q1, .Name n2 q2] x1 qt] X.env := by rfl)
    (he2 : starEach [.Tuple [.Name n1 q1, .Name n2 q2] x1 qt] X.env = (false, eval (.Tuple [.Name n1 q1, .Name n2 q2] x1 qt) X.env) :: starEach [] X.env := by rfl)
    (he3 : starEach [.Name n1 q1, .Name n2 q2] X.env = (false, eval (.Name n1 q1) X.env) :: starEach [.Name n2 q2] X.env := by rfl) (he4 : starEach [.Name n2 q2] X.env = (false, eval (.Name n2 q2) X.env) :: starEach [] X.env := by rfl)
    (hpl : (backTo pos (starEach [.Tuple [.Name n1 q1, .Name n2 q2] x1 qt] X.env)).any (·.1) = false := by rfl) :
    PEm X G E (.Call (.Name "isinstance" p) [a, .Tuple [.Name n1 q1, .Name n2 q2] x1 qt] [] pos) (eIsi [k1, k2] ma) :=
  (pe_callB call_isiT hg hm PyProof.Rows.boot_isinstance (pa_cons ha (pa_cons (pe_tup (pa_cons (pe_bltn (v := .ty k1.nm) hg1 hm1 hv1 rfl hnn1 hdb1) (pa_cons (pe_bltn (v := .ty k2.nm) hg2 hm2 hv2 rfl hnn2 hdb2) pa_nil he4) he3)) pa_nil he2) he) (by decide) (by decide) he hpl).imp
    fun σ H Q ⟨ρ, fr, μ, L, R, P⟩ => ⟨ρ, fr, μ, L, R, PostE.bndE P fun d μ1 _ v ρ1 H1 g1 R1 r1 P1 => by
      cases e : kdD d μ1 with
      | none => simp only [e] at P1; exact P1.elim
      | some c =>
        simp only [e] at P1
        refine ⟨by show 2 ≤ sizeLine; decide, fun p hp => ?_⟩
        have g2 : Grow X.K ρ1 H1 ρ1 (upd H1 p (.tup [.ty k1.nm, .ty k2.nm])) := Grow.tupnew hp
        refine ⟨v, p, [.ty k1.nm, .ty k2.nm], .type c, [.type k1.nm, .type k2.nm], [k1, k2].any fun k => isK k c, rfl, upd_same, .cons (.ty _) (.cons (.ty _) .nil), tyx_ok (R1.tupnew hp) (r1.mono g2) e, ?_, ?_⟩
        · refine kitAny_cons (kd_kit (kd_names e) k1) (fun h1 => kitAny_cons (kd_kit (kd_names e) k2) (fun h2 => ?_) (fun h2 => ?_)) (fun h1 => ?_)
          · simp [h1, h2, kitAny_nil]
          · simp [h2]
          · simp [h1]
        · exact P1 _ ρ1 _ g2 (R1.tupnew hp) (.bl _)⟩
end
end Lw

set_option Elab.async false
set_option linter.all false
set_option maxRecDepth 100000
set_option maxHeartbeats 4000000
/-! Methods, new objects, what is raised, texts. -/
namespace Lw
open PySem PySem.Spec PyProof.Rows L2

/-! ### the functions -/
/-- a written table -/
def eKGet (kvs : List (List Nat × Int)) (k d : EM) : EM := fun fr μ => bnd (k fr μ) fun x μ1 => bnd (d fr μ1) fun y μ2 => match x with
  | .str s => .ok ((kvs.lookup s).elim y .int) μ2
  | _ => .bad
def eApp (o e : EM) : EM := fun fr μ => bnd (o fr μ) fun x μ1 => match x with
  | .ref n => match μ1[n]? with
    | some (.lst _) => bnd (e fr μ1) fun y μ2 => (match μ2[n]? with
      | some (.lst xs) => if xs.length < LINE then .ok .non (μ2.set n (.lst (xs ++ [y]))) else .bad
      | _ => .bad)
    | _ => .bad
  | _ => .bad
def eExt (o e : EM) : EM := fun fr μ => bnd (o fr μ) fun x μ1 => match x with
  | .ref n => match μ1[n]? with
    | some (.lst _) => bnd (e fr μ1) fun y μ2 => (match y with
      | .ref m => (match μ2[n]?, μ2[m]? with
        | some (.lst xs), some (.lst ys) => if xs.length + ys.length ≤ LINE then .ok .non (μ2.set n (.lst (xs ++ ys))) else .bad
        | _, _ => .bad)
      | _ => .bad)
    | _ => .bad
  | _ => .bad
/-- o.m(..), o of the class c -/
def eMeth (c : Nat) (g : List D → Mu → Res D) (o : EM) (as : AM) : EM := fun fr μ => bnd (o fr μ) fun x μ1 => match x with
  | .ref n => match μ1[n]? with
    | some (.ins k _) => if k = c then bnd (as fr μ1) fun ds μ2 => g (.ref n :: ds) μ2 else .bad
    | _ => .bad
  | _ => .bad
/-- C(..) -/
def eMake (c : Nat) (g : List D → Mu → Res D) (as : AM) : EM := fun fr μ => bnd (as fr μ) fun ds μ1 => bnd (g (.ref μ1.length :: ds) (μ1 ++ [.ins c []])) fun d μ2 => match d with
  | .non => .ok (.ref μ1.length) μ2
  | _ => .bad
def sRaise (c : Nat) : SM := fun fr μ => .exc ⟨c, []⟩ fr μ
def eDict0 : EM := fun _ μ => .ok (.ref μ.length) (μ ++ [.dic []])
def sBad : SM := fun _ _ => .bad
def eBad : EM := fun _ _ => .bad
/-- sep.join(texts) -/
def strsD : List D → Option (List (List Nat))
  | [] => some []
  | .str s :: r => (strsD r).map (s :: ·)
  | _ => none
def seqM (x : D) (μ : Mu) : Option (List D) := match x with
  | .tup xs => some xs
  | .frl xs => some xs
  | .ref n => match μ[n]? with
    | some (.lst xs) => some xs
    | _ => none
  | _ => none
/-- a method of a text with one argument -/
def eM1 (f : List Nat → D → Mu → Res D) (o e : EM) : EM := fun fr μ => bnd (o fr μ) fun x μ1 => match x with
  | .str s => bnd (e fr μ1) fun y μ2 => f s y μ2
  | _ => .bad
def mJoin (s : List Nat) (y : D) (μ : Mu) : Res D := match (seqM y μ).bind strsD with
  | some ts => if (ts.map (·.length)).sum + ts.length * s.length ≤ LINE then .ok (.str (TL.joinL s ts)) μ else .bad
  | none => .bad
/-- s.split(c) -/
def mSplit (s : List Nat) (y : D) (μ : Mu) : Res D := match y with
  | .str [c] => if s.length + 2 ≤ LINE ∧ c < 256 then .ok (.ref μ.length) (μ ++ [.lst ((TL.spl [c] 0 [] s).map .str)]) else .bad
  | _ => .bad
def intL (i : Int) : List Nat := TL.tl (Str.ofString (toString i))
def fStr (xs : List D) (μ : Mu) : Res D := match xs with
  | [.int i] => if i.natAbs.log2 < 1920 then .ok (.str (intL i)) μ else .bad
  | _ => .bad
/-- int(x) of a number, a truth, a text of figures -/
def fIntT (xs : List D) (μ : Mu) : Res D := match xs with
  | [.int i] => .ok (.int i) μ
  | [.bl b] => .ok (.int (if b then 1 else 0)) μ
  | [.str s] => if s.length ≤ 640 then (match intText? ⟨s.toArray⟩ with
    | some n => .ok (.int n) μ
    | none => .bad) else .bad
  | _ => .bad
def intsD : List D → Option (List Int)
  | [] => some []
  | .int i :: r => (intsD r).map (i :: ·)
  | _ => none
def fSum (xs : List D) (μ : Mu) : Res D := match xs with
  | [.ref n] => match μ[n]? with
    | some (.lst ys) => match intsD ys with
      | some is => .ok (.int is.sum) μ
      | none => .bad
    | _ => .bad
  | _ => .bad
/-- a, b = e -/
def gTupM (gs : List (D → Fr → Option Fr)) : D → Fr → Option Fr := fun d fr => match d with
  | .tup xs => if xs.length = gs.length then (xs.zip gs).foldl (fun f p => f.bind fun fr => p.2 p.1 fr) (some fr) else none
  | _ => none
def sUnp (g : D → Fr → Option Fr) (e : EM) : SM := fun fr μ => bndS fr (e fr μ) fun d μ1 => match g d fr with
  | some fr1 => .nx fr1 μ1
  | none => .bad
/-- a, b = x, y and a, b, c = x, y, z (plain local names) -/
def sPar2 (i j : Nat) (as : AM) : SM := fun fr μ => bndS fr (as fr μ) fun ds μ1 => match ds with
  | [u, v] => .nx ((fr.set i u).set j v) μ1
  | _ => .bad
def sPar3 (i j l : Nat) (as : AM) : SM := fun fr μ => bndS fr (as fr μ) fun ds μ1 => match ds with
  | [u, v, w] => .nx (((fr.set i u).set j v).set l w) μ1
  | _ => .bad

/-! ### that the text does so -/
section
variable {X : Cx} {G : Cg} {E : XK} {K : PySem.W.Frag} {ρ ρ' : List Addr} {H H' : Hp} {μ μ' : Mu} {σ : L2.St} {fr : Fr} {a b : Expr} {ma mb : EM} {pos : Pos}
theorem s_bad {e : Expr} : PEm X G E e eBad := ⟨fun pins s σ H Q I ⟨ρ, fr, μ, L, R, P⟩ => P.elim⟩
theorem s_badS {st : Stmt} : PSm X G E st sBad := ⟨fun pins s σ H Q I ⟨ρ, fr, μ, L, R, P⟩ => P.elim⟩
theorem ss_bad {st : List Stmt} : PSsm X G E st sBad := ⟨fun pins s σ H Q I ⟨ρ, fr, μ, L, R, P⟩ => P.elim⟩
/-- a written table of numbers -/
structure KTab (K : PySem.W.Frag) (w : World) (a : Addr) (kvs : List (List Nat × Int)) : Prop where
  kd : ∃ es n, KDict K w a es n
  look : ∀ s : List Nat, ∃ r, PySem.W.nsIn K a ⟨s.toArray⟩ = some r ∧ (match kvs.lookup s with
    | some i => ∃ t, r = some (.int i t)
    | none => r = none)
theorem s_kget {x : Str} {e f : Expr} {me mf : EM} {A0 : Addr} {kvs : List (List Nat × Int)} {p apos cpos : Pos} (T : KTab X.K X.w A0 kvs) (hg : Gl X x) (hm : X.mg x = some (.ref A0)) (he : PEm X G E e me) (hf : PEm X G E f mf) (hdb : (x == ("__debug__" : Str)) = false := by decide)
    (m : M2 X (.Name x p) "get" apos e f cpos := by exact ⟨rfl, rfl, rfl, rfl⟩) : PEm X G E (.Call (.Attribute (.Name x p) "get" apos) [e, f] [] cpos) (eKGet kvs me mf) := by
  refine ⟨fun pins s σ H Q I h => ?_⟩
  obtain ⟨ρ, fr, μ, L, R, P⟩ := h
  obtain ⟨es, n, D0⟩ := T.kd
  refine wpAny_Call_method m.base m.few m.line PySem.F.plainAttrs_dict PySem.F.slot_dict_get PySem.F.type_dict_get (ld_glob I hg hm ?_ hdb)
  refine ⟨kd_type D0 I, fun c ec => ?_, ?_⟩
  · cases ec
    exact ⟨_, I.kIn _ _ D0.at_, rfl⟩
  rw [m.trees]
  have P1 : PostE X.K G E ρ H Q (bnd (me fr μ) fun x μ1 => bnd (mf fr μ1) fun y μ2 => match x with
    | .str s => .ok ((kvs.lookup s).elim y .int) μ2
    | _ => .bad) := P
  refine Calls.callWith_builtin rfl (Calls.evalArgs_plain (Calls.spliced_cons (thn (he.run pins s σ H _ I ⟨ρ, fr, μ, L, R, PostE.bndE P1 (Q1 := fun v H1 => rdE X.K G E mf σ H1 fun y H2 => ∃ z : List Nat, v = .str ⟨z.toArray⟩ ∧ Q ((kvs.lookup z).elim y .int) H2) ?_⟩) fun iv s2 hy => ?_)))
  · intro d μ1 _ v ρ1 H1 g1 R1 r1 P2
    refine ⟨ρ1, fr, μ1, L.mono g1, R1, PostE.bndE P2 fun d2 μ2 _ y ρ2 H2 g2 R2 r2 P3 => ?_⟩
    cases r1 with
    | str z =>
      refine ⟨z, rfl, P3 _ ρ2 H2 Grow.refl R2 ?_⟩
      cases kvs.lookup z with
      | none => exact r2
      | some i => exact .int i
    | _ => exact P3.elim
  · obtain ⟨y, H2, I2, ry, q2⟩ := hy
    refine Calls.spliced_cons (thn (hf.run pins s2 σ H2 _ I2 q2) fun fv s3 hz => Calls.spliced_nil ?_)
    obtain ⟨zv, H3, I3, rz, z, ez, q⟩ := hz
    subst ez
    obtain ⟨tk, rfl⟩ := ry
    obtain ⟨r, h1, h2⟩ := T.look z
    refine call_meetsIn PySem.F.slot_dict_get (kd_type D0 I3) PySem.F.entry_dict_get (PySem.F.args_dict_get_3 _ _ _) (meets_dict_get_default (strKind X.prog X.w) A0 (PySem.strKind_is X.prog X.w ⟨z.toArray⟩ tk) D0.low fv) ⟨_, PySem.W.mapOf_K (prog := X.prog) I3.kIn D0.at_ D0.lit, ?_⟩
    rw [PySem.W.find_K D0.at_ h1]
    cases e : kvs.lookup z with
    | none =>
      rw [e] at h2 q
      simp only at h2
      subst h2
      exact ⟨zv, H3, I3.tok _, rz, q⟩
    | some i =>
      rw [e] at h2 q
      simp only at h2
      obtain ⟨t, rfl⟩ := h2
      exact ⟨.int i, H3, I3.tok _, ⟨_, rfl⟩, q⟩
/-! append, extend -/
section
variable {o e : Expr} {mo me : EM} {apos cpos : Pos}
theorem s_app (ho : PEm X G E o mo) (he : PEm X G E e me)
    (hbase : attributeBase o "append" X.env (eval o X.env) = eval o X.env := by rfl)
    (hfew : ((backTo cpos (starEach [e] X.env)).all (fun x => !x.1) && (backToKw cpos (keywordEach [] X.env)).all (fun x => x.1.isSome)
      && decide (([e] : List Expr).length + ([] : List Keyword).length + (if ([] : List Keyword).isEmpty then 0 else 1) < 30)) = true := by rfl)
    (hline : (apos.endLine == cpos.line) = true := by rfl) (hs : starEach [e] X.env = (false, eval e X.env) :: starEach [] X.env := by rfl) (hplain : (backTo cpos (starEach [] X.env)).any (·.1) = false := by rfl) :
    PEm X G E (.Call (.Attribute o "append" apos) [e] [] cpos) (eApp mo me) :=
  (pe_bm PySem.F.plainAttrs_list PySem.F.slot_list_append PySem.F.type_list_append mt_append ho (pa_cons he pa_nil hs) hbase hfew hline hs hplain).imp fun σ H Q ⟨ρ, fr, μ, L, R, P⟩ => ⟨ρ, fr, μ, L, R, PostE.bndE P fun d μ1 _ x ρ1 H1 g1 R1 r1 P1 => by
    cases r1 with
    | @ref n a en =>
      cases q : μ1[n]? with
      | none => simp only [q] at P1; exact P1.elim
      | some ob =>
        simp only [q] at P1
        cases ob with
        | lst xs =>
          simp only at P1
          obtain ⟨vs, h1, p1⟩ := R1.lst q en
          refine ⟨.inl ⟨rfl, vs, SqL.of h1⟩, ρ1, fr, μ1, L.mono g1, R1, PostE.bndE P1 fun y μ2 _ v ρ2 H2 g2 R2 r2 P2 => ?_⟩
          cases q2 : μ2[n]? with
          | none => simp only [q2] at P2; exact P2.elim
          | some ob2 =>
            simp only [q2] at P2
            cases ob2 with
            | lst ys =>
              simp only at P2
              split at P2
              · rename_i hz
                have en2 := g2.pre _ _ en
                obtain ⟨ws, h2, p2⟩ := R2.lst q2 en2
                have hm := R2.mutOf en2
                refine ⟨a, ws, v, rfl, rfl, h2, by rw [p2.len]; exact Nat.lt_of_lt_of_le hz (by decide), ?_⟩
                exact P2 _ ρ2 _ (Grow.mut hm) (R2.set en2 ⟨_, upd_same, Rels.mono (Grow.mut hm) (Paired.snoc p2 r2)⟩) .non
              · exact P2.elim
            | _ => exact P2.elim
        | _ => exact P1.elim
    | _ => exact P1.elim⟩
theorem s_ext (ho : PEm X G E o mo) (he : PEm X G E e me)
    (hbase : attributeBase o "extend" X.env (eval o X.env) = eval o X.env := by rfl)
    (hfew : ((backTo cpos (starEach [e] X.env)).all (fun x => !x.1) && (backToKw cpos (keywordEach [] X.env)).all (fun x => x.1.isSome)
      && decide (([e] : List Expr).length + ([] : List Keyword).length + (if ([] : List Keyword).isEmpty then 0 else 1) < 30)) = true := by rfl)
    (hline : (apos.endLine == cpos.line) = true := by rfl) (hs : starEach [e] X.env = (false, eval e X.env) :: starEach [] X.env := by rfl) (hplain : (backTo cpos (starEach [] X.env)).any (·.1) = false := by rfl) :
    PEm X G E (.Call (.Attribute o "extend" apos) [e] [] cpos) (eExt mo me) :=
  (pe_bm PySem.F.plainAttrs_list PySem.F.slot_list_extend PySem.F.type_list_extend mt_extend ho (pa_cons he pa_nil hs) hbase hfew hline hs hplain).imp fun σ H Q ⟨ρ, fr, μ, L, R, P⟩ => ⟨ρ, fr, μ, L, R, PostE.bndE P fun d μ1 _ x ρ1 H1 g1 R1 r1 P1 => by
    cases r1 with
    | @ref n a en =>
      cases q : μ1[n]? with
      | none => simp only [q] at P1; exact P1.elim
      | some ob =>
        simp only [q] at P1
        cases ob with
        | lst xs =>
          simp only at P1
          obtain ⟨vs, h1, p1⟩ := R1.lst q en
          refine ⟨.inl ⟨rfl, vs, SqL.of h1⟩, ρ1, fr, μ1, L.mono g1, R1, PostE.bndE P1 fun y μ2 _ v ρ2 H2 g2 R2 r2 P2 => ?_⟩
          cases r2 with
          | @ref m b em =>
            simp only at P2
            cases q2 : μ2[n]? with
            | none => simp only [q2] at P2; exact P2.elim
            | some ob2 => cases q3 : μ2[m]? with
              | none => simp only [q2, q3] at P2; cases ob2 <;> exact P2.elim
              | some ob3 =>
                simp only [q2, q3] at P2
                cases ob2 with
                | lst ys => cases ob3 with
                  | lst zs =>
                    simp only at P2
                    split at P2
                    · rename_i hz
                      have en2 := g2.pre _ _ en
                      obtain ⟨ws, h2, p2⟩ := R2.lst q2 en2
                      obtain ⟨us, h3, p3⟩ := R2.lst q3 em
                      have hm := R2.mutOf en2
                      refine ⟨a, b, ws, us, rfl, rfl, h2, h3, by rw [p2.len, p3.len]; exact line_le hz, ?_⟩
                      exact P2 _ ρ2 _ (Grow.mut hm) (R2.set en2 ⟨_, upd_same, Rels.mono (Grow.mut hm) (Paired.app p2 p3)⟩) .non
                    · exact P2.elim
                  | _ => exact P2.elim
                | _ => cases ob3 <;> exact P2.elim
          | _ => exact P2.elim
        | _ => exact P1.elim
    | _ => exact P1.elim⟩
end
/-! own methods, new objects -/
/-- no field has the method's name -/
theorem FRel.no {f : Str} (hf : ∀ k, k < G.nf → G.fnm k ≠ f) : ∀ {fs : List (Nat × D)} {gs : List (Str × V)}, Paired (FRel K G ρ H) fs gs → gs.lookup f = none
  | _, _, .nil => rfl
  | (g, x) :: fs, (n, y) :: gs, .cons ⟨h1, h2, h3⟩ t => by
    have h2 : n = G.fnm g := h2
    subst h2
    have ne : (f == G.fnm g) = false := by
      rw [beq_eq_false_iff_ne]
      exact fun z => hf g h1 z.symm
    rw [List.lookup_cons, ne]
    exact FRel.no hf t
section
variable {CX : CXT} {k : Nat} {f : Addr} {fd : FuncData} {ps : List Str} {g : List D → Mu → Res D} {c : Nat} {m : Str} {o e : Expr} {es : List Expr} {mo : EM} {ms : AM} {apos p : Pos}
theorem meth_rd {sp : Sp} {t : TA} (hf : ∀ k, k < G.nf → G.fnm k ≠ m) (hsp : sp = spM X.K G g) {Q : VK} (hlen : t = rdA X.K G E ms) (h : rdE X.K G E (eMeth c g mo ms) σ H Q) : tMeth (G.cA c) m sp [] E (rdE X.K G E mo) t σ H Q := by
  subst hsp hlen
  obtain ⟨ρ, fr, μ, L, R, P⟩ := h
  refine ⟨ρ, fr, μ, L, R, PostE.bndE P fun d μ1 _ x ρ1 H1 g1 R1 r1 P1 => ?_⟩
  cases r1 with
  | @ref n a en =>
    cases q : μ1[n]? with
    | none => simp only [q] at P1; exact P1.elim
    | some ob =>
      simp only [q] at P1
      cases ob with
      | ins c' fs =>
        simp only at P1
        split at P1
        · rename_i hc
          subst hc
          obtain ⟨dx, gs, h1, h2⟩ := R1.obj n a _ en q
          refine ⟨a, dx, gs, rfl, h1, FRel.no hf h2, ρ1, fr, μ1, L.mono g1, R1, PostE.bndA P1 fun ds μ2 _ vs ρ2 H2 g2 R2 r2 P2 => ⟨ρ2, μ2, .ref n :: ds, R2, ?_, P2⟩⟩
          rw [List.append_nil]
          exact .cons (.ref (g2.pre _ _ en)) r2
        · exact P1.elim
      | _ => exact P1.elim
  | _ => exact P1.elim
theorem s_meth {pl : Sem Bool} (he : PEm X G E o mo) (cl : Cls X.K (G.cA c)) (hm : Meth X.K (G.cA c) m f) (F : FnOk X.prog X.w X.K X.mg X.base CX k f fd ps (spM X.K G g)) (hr : Room k X.A) (hb : Binds X.K fd ps []) (hx : Passes CX X E) (hf : ∀ k, k < G.nf → G.fnm k ≠ m) (ha : PAm X G E (e :: es) ms)
    (hst : starEach (e :: es) X.env = (false, eval e X.env) :: starEach es X.env := by rfl) (hpl : (backTo pos (starEach es X.env)).any (·.1) = false := by rfl)
    (ht : eval (.Call (.Attribute o m apos) (e :: es) [] pos) X.env = (do
      let ov ← eval o X.env
      standAt apos.atName
      let (f, first) ← holding [ov] (getMethod ov m pl)
      callWith pos f first (backTo pos (starEach (e :: es) X.env)) (backToKw pos (keywordEach [] X.env))) := by rfl) :
    PEm X G E (.Call (.Attribute o m apos) (e :: es) [] pos) (eMeth c g mo ms) :=
  (pe_meth (pl := pl) he cl hm F hr hb .nil hx ha.pa hst hpl ht).imp fun σ H Q h => meth_rd hf rfl rfl h
theorem s_meth0 {pl : Sem Bool} (he : PEm X G E o mo) (cl : Cls X.K (G.cA c)) (hm : Meth X.K (G.cA c) m f) (F : FnOk X.prog X.w X.K X.mg X.base CX k f fd ps (spM X.K G g)) (hr : Room k X.A) (hb : Binds X.K fd ps []) (hx : Passes CX X E) (hf : ∀ k, k < G.nf → G.fnm k ≠ m)
    (ht : eval (.Call (.Attribute o m apos) [] [] pos) X.env = (do
      let ov ← eval o X.env
      standAt apos.atName
      let (f, first) ← holding [ov] (getMethod ov m pl)
      callWith pos f first (backTo pos (starEach [] X.env)) (backToKw pos (keywordEach [] X.env))) := by rfl) :
    PEm X G E (.Call (.Attribute o m apos) [] [] pos) (eMeth c g mo aNil) :=
  (pe_meth0 (pl := pl) he cl hm F hr hb .nil hx ht).imp fun σ H Q h => by
    obtain ⟨ρ, fr, μ, L, R, P⟩ := h
    refine ⟨ρ, fr, μ, L, R, PostE.bndE P fun d μ1 _ x ρ1 H1 g1 R1 r1 P1 => ?_⟩
    cases r1 with
    | @ref n a en =>
      cases q : μ1[n]? with
      | none => simp only [q] at P1; exact P1.elim
      | some ob =>
        simp only [q] at P1
        cases ob with
        | ins c' fs =>
          simp only at P1
          split at P1
          · rename_i hc
            subst hc
            obtain ⟨dx, gs, h1, h2⟩ := R1.obj n a _ en q
            exact ⟨a, dx, gs, rfl, h1, FRel.no hf h2, ρ1, μ1, [.ref n], R1, .cons (.ref en) .nil, P1⟩
          · exact P1.elim
        | _ => exact P1.elim
    | _ => exact P1.elim
theorem make_rd {Q : VK} {ds : List D} {vs : List V} (R : HRel X.K G ρ μ H) (r : Rels X.K ρ H ds vs)
    (P : PostE X.K G E ρ H Q (bnd (g (.ref μ.length :: ds) (μ ++ [.ins c []])) fun d μ2 => match d with
      | .non => .ok (.ref μ.length) μ2
      | _ => .bad)) : ∀ x dx, H x = none → H dx = none → dx ≠ x → spM X.K G g (.ref x :: (vs ++ [])) (upd (upd H dx (.own x)) x (.ins (G.cA c) dx [])) (fun v H2 => v = .non ∧ Q (.ref x) H2) E := fun x dx hx hdx ne => by
  have hx2 : upd H dx (.own x) x = none := by rw [upd_ne ne.symm]; exact hx
  have g1 : Grow X.K ρ H ρ (upd H dx (.own x)) := Grow.tupnew hdx
  have R1 := R.tupnew (o := .own x) hdx
  have g2 : Grow X.K ρ (upd H dx (.own x)) (ρ ++ [x]) (upd (upd H dx (.own x)) x (.ins (G.cA c) dx [])) := Grow.new hx2
  have R2 : HRel X.K G (ρ ++ [x]) (μ ++ [.ins c []]) (upd (upd H dx (.own x)) x (.ins (G.cA c) dx [])) := R1.new hx2 ⟨dx, [], upd_same, .nil⟩
  have en : (ρ ++ [x])[μ.length]? = some x := by rw [← R.len]; simp
  refine ⟨ρ ++ [x], _, .ref μ.length :: ds, R2, ?_, PostE.bndE (PostE.mono (g1.trans g2) P) fun d μ2 _ v ρ3 H3 g3 R3 r3 P3 => ?_⟩
  · rw [List.append_nil]
    exact .cons (.ref en) (r.mono (g1.trans g2))
  · cases r3 with
    | non => exact ⟨rfl, P3 _ ρ3 H3 Grow.refl R3 (.ref (g3.pre _ _ en))⟩
    | _ => exact P3.elim
theorem s_make {x : Str} (M : Mk X.K (G.cA c) f) (F : FnOk X.prog X.w X.K X.mg X.base CX k f fd ps (spM X.K G g)) (hr : Room (k + 1) X.A) (hg : Gl X x) (hm : X.mg x = some (.ref (G.cA c))) (hb : Binds X.K fd ps []) (hx : Passes CX X E) (ha : PAm X G E (e :: es) ms)
    (hdb : (x == ("__debug__" : Str)) = false := by decide) (he : starEach (e :: es) X.env = (false, eval e X.env) :: starEach es X.env := by rfl) (hpl : (backTo pos (starEach es X.env)).any (·.1) = false := by rfl) :
    PEm X G E (.Call (.Name x p) (e :: es) [] pos) (eMake c g ms) :=
  (pe_make M F hr hg hm hb .nil hx ha.pa hdb he hpl).imp fun σ H Q ⟨ρ, fr, μ, L, R, P⟩ => ⟨ρ, fr, μ, L, R, PostE.bndA P fun ds μ1 _ vs ρ1 H1 g1 R1 r1 P1 => make_rd R1 r1 P1⟩
theorem s_make0 {x : Str} (M : Mk X.K (G.cA c) f) (F : FnOk X.prog X.w X.K X.mg X.base CX k f fd ps (spM X.K G g)) (hr : Room (k + 1) X.A) (hg : Gl X x) (hm : X.mg x = some (.ref (G.cA c))) (hb : Binds X.K fd ps []) (hx : Passes CX X E)
    (hdb : (x == ("__debug__" : Str)) = false := by decide) : PEm X G E (.Call (.Name x p) [] [] pos) (eMake c g aNil) :=
  (pe_make0 M F hr hg hm hb .nil hx hdb).imp fun σ H Q ⟨ρ, fr, μ, L, R, P⟩ => make_rd (ds := []) (vs := []) R .nil P
end
/-! raise C('..') -/
theorem s_raise {c : Nat} {x m : Str} {j : Nat} {p p2 pos pos2 : Pos} {bmB : List Value} {B newId initId : String} (hc : X.calm = true) (tk : Takes X (fun cls d _ H => E cls d H)) (F : ExcBaseFacts B newId initId bmB) (q : PySem.W.excIn X.K (G.xA c) bmB newId = true)
    (gC : X.mg x = some (.ref (G.xA c))) (kC : PySem.W.keepIn X.K (.ref (G.xA c)) = true) (r : Raises X (.ref (G.xA c))) (hg : Gl X x) (hdb : (x == ("__debug__" : Str)) = false := by decide) :
    PSm X G E (.Raise (some (.Call (.Name x p) [.Constant (.str m) j p2] [] pos)) none pos2) (sRaise c) :=
  (ps_raise hc tk (pmk_own F q gC kC r hg hdb)).imp fun Dn σ H ⟨ρ, fr, μ, L, R, P⟩ => P _ none ρ H Grow.refl R ⟨rfl, .inl ⟨rfl, rfl⟩⟩
/-! {} -/
theorem s_dict0 : PEm X G E (.Dict [] [] pos) eDict0 := pe_dnewK.imp fun σ H Q ⟨ρ, fr, μ, L, R, P⟩ p hp => P _ (ρ ++ [p]) _ (Grow.new hp) (R.new hp ⟨[], upd_same, .nil⟩) (.ref (by rw [← R.len]; simp))
/-! texts -/
theorem strs_ok : ∀ {xs : List D} {vs : List V} {ts : List (List Nat)}, Rels K ρ H xs vs → strsD xs = some ts → vs = (ts.map fun s => (⟨s.toArray⟩ : Str)).map V.str
  | [], _, _, .nil, h => by cases h; rfl
  | x :: xs, _, ts, .cons r t, h => by
    cases r with
    | str s =>
      unfold strsD at h
      cases e : strsD xs with
      | none => rw [e] at h; cases h
      | some us => rw [e] at h; cases h; rw [strs_ok t e]; rfl
    | _ => cases h
theorem seqM_ok {x : D} {v : V} {xs : List D} (R : HRel K G ρ μ H) (r : Rel K ρ H x v) (h : seqM x μ = some xs) : ∃ a vs, v = .ref a ∧ (SqL K H a vs ∨ SqT K H a vs) ∧ Rels K ρ H xs vs := by
  cases r with
  | @tup a ds vs hs hl f => cases h; exact ⟨a, vs, rfl, .inr hs, Paired.of_get hl f⟩
  | @frl a ds vs hs hl f => cases h; exact ⟨a, vs, rfl, .inl hs.sq, Paired.of_get hl f⟩
  | @ref n a e =>
    unfold seqM at h
    cases q : μ[n]? with
    | none => simp only [q] at h; cases h
    | some ob =>
      simp only [q] at h
      cases ob with
      | lst ys => cases h; obtain ⟨vs, h1, p1⟩ := R.lst q e; exact ⟨a, vs, rfl, .inl (SqL.of h1), p1⟩
      | _ => cases h
  | _ => cases h
theorem s_str_of {s : List Nat} {x : Str} (h : TL.tl x = s) : (V.str x) = V.str ⟨s.toArray⟩ := by
  subst h
  simp [TL.tl]
/-- a method's rule does what the function says -/
def MtS (K : PySem.W.Frag) (G : Cg) (r : V → List V → Hp → VK → Prop) (f : List Nat → D → Mu → Res D) : Prop :=
  ∀ ρ μ H s y dy Q, HRel K G ρ μ H → Rel K ρ H dy y → PostE K G (fun _ _ _ => False) ρ H Q (f s dy μ) → r (.str ⟨s.toArray⟩) [y] H Q
section
variable {o e : Expr} {mo me : EM} {apos cpos : Pos}
theorem s_m1 {id : String} {name : Str} {r : V → List V → Hp → VK → Prop} {f : List Nat → D → Mu → Res D} (slot : Slot "str" name id) (ty : typeOf (.builtin id) = pure (.type "method_descriptor")) (rule : MtR X id r) (hf : MtS X.K G r f) (hn : ∀ s y μ e μ', f s y μ ≠ .exc e μ')
    (ho : PEm X G E o mo) (he : PEm X G E e me) (hs : starEach [e] X.env = [(false, eval e X.env)] := by rfl) (hbase : attributeBase o name X.env (eval o X.env) = eval o X.env := by rfl) (hline : (apos.endLine == cpos.line) = true := by rfl) :
    PEm X G E (.Call (.Attribute o name apos) [e] [] cpos) (eM1 f mo me) :=
  (pe_m1 slot ty rule ho he hs hbase hline).imp fun σ H Q ⟨ρ, fr, μ, L, R, P⟩ => ⟨ρ, fr, μ, L, R, PostE.bndE P fun d μ1 e1 x ρ1 H1 g1 R1 r1 P1 => by
    cases r1 with
    | str s => exact ⟨⟨_, rfl⟩, ρ1, fr, μ1, L.mono g1, R1, PostE.bndE P1 fun y μ2 _ v ρ2 H2 g2 R2 r2 P2 => hf ρ2 μ2 H2 s v y Q R2 r2 (PostE.nox P2 (hn s y μ2))⟩
    | _ => exact P1.elim⟩
end
def rJoin (K : PySem.W.Frag) : V → List V → Hp → VK → Prop := fun x xs H Q => ∃ a p, ∃ ys : List Str, x = .str a ∧ xs = [.ref p] ∧ (SqL K H p (ys.map V.str) ∨ SqT K H p (ys.map V.str)) ∧ (ys.map (·.length)).sum + ys.length * a.length ≤ 16777216 ∧ Q (.str (Txt.join a ys)) H
theorem mt_joinA : MtR X "str.join" (rJoin X.K) := mt_join
theorem join_s : MtS K G (rJoin K) mJoin := fun ρ μ H s y dy Q R ry P => by
  unfold mJoin at P
  cases q : seqM dy μ with
  | none => simp only [q, Option.bind_none] at P; exact P.elim
  | some xs => cases q2 : strsD xs with
    | none => simp only [q, Option.bind_some, q2] at P; exact P.elim
    | some ts =>
      simp only [q, Option.bind_some, q2] at P
      split at P
      · rename_i hz
        obtain ⟨a, vs, rfl, hq, p⟩ := seqM_ok R ry q
        have ev := strs_ok p q2
        subst ev
        refine ⟨_, a, _, rfl, rfl, hq, ?_, ?_⟩
        · have e1 : ((ts.map fun s => (⟨s.toArray⟩ : Str)).map (·.length)) = ts.map (·.length) := by
            rw [List.map_map]
            exact List.map_congr_left fun t _ => str_len t
          rw [e1, List.length_map, str_len]
          exact Nat.le_trans hz (by decide)
        · have e2 : TL.tl (Txt.join (⟨s.toArray⟩ : Str) (ts.map fun s => (⟨s.toArray⟩ : Str))) = TL.joinL s ts := by
            have := TL.tl_join (⟨s.toArray⟩ : Str) (ts.map fun s => (⟨s.toArray⟩ : Str))
            rw [List.map_map] at this
            have e3 : (TL.tl ∘ fun s => (⟨s.toArray⟩ : Str)) = id := funext fun s => by simp [TL.tl]
            rw [e3, List.map_id] at this
            have e4 : TL.tl (⟨s.toArray⟩ : Str) = s := by simp [TL.tl]
            rw [e4] at this
            rw [TL.join_eq]
            exact this
          rw [s_str_of e2]
          exact P _ ρ H Grow.refl R (.str _)
      · exact P.elim
theorem join_n : ∀ s y μ e μ', mJoin s y μ ≠ .exc e μ' := fun s y μ e μ' h => by
  unfold mJoin at h
  split at h <;> (try split at h) <;> cases h
def rSplit : V → List V → Hp → VK → Prop := fun x xs H Q => ∃ a b, x = .str a ∧ xs = [.str b] ∧ (b.length == 0) = false ∧ a.length + 2 ≤ sizeLine ∧ rNewStrs (Txt.split a b) H Q
theorem mt_splitA : MtR X "str.split" rSplit := mt_split
theorem strs_rel {ρ : List Addr} {H : Hp} : ∀ ts : List Str, Rels K ρ H ((ts.map TL.tl).map .str) (ts.map V.str)
  | [] => .nil
  | t :: ts => .cons (by rw [s_str_of rfl]; exact .str _) (strs_rel ts)
theorem split_s : MtS K G rSplit mSplit := fun ρ μ H s y dy Q R ry P => by
  unfold mSplit at P
  split at P
  · rename_i c
    split at P
    · rename_i hz
      cases ry
      refine ⟨_, _, rfl, rfl, rfl, by rw [str_len]; exact Nat.le_trans hz.1 (by decide), fun p hp => ?_⟩
      have e4 : TL.tl (⟨s.toArray⟩ : Str) = s := by simp [TL.tl]
      have k : Builtin.Str.strKind (⟨[c].toArray⟩ : Str) = 1 := by
        unfold Builtin.Str.strKind
        simp [hz.2]
      have e := TL.split_spl (⟨s.toArray⟩ : Str) ⟨[c].toArray⟩ (by simp [TL.tl]) (by
        rw [k]
        unfold Builtin.Str.strKind
        split
        · omega
        · split <;> omega)
      rw [e4] at e
      have e5 : TL.tl (⟨[c].toArray⟩ : Str) = [c] := by simp [TL.tl]
      rw [e5] at e
      refine post_lst R ?_ hp P
      rw [← e]
      exact strs_rel _
    · exact P.elim
  · exact P.elim
theorem split_n : ∀ s y μ e μ', mSplit s y μ ≠ .exc e μ' := fun s y μ e μ' h => by
  unfold mSplit at h
  split at h <;> (try split at h) <;> cases h
theorem str_s : CallS K G (fun xs H Q => ∃ i, xs = [.int i] ∧ i.natAbs.log2 < 1920 ∧ Q (.str (toString i)) H) fStr := fun ρ μ H xs ds Q R r P => by
  cases r with
  | nil => exact P.elim
  | cons r1 r2 => cases r2 with
    | cons _ _ => unfold fStr at P; split at P <;> first | exact P.elim | (rename_i h; cases h)
    | nil =>
      cases r1 with
      | int i =>
        unfold fStr at P
        simp only at P
        split at P
        · rename_i hz
          refine ⟨i, rfl, hz, ?_⟩
          rw [s_str_of (s := intL i) rfl]
          exact P _ ρ H Grow.refl R (.str _)
        · exact P.elim
      | _ => exact P.elim
theorem str_n : NoXs fStr := fun xs μ e μ' h => by
  unfold fStr at h
  split at h <;> (try split at h) <;> cases h
def rIntT : List V → Hp → VK → Prop := fun xs H Q => ((∃ i, xs = [.int i] ∧ Q (.int i) H) ∨ ∃ k, xs = [.bl k] ∧ Q (.int (if k then 1 else 0)) H) ∨ ∃ a n, xs = [.str a] ∧ PySem.intText? a = some n ∧ a.length ≤ 640 ∧ Q (.int n) H
theorem call_intT : CallR X (.type "int") rIntT := callR_or call_int1 call_int_str
theorem intT_s : CallS K G rIntT fIntT := fun ρ μ H xs ds Q R r P => by
  cases r with
  | nil => exact P.elim
  | cons r1 r2 => cases r2 with
    | cons _ _ => unfold fIntT at P; split at P <;> first | exact P.elim | (rename_i h; cases h)
    | nil =>
      cases r1 with
      | int i => exact .inl (.inl ⟨i, rfl, P _ ρ H Grow.refl R (.int _)⟩)
      | bl b => exact .inl (.inr ⟨b, rfl, P _ ρ H Grow.refl R (.int _)⟩)
      | str s =>
        unfold fIntT at P
        simp only at P
        split at P
        · rename_i hz
          cases e : intText? (⟨s.toArray⟩ : Str) with
          | none => simp only [e] at P; exact P.elim
          | some n => simp only [e] at P; exact .inr ⟨_, n, rfl, e, by rw [str_len]; exact hz, P _ ρ H Grow.refl R (.int _)⟩
        · exact P.elim
      | _ => exact P.elim
theorem intT_n : NoXs fIntT := fun xs μ e μ' h => by
  unfold fIntT at h
  split at h <;> (try split at h) <;> (try split at h) <;> cases h
theorem ints_ok : ∀ {xs : List D} {vs : List V} {is : List Int}, Rels K ρ H xs vs → intsD xs = some is → vs = is.map V.int
  | [], _, _, .nil, h => by cases h; rfl
  | x :: xs, _, is, .cons r t, h => by
    cases r with
    | int i =>
      unfold intsD at h
      cases e : intsD xs with
      | none => rw [e] at h; cases h
      | some us => rw [e] at h; cases h; rw [ints_ok t e]; rfl
    | _ => cases h
theorem sum_s : CallS K G (rSum K) fSum := fun ρ μ H xs ds Q R r P => by
  cases r with
  | nil => exact P.elim
  | cons r1 r2 => cases r2 with
    | cons _ _ => unfold fSum at P; split at P <;> first | exact P.elim | (rename_i h; cases h)
    | nil =>
      cases r1 with
      | @ref n a en =>
        unfold fSum at P
        cases q : μ[n]? with
        | none => simp only [q] at P; exact P.elim
        | some ob =>
          simp only [q] at P
          cases ob with
          | lst ys =>
            simp only at P
            obtain ⟨vs, h1, p1⟩ := R.lst q en
            cases e : intsD ys with
            | none => simp only [e] at P; exact P.elim
            | some is =>
              simp only [e] at P
              have ev := ints_ok p1 e
              subst ev
              exact ⟨a, is, rfl, SqL.of h1, P _ ρ H Grow.refl R (.int _)⟩
          | _ => exact P.elim
      | _ => exact P.elim
theorem sum_n : NoXs fSum := fun xs μ e μ' h => by
  unfold fSum at h
  split at h <;> (try split at h) <;> (try split at h) <;> cases h
/-! several targets -/
theorem s_par2 (i j : Nat) {ms : AM} {st : Stmt} (h : PS X st (tPar i j (rdA X.K G E ms))) (hl : ∀ fr μ ds μ', ms fr μ = .ok ds μ' → ds.length = 2) : PSm X G E st (sPar2 i j ms) :=
  h.imp fun Dn σ H ⟨ρ, fr, μ, L, R, P⟩ => ⟨ρ, fr, μ, L, R, by
    have P' : PostS X.K G E ρ H Dn (sPar2 i j ms fr μ) := P
    unfold sPar2 at P'
    cases e : ms fr μ with
    | bad => rw [e] at P'; exact P'.elim
    | exc ex μ1 => rw [e] at P'; exact P'
    | ok ds μ1 =>
      rw [e] at P'
      have hl := hl _ _ _ _ e
      intro vs ρ1 H1 g1 R1 r1
      simp only [bndS_ok] at P'
      match ds, hl, r1 with
      | [d1, d2], _, .cons r1 (.cons r2 .nil) => exact ⟨_, _, rfl, P' _ ρ1 H1 g1 R1 (((L.mono g1).set r1).set r2)⟩⟩
theorem s_par3 (i j l : Nat) {ms : AM} {st : Stmt} (h : PS X st (tPar3 i j l (rdA X.K G E ms))) (hl : ∀ fr μ ds μ', ms fr μ = .ok ds μ' → ds.length = 3) : PSm X G E st (sPar3 i j l ms) :=
  h.imp fun Dn σ H ⟨ρ, fr, μ, L, R, P⟩ => ⟨ρ, fr, μ, L, R, by
    have P' : PostS X.K G E ρ H Dn (sPar3 i j l ms fr μ) := P
    unfold sPar3 at P'
    cases e : ms fr μ with
    | bad => rw [e] at P'; exact P'.elim
    | exc ex μ1 => rw [e] at P'; exact P'
    | ok ds μ1 =>
      rw [e] at P'
      have hl := hl _ _ _ _ e
      intro vs ρ1 H1 g1 R1 r1
      simp only [bndS_ok] at P'
      match ds, hl, r1 with
      | [d1, d2, d3], _, .cons r1 (.cons r2 (.cons r3 .nil)) => exact ⟨_, _, _, rfl, P' _ ρ1 H1 g1 R1 ((((L.mono g1).set r1).set r2).set r3)⟩⟩
end
end Lw

set_option Elab.async false
set_option linter.all false
set_option maxRecDepth 100000
set_option maxHeartbeats 4000000
/-! Chains, constants of the module, facts of a def. -/
namespace Lw
open PySem PySem.Spec PyProof.Rows L2
/-- a < b < c -/
def eChain (f g : D → D → Mu → Res D) (a b c : EM) : EM := fun fr μ => bnd (a fr μ) fun x μ1 => bnd (b fr μ1) fun y μ2 => bnd (f x y μ2) fun k μ3 => match k with
  | .bl true => bnd (c fr μ3) fun z μ4 => g y z μ4
  | .bl false => .ok (.bl false) μ3
  | _ => .bad
section
variable {X : Cx} {G : Cg} {E : XK} {K : PySem.W.Frag} {ρ ρ' : List Addr} {H H' : Hp} {μ μ' : Mu} {σ : L2.St} {fr : Fr} {a b c : Expr} {ma mb mc : EM} {pos : Pos}
theorem PostE.weakX {Q : VK} {r : Res D} (h : PostE K G E0 ρ H Q r) : PostE K G E ρ H Q r := by
  cases r with
  | ok d μ' => exact h
  | exc e μ' => exact fun cls dd ρ' H' g R e => (h cls dd ρ' H' g R e).elim
  | bad => exact h
theorem chain_rd {r r' : R2} {f g : D → D → Mu → Res D} {Q : VK} (hs : OpS X.K G r f) (hn : NoX f) (hs' : OpS X.K G r' g) (hn' : NoX g) (h : rdE X.K G E (eChain f g ma mb mc) σ H Q) :
    tChain r r' (rdE X.K G E ma) (rdE X.K G E mb) (rdE X.K G E mc) σ H Q := by
  obtain ⟨ρ, fr, μ, L, R, P⟩ := h
  refine ⟨ρ, fr, μ, L, R, PostE.bndE P fun dx μ1 _ x ρ1 H1 g1 R1 r1 P1 => ⟨ρ1, fr, μ1, L.mono g1, R1, PostE.bndE P1 fun dy μ2 _ y ρ2 H2 g2 R2 r2 P2 => ?_⟩⟩
  refine hs ρ2 μ2 H2 x y dx dy _ R2 (r1.mono g2) r2 (PostE.nox (E := E) (PostE.bndE P2 fun k μ3 _ z ρ3 H3 g3 R3 r3 P3 => ?_) (hn dx dy μ2))
  cases r3 with
  | bl k =>
    refine ⟨k, rfl, ?_⟩
    cases k with
    | false => exact P3 _ ρ3 H3 Grow.refl R3 (.bl _)
    | true => exact ⟨ρ3, fr, μ3, ((L.mono g1).mono g2).mono g3, R3, PostE.bndE P3 fun dz μ4 _ w ρ4 H4 g4 R4 r4 P4 => hs' ρ4 μ4 H4 y w dy dz Q R4 ((r2.mono g3).mono g4) r4 (PostE.nox P4 (hn' dy dz μ4))⟩
  | _ => exact P3.elim
theorem s_chain {op op' : CmpOp} {r r' : R2} {f g : D → D → Mu → Res D} (ho : OpR X (compareOp op) r) (hs : OpS X.K G r f) (hn : NoX f) (ho' : OpR X (compareOp op') r') (hs' : OpS X.K G r' g) (hn' : NoX g) (ha : PEm X G E a ma) (hb : PEm X G E b mb) (hc : PEm X G E c mc)
    (hm : lastMarks [op, op'] [b, c] = false := by with_unfolding_all rfl) : PEm X G E (.Compare a [op, op'] [b, c] pos) (eChain f g ma mb mc) :=
  (pe_chain ho ho' ha hb hc hm).imp fun σ H Q h => chain_rd hs hn hs' hn' h
theorem s_chainT {op op' : CmpOp} {r r' : R2} {f g : D → D → Mu → Res D} (ho : OpR X (compareOp op) r) (hs : OpS X.K G r f) (hn : NoX f) (ho' : OpR X (compareOp op') r') (hs' : OpS X.K G r' g) (hn' : NoX g) (ha : PEm X G E a ma) (hb : PEm X G E b mb) (hc : PEm X G E c mc)
    (hm : lastMarks [op, op'] [b, c] = false := by with_unfolding_all rfl) : PTm X G E (.Compare a [op, op'] [b, c] pos) (tB (eChain f g ma mb mc)) :=
  (pt_chain ho ho' ha hb hc hm).imp fun σ H Q ⟨ρ, fr, μ, L, R, P⟩ => chain_rd hs hn hs' hn' ⟨ρ, fr, μ, L, R, PostT.bndE P fun d μ1 _ v ρ1 H1 g1 R1 r1 P1 => by
    cases r1 with
    | bl k => exact ⟨k, rfl, P1 ρ1 H1 Grow.refl R1⟩
    | _ => exact P1.elim⟩
/-! constants of the module -/
theorem s_gint {x : Str} {i : Int} (h : ∃ t, X.mg x = some (.int i t)) (hg : Gl X x := by rfl) (hd : (x == ("__debug__" : Str)) = false := by decide) : PEm X G E (.Name x pos) (eC (.int i)) := by
  obtain ⟨t, h⟩ := h
  exact s_glob hg h (v := .int i) ⟨t, rfl⟩ (fun _ _ => .int i) hd
theorem s_gstr {x z : Str} {y : List Nat} (h : ∃ t, X.mg x = some (.str z t)) (hy : z.cps.toList = y) (hg : Gl X x := by rfl) (hd : (x == ("__debug__" : Str)) = false := by decide) : PEm X G E (.Name x pos) (eC (.str y)) := by
  obtain ⟨t, h⟩ := h
  subst hy
  refine s_glob hg h (v := .str z) ⟨t, rfl⟩ (fun ρ H => ?_) hd
  have e : (V.str z) = V.str ⟨z.cps.toList.toArray⟩ := by simp
  rw [e]
  exact .str _
theorem s_gtup {x : Str} {A0 : Addr} {d : D} (h : X.mg x = some (.ref A0)) (q : ∀ ρ H, Rel X.K ρ H d (.ref A0)) (hg : Gl X x := by rfl) (hd : (x == ("__debug__" : Str)) = false := by decide) : PEm X G E (.Name x pos) (eC d) :=
  s_glob hg h (v := .ref A0) rfl q hd
end
/-- flat data as it is written in the head's facts -/
def dvD : He.Dv → Option D
  | .non => some .non
  | .bl b => some (.bl b)
  | .int i => some (.int i)
  | .str x => some (.str x.cps.toList)
  | _ => none
theorem dvD_ok {K : PySem.W.Frag} {ρ : List Addr} {H : Hp} : ∀ {v : He.Dv} {d : D}, dvD v = some d → Rel K ρ H d (v.v K)
  | .non, _, h => by cases h; exact .non
  | .bl b, _, h => by cases h; exact .bl b
  | .int i, _, h => by cases h; exact .int i
  | .str x, _, h => by
    cases h
    have e : (V.str x) = V.str ⟨x.cps.toList.toArray⟩ := by simp
    show Rel K ρ H (.str x.cps.toList) (V.str x)
    rw [e]
    exact .str _
def dvDs : List He.Dv → Option (List D)
  | [] => some []
  | v :: vs => match dvD v, dvDs vs with
    | some d, some ds => some (d :: ds)
    | _, _ => none
theorem dvDs_ok {K : PySem.W.Frag} {ρ : List Addr} {H : Hp} : ∀ {vs : List He.Dv} {ds : List D}, dvDs vs = some ds → Rels K ρ H ds (vs.map (He.Dv.v K))
  | [], _, h => by cases h; exact .nil
  | v :: vs, _, h => by
    unfold dvDs at h
    cases e1 : dvD v with
    | none => rw [e1] at h; cases h
    | some d => cases e2 : dvDs vs with
      | none => rw [e1, e2] at h; cases h
      | some ds => rw [e1, e2] at h; cases h; exact .cons (dvD_ok e1) (dvDs_ok e2)
/-- a written tuple of the top -/
theorem ktup_ok {K : PySem.W.Frag} {x : Str} {vs : List He.Dv} {ds : List D} (h : He.tupB K x vs = true) (e : dvDs vs = some ds) (ρ : List Addr) (H : Hp) : Rel K ρ H (.tup ds) (.ref (He.ga K x)) :=
  Rel.tupP (He.tupB_ok h H) (dvDs_ok e)
/-- a written table of the top: rows of a text and a number -/
def rowsB : List DictEntry → List (Str × Int) → Bool
  | [], [] => true
  | e :: es, (k, i) :: r => (match e.key, e.val with
    | .str y _, .int j _ => decide (y = k) && decide (j = i)
    | _, _ => false) && rowsB es r
  | _, _ => false
def ktabB (K : PySem.W.Frag) (x : Str) (r : List (Str × Int)) : Bool := match K.lookup (He.ga K x) with
  | some ⟨_, _, .dict es _, _⟩ => rowsB es.toList r
  | _ => false
theorem rowsB_find {z : Str} : ∀ {es : List DictEntry} {r : List (Str × Int)}, rowsB es r = true → (match (r.map fun p => (p.1.cps.toList, p.2)).lookup z.cps.toList with
    | some i => ∃ e t, es.find? (·.key.isStr z) = some e ∧ e.val = .int i t
    | none => es.find? (·.key.isStr z) = none) ∧ es.any (·.refKey) = false
  | [], [], _ => ⟨rfl, rfl⟩
  | [], _ :: _, h => by cases h
  | _ :: _, [], h => by cases h
  | e :: es, (k, i) :: r, h => by
    unfold rowsB at h
    rw [Bool.and_eq_true] at h
    obtain ⟨h1, h2⟩ := h
    obtain ⟨ih1, ih2⟩ := rowsB_find (z := z) h2
    split at h1
    · rename_i y t1 j t2 e1 e2
      rw [Bool.and_eq_true, decide_eq_true_eq, decide_eq_true_eq] at h1
      obtain ⟨rfl, rfl⟩ := h1
      have rk : e.refKey = false := by unfold DictEntry.refKey; rw [e1] <;> rfl
      refine ⟨?_, by rw [List.any_cons, rk, ih2] <;> rfl⟩
      by_cases hz : z = y
      · subst hz
        rw [List.map_cons, List.lookup_cons_self]
        refine ⟨e, t2, ?_, e2⟩
        rw [List.find?_cons_of_pos]
        show e.key.isStr z = true
        rw [e1]
        simp [Value.isStr]
      · have n1 : (z.cps.toList == y.cps.toList) = false := by
          rw [beq_eq_false_iff_ne]
          intro q
          apply hz
          have : z.cps = y.cps := by simpa using congrArg List.toArray q
          cases z; cases y; simp_all
        have n2 : ¬ e.key.isStr z = true := by
          rw [e1]
          simp [Value.isStr]
          exact fun q => hz q.symm
        have n3 : (e :: es).find? (fun x : DictEntry => x.key.isStr z) = es.find? (fun x : DictEntry => x.key.isStr z) := List.find?_cons_of_neg (p := fun x : DictEntry => x.key.isStr z) n2
        rw [List.map_cons, List.lookup_cons, n1, n3]
        exact ih1
    · cases h1
theorem ktab_ok {K : PySem.W.Frag} {w : World} {x : Str} {r : List (Str × Int)} (h : ktabB K x r = true) (kd : ∃ es n, KDict K w (He.ga K x) es n) : KTab K w (He.ga K x) (r.map fun p => (p.1.cps.toList, p.2)) := by
  refine ⟨kd, fun s => ?_⟩
  unfold ktabB at h
  unfold PySem.W.nsIn
  split at h
  · rename_i c d es n sl q
    rw [q]
    have e0 : (⟨s.toArray⟩ : Str).cps.toList = s := by simp
    obtain ⟨h1, h2⟩ := rowsB_find (z := ⟨s.toArray⟩) h
    rw [e0] at h1
    cases e : (r.map fun p => (p.1.cps.toList, p.2)).lookup s with
    | some i =>
      rw [e] at h1
      obtain ⟨en, t, h3, h4⟩ := h1
      simp only [h3]
      exact ⟨_, rfl, t, by rw [h4]⟩
    | none =>
      rw [e] at h1
      simp only at h1
      simp only [h1, h2]
      exact ⟨_, rfl, rfl⟩
  · cases h
end Lw

set_option Elab.async false
set_option linter.all false
set_option maxRecDepth 100000
set_option maxHeartbeats 4000000
/-! Statements whose parts are given by their derivations. -/
namespace Lw
open PySem PySem.Spec PyProof.Rows L2
section
variable {X : Cx} {G : Cg} {E : XK}
theorem s_parA2 {i j : Nat} {x y : Str} {a b : Expr} {px py pt pos : Pos} {kt k2 pt2} {ms : AM} (hN : X.N.Nodup) (ha : PAm X G E [a, b] ms) (hc : X.calm = true := by rfl) (hi : X.N[i]? = some x := by rfl) (hj : X.N[j]? = some y := by rfl) (hij : i ≠ j := by decide)
    (hx : X.env.scope.names.lookup x = some .local := by rfl) (hy : X.env.scope.names.lookup y = some .local := by rfl)
    (hw : swappedStores [.Tuple [.Name x px, .Name y py] kt pt] (.Tuple [a, b] k2 pt2) X.env = pure (some [x, y]) := by rfl)
    (hs : swapsWithSole [.Tuple [.Name x px, .Name y py] kt pt] (.Tuple [a, b] k2 pt2) pos.line X.env = pure false := by rfl) :
    PSm X G E (.Assign [.Tuple [.Name x px, .Name y py] kt pt] (.Tuple [a, b] k2 pt2) pos) (sPar2 i j ms) :=
  s_par2 i j (ps_par hc hN hi hj hij hx hy ha.pa hw hs) ha.len
theorem s_parA3 {i j l : Nat} {x y z : Str} {a b c : Expr} {px py pz pt pos : Pos} {kt k2 pt2} {ms : AM} (hN : X.N.Nodup) (ha : PAm X G E [a, b, c] ms) (hc : X.calm = true := by rfl) (hi : X.N[i]? = some x := by rfl) (hj : X.N[j]? = some y := by rfl) (hl : X.N[l]? = some z := by rfl)
    (hij : i ≠ j := by decide) (hil : i ≠ l := by decide) (hjl : j ≠ l := by decide)
    (hx : X.env.scope.names.lookup x = some .local := by rfl) (hy : X.env.scope.names.lookup y = some .local := by rfl) (hz : X.env.scope.names.lookup z = some .local := by rfl)
    (hw : swappedStores [.Tuple [.Name x px, .Name y py, .Name z pz] kt pt] (.Tuple [a, b, c] k2 pt2) X.env = pure (some [x, y, z]) := by rfl)
    (hs : swapsWithSole [.Tuple [.Name x px, .Name y py, .Name z pz] kt pt] (.Tuple [a, b, c] k2 pt2) pos.line X.env = pure false := by rfl) :
    PSm X G E (.Assign [.Tuple [.Name x px, .Name y py, .Name z pz] kt pt] (.Tuple [a, b, c] k2 pt2) pos) (sPar3 i j l ms) :=
  s_par3 i j l (ps_par3 hc hN hi hj hl hij hil hjl hx hy hz ha.pa hw hs) ha.len
theorem s_putLA {o i e : Expr} {mo mi me : EM} {p : Pos} (ho : PEm X G E o mo) (hi : PEm X G E i mi) (he : PEm X G E e me) (hs : swapsWithSole [.Subscript o i p] e pos.line X.env = pure false := by rfl) (hw : swappedStores [.Subscript o i p] e X.env = pure none := by rfl)
    (h1 : (assignEach [.Subscript o i p] X.env).map (·.2) = [assign (.Subscript o i p) X.env] := by rfl)
    (ha : ∀ v, assign (.Subscript o i p) X.env v = (do
      let ov ← holding [v] (eval o X.env)
      let iv ← holding [v, ov] (eval i X.env)
      standAt p
      holding [v, ov, iv] (setItem ov iv v)
      release [v, ov, iv] []) := by intro _; rfl) : PSm X G E (.Assign [.Subscript o i p] e pos) (sPutL mo mi me) :=
  s_putL ho hi he hs hw h1 (pg_sub ho hi set_list ha)
end
/-! the law's start -/
theorem fl_only {K : PySem.W.Frag} {H : Hp} {a : Addr} {xs : List V} (hO : Only H) (h : SqL K H a xs) : FL K H a xs := by
  rcases h with h | h
  · rcases h with h | ⟨o, h⟩
    · rcases hO a with e | ⟨o, ys, e⟩
      · rw [e] at h; cases h
      · rw [e] at h; cases h
    · exact .inl ⟨o, h⟩
  · exact .inr h
theorem sp_law {K : PySem.W.Frag} {G : Cg} {g : List D → Mu → Res D} {μ' : Mu} {ns : List Int} {H : Hp} {a : Addr} {E : XK} (e : g [.frl (ns.map .int)] [] = .ok (.bl true) μ') (hO : Only H) (h : SqL K H a (ns.map V.int)) :
    spM K G g [.ref a] H (fun v _ => v = .bl true) E := by
  refine ⟨[], [], [.frl (ns.map .int)], ⟨rfl, fun i j b hi => by simp at hi, fun n b o hn => by simp at hn⟩, .cons (.frl (fl_only hO h) (by simp) fun k d v hd hv => ?_) .nil, ?_⟩
  · rw [List.getElem?_map] at hd hv
    cases q : ns[k]? with
    | none => rw [q] at hd; cases hd
    | some i => rw [q] at hd hv; cases hd; cases hv; exact .int i
  · rw [e]
    intro v ρ' H' _ _ r
    cases r
    rfl
theorem noCX {P : Program} {w : World} {o : List Env} {H : Hp} {s s' : Shared} {u : Value} (h : L2.CX P w o H s (fun _ _ _ => False) u s') : False := by
  obtain ⟨_, _, _, _, _, _, _, _, _, _, _, _, z⟩ := h
  exact z
/-- the walk, where a call's exceptions are told world by world -/
theorem walk_ofW {law : PySem.W.OpenLaw} {most k : Nat} {q : Program} {loose : List Str} {XP : (Str → Option Value) → Heap → Prop} {YP : World → Heap → Prop} {d : DefRec} {x : Str} (hn : law.most = some most) (hm : most ≤ sizeLine) (hd0 : d.params.defaults = []) (room : Room k callerA)
    (F : ∀ (w : World) (mg : Str → Option Value) (fa : Addr) (h : Heap), YP w h → h.Ns mainGlobals mg → mg d.name = some (.ref fa) → ∃ (K : PySem.W.Frag) (fd : FuncData) (sp : Sp), K.In h ∧ (∀ (s : Shared) (u : Value), BindsTo s fd ⟨[u], []⟩ [(x, u)]) ∧
      (∀ (H : Hp) (a : Addr) (ns : List Int), ns.length ≤ most → Only H → SqL K H a (ns.map V.int) → sp [.ref a] H (fun v _ => v = .bl true) fun _ _ _ => False) ∧ ∀ base : Heap, K.In base → base.Ns mainGlobals mg → FnOk law.prog w K mg base (L2.CX law.prog w) k fa fd [x] sp) :
    PySem.W.WalkO q loose XP YP law.row.toRowW d [] (fun f vs => PySem.call f vs) :=
  Att.attach_call hn hd0 fun w sA sB mg mb fa o pm cd doc a vs ns G Y ho hd hcd hmg hobj hints hlen hg => by
    obtain ⟨K, fd, sp, KX, hb, hsp, hF⟩ := F w mg fa _ Y G.T.g hmg
    refine law_call KX G.T.g G.T.b G.T.builtins G.T.nolimit hg hobj hints (Nat.le_trans hlen hm) room hF hb ?_ ?_
    · intro H hO hS
      exact hsp H a ns hlen hO hS
    · intro H e s' z
      exact noCX z
end Lw

set_option Elab.async false
set_option linter.all false
set_option maxRecDepth 100000
set_option maxHeartbeats 8000000
namespace Wk07
open PySem PySem.Spec PyProof.Rows L2 Lw
def k_DEED_SIZES : List (List Nat × Int) := [([115, 101, 116], 3), ([112, 117, 116], 4), ([100, 114, 111, 112], 3), ([115, 97, 121], 2), ([105, 102], 4), ([101, 97, 99, 104], 4), ([110, 101, 120, 116], 1), ([115, 116, 111, 112], 1)]
def k_KEYWORDS : D := .tup [.str [98, 101, 103, 105, 110], .str [101, 110, 100], .str [116, 111], .str [105, 102], .str [101, 108, 115, 101], .str [101, 97, 99, 104], .str [105, 110], .str [100, 114, 111, 112], .str [115, 97, 121], .str [110, 101, 120, 116], .str [115, 116, 111, 112], .str [99, 111, 117, 110, 116], .str [114, 111, 119], .str [102, 105, 108, 101, 114, 111, 119], .str [102, 105, 108, 101], .str [104, 97, 115], .str [115, 105, 122, 101], .str [112, 97, 114, 116], .str [119, 105, 116, 104, 105, 110]]
def k_LOOKS : List (List Nat × Int) := [([104, 97, 115], 1), ([115, 105, 122, 101], 1), ([112, 97, 114, 116], 3), ([109, 105, 110, 117, 115], 1), ([110, 111, 116], 1)]
def k_PAIRS : D := .tup [.str [97, 100, 100], .str [108, 101, 115, 115], .str [116, 105, 109, 101, 115], .str [111, 118, 101, 114], .str [114, 101, 115, 116], .str [106, 111, 105, 110], .str [98, 101, 108, 111, 119], .str [117, 112, 116, 111], .str [115, 97, 109, 101], .str [117, 110, 108, 105, 107, 101], .str [97, 110, 100], .str [111, 114], .str [119, 105, 116, 104, 105, 110]]
def k_RULE_SIZES : List (List Nat × Int) := [([98, 101, 103, 105, 110], 2), ([101, 110, 100], 2), ([97, 108, 119, 97, 121, 115], 2), ([119, 104, 101, 110], 3), ([102, 114, 111, 109], 4)]
def k_SIZES : List (List Nat × Int) := [([110, 117, 109], 0), ([116, 101, 120, 116], 0), ([110, 97, 109, 101], 0), ([97, 116], 1), ([102, 105, 101, 108, 100], 1), ([99, 111, 117, 110, 116], 0), ([114, 111, 119], 0), ([102, 105, 108, 101, 114, 111, 119], 0), ([102, 105, 108, 101], 0)]
inductive Fn where
  | f_ring | f_is_number | f_number_of | f_text_of | f_is_true | f_cut | f_reckoned | f_held | f_part_of | f_within | f_paired | f_lines_of | f_is_name | f_size_of | f_leaf_of | f_inner_of | f_need_tree | f_run_by | f_run | f_law_start | f_law_drawn | f_law_leaf | f_law | Line_init | Line_field | State_init | State_need | State_taken | State_bare | State_entry | State_put | State_drop | Looker_init | Looker_need | Looker_count | Looker_part | Looker_block | Looker_deed | Looker_rule | Desk_init | Desk_worth | Desk_both | Desk_single | Desk_block | Desk_deed | Desk_walk | Desk_do_all | Desk_begin | Desk_file | Desk_line | Desk_end
def m_f_ring (c c1 : Fn → List D → Mu → Res D) : SM := (sRet (eBin opSub (eBin opMod (eBin opAdd (eV 0) (eC (.int 500000000))) (eC (.int 1000000000))) (eC (.int 500000000))))
def m_f_is_number (c c1 : Fn → List D → Mu → Res D) : SM := (sRet (eIsi [.int] (eV 0)))
def m_f_number_of (c c1 : Fn → List D → Mu → Res D) : SM := (sSeq (sIf (tTr (eCall (c .f_is_number) (aCons (eV 0) aNil))) (sRet (eV 0)) sNx) (sSeq (sAsg 1 (eIf (tB (eBin opEq (eSl (eV 0) oNone (oSome (eC (.int 1)))) (eC (.str [45])))) (eC (.int 1)) (eC (.int 0)))) (sSeq (sAsg 2 (eV 1)) (sSeq (sWhile 100000 (tAnd (tB (eBin opLt (eV 2) (eCall fLen (aCons (eV 0) aNil)))) (tB (eBin opIn (eBin opIx (eV 0) (eV 2)) (eC (.str [48, 49, 50, 51, 52, 53, 54, 55, 56, 57]))))) (sAsg 2 (eBin opAdd (eV 2) (eC (.int 1))))) (sSeq (sIf (tB (eBin opEq (eV 2) (eV 1))) (sRet (eC (.int 0))) sNx) (sRet (eCall (c .f_ring) (aCons (eBin opMul (eCall fIntT (aCons (eSl (eV 0) (oSome (eV 1)) (oSome (eV 2))) aNil)) (eBin opSub (eC (.int 1)) (eBin opMul (eC (.int 2)) (eV 1)))) aNil))))))))
def m_f_text_of (c c1 : Fn → List D → Mu → Res D) : SM := (sRet (eIf (tTr (eCall (c .f_is_number) (aCons (eV 0) aNil))) (eCall fStr (aCons (eV 0) aNil)) (eV 0)))
def m_f_is_true (c c1 : Fn → List D → Mu → Res D) : SM := (sRet (eIf (tTr (eCall (c .f_is_number) (aCons (eV 0) aNil))) (eBin opNe (eV 0) (eC (.int 0))) (eBin opNe (eV 0) (eC (.str [])))))
def m_f_cut (c c1 : Fn → List D → Mu → Res D) : SM := (sRet (eSl (eV 0) oNone (oSome (eC (.int 200)))))
def m_f_reckoned (c c1 : Fn → List D → Mu → Res D) : SM := (sSeq (sIf (tB (eBin opIn (eV 0) (eTup (aCons (eC (.str [111, 118, 101, 114])) (aCons (eC (.str [114, 101, 115, 116])) aNil))))) (sSeq (sIf (tB (eBin opEq (eV 2) (eC (.int 0)))) (sRet (eC (.int 0))) sNx) (sRet (eCall (c .f_ring) (aCons (eIf (tB (eBin opEq (eV 0) (eC (.str [111, 118, 101, 114])))) (eBin opFdiv (eV 1) (eV 2)) (eBin opMod (eV 1) (eV 2))) aNil)))) sNx) (sSeq (sIf (tB (eBin opEq (eV 0) (eC (.str [116, 105, 109, 101, 115])))) (sRet (eCall (c .f_ring) (aCons (eBin opMul (eV 1) (eV 2)) aNil))) sNx) (sRet (eCall (c .f_ring) (aCons (eIf (tB (eBin opEq (eV 0) (eC (.str [97, 100, 100])))) (eBin opAdd (eV 1) (eV 2)) (eBin opSub (eV 1) (eV 2))) aNil)))))
def m_f_held (c c1 : Fn → List D → Mu → Res D) : SM := (sSeq (sIf (tOr (tNot (tTr (eCall (c .f_is_number) (aCons (eV 1) aNil)))) (tNot (tTr (eCall (c .f_is_number) (aCons (eV 2) aNil))))) (sPar2 1 2 (aCons (eCall (c .f_text_of) (aCons (eV 1) aNil)) (aCons (eCall (c .f_text_of) (aCons (eV 2) aNil)) aNil))) sNx) (sSeq (sIf (tB (eBin opEq (eV 0) (eC (.str [98, 101, 108, 111, 119])))) (sRet (eCall fIntT (aCons (eBin opLt (eV 1) (eV 2)) aNil))) sNx) (sSeq (sIf (tB (eBin opEq (eV 0) (eC (.str [117, 112, 116, 111])))) (sRet (eCall fIntT (aCons (eBin opLe (eV 1) (eV 2)) aNil))) sNx) (sRet (eIf (tB (eBin opEq (eV 0) (eC (.str [115, 97, 109, 101])))) (eCall fIntT (aCons (eBin opEq (eV 1) (eV 2)) aNil)) (eCall fIntT (aCons (eBin opNe (eV 1) (eV 2)) aNil)))))))
def m_f_part_of (c c1 : Fn → List D → Mu → Res D) : SM := sBad
def m_f_within (c c1 : Fn → List D → Mu → Res D) : SM := sBad
def m_f_paired (c c1 : Fn → List D → Mu → Res D) : SM := (sSeq (sIf (tB (eBin opEq (eV 0) (eC (.str [106, 111, 105, 110])))) (sRet (eCall (c .f_cut) (aCons (eBin opAdd (eCall (c .f_text_of) (aCons (eV 1) aNil)) (eCall (c .f_text_of) (aCons (eV 2) aNil))) aNil))) sNx) (sSeq (sIf (tB (eBin opEq (eV 0) (eC (.str [119, 105, 116, 104, 105, 110])))) (sRet (eCall (c .f_within) (aCons (eCall (c .f_text_of) (aCons (eV 1) aNil)) (aCons (eCall (c .f_text_of) (aCons (eV 2) aNil)) aNil)))) sNx) (sSeq (sIf (tB (eBin opIn (eV 0) (eTup (aCons (eC (.str [98, 101, 108, 111, 119])) (aCons (eC (.str [117, 112, 116, 111])) (aCons (eC (.str [115, 97, 109, 101])) (aCons (eC (.str [117, 110, 108, 105, 107, 101])) aNil))))))) (sRet (eCall (c .f_held) (aCons (eV 0) (aCons (eV 1) (aCons (eV 2) aNil))))) sNx) (sRet (eCall (c .f_reckoned) (aCons (eV 0) (aCons (eCall (c .f_number_of) (aCons (eV 1) aNil)) (aCons (eCall (c .f_number_of) (aCons (eV 2) aNil)) aNil))))))))
def m_f_lines_of (c c1 : Fn → List D → Mu → Res D) : SM := sBad
def m_f_is_name (c c1 : Fn → List D → Mu → Res D) : SM := (sSeq (sIf (tOr (tNot (tTr (eIsi [.str] (eV 0)))) (tOr (tNot (tB (eChain opLe opLe (eC (.int 1)) (eCall fLen (aCons (eV 0) aNil)) (eC (.int 8))))) (tB (eBin opIn (eV 0) (eC k_KEYWORDS))))) (sRet (eC (.bl false))) sNx) (sRet (eBin opEq (eLc (gN 1) (eV 0) (tB (eBin opNotIn (eV 1) (eC (.str [97, 98, 99, 100, 101, 102, 103, 104, 105, 106, 107, 108, 109, 110, 111, 112, 113, 114, 115, 116, 117, 118, 119, 120, 121, 122])))) (eV 1) [1]) (eLst aNil))))
def m_f_size_of (c c1 : Fn → List D → Mu → Res D) : SM := (sSeq (sIf (tB (eBin opIn (eV 0) (eC k_PAIRS))) (sRet (eC (.int 2))) sNx) (sRet (eKGet k_LOOKS (eV 0) (eKGet k_SIZES (eV 0) (eBin opSub (eC (.int 0)) (eC (.int 1)))))))
def m_f_leaf_of (c c1 : Fn → List D → Mu → Res D) : SM := (sSeq (sIf (tB (eBin opEq (eBin opIx (eV 0) (eC (.int 0))) (eC (.str [110, 117, 109])))) (sRet (eAnd (eBin opEq (eCall fLen (aCons (eV 0) aNil)) (eC (.int 2))) (eAnd (eIsi [.int] (eBin opIx (eV 0) (eC (.int 1)))) (eChain opLe opLe (eC (.int 0)) (eBin opIx (eV 0) (eC (.int 1))) (eC (.int 499999999)))))) sNx) (sSeq (sIf (tB (eBin opEq (eBin opIx (eV 0) (eC (.int 0))) (eC (.str [116, 101, 120, 116])))) (sSeq (sAsg 1 (eAnd (eBin opEq (eCall fLen (aCons (eV 0) aNil)) (eC (.int 2))) (eAnd (eIsi [.str] (eBin opIx (eV 0) (eC (.int 1)))) (eBin opLe (eCall fLen (aCons (eBin opIx (eV 0) (eC (.int 1))) aNil)) (eC (.int 50)))))) (sRet (eAnd (eV 1) (eBin opEq (eLc (gN 2) (eBin opIx (eV 0) (eC (.int 1))) (tOr (tNot (tB (eChain opLe opLe (eC (.str [32])) (eV 2) (eC (.str [126]))))) (tB (eBin opEq (eV 2) (eC (.str [34]))))) (eV 2) [2]) (eLst aNil))))) sNx) (sSeq (sIf (tB (eBin opIn (eBin opIx (eV 0) (eC (.int 0))) (eTup (aCons (eC (.str [110, 97, 109, 101])) (aCons (eC (.str [97, 116])) (aCons (eC (.str [104, 97, 115])) aNil)))))) (sRet (eAnd (eBin opEq (eCall fLen (aCons (eV 0) aNil)) (eBin opAdd (eC (.int 2)) (eCall (c .f_size_of) (aCons (eBin opIx (eV 0) (eC (.int 0))) aNil)))) (eCall (c .f_is_name) (aCons (eBin opIx (eV 0) (eC (.int 1))) aNil)))) sNx) (sRet (eBin opEq (eCall fLen (aCons (eV 0) aNil)) (eBin opAdd (eC (.int 1)) (eCall (c .f_size_of) (aCons (eBin opIx (eV 0) (eC (.int 0))) aNil))))))))
def m_f_inner_of (c c1 : Fn → List D → Mu → Res D) : SM := (sSeq (sAsg 1 (eCall (c .f_size_of) (aCons (eBin opIx (eV 0) (eC (.int 0))) aNil))) (sRet (eIf (tB (eBin opGt (eV 1) (eC (.int 0)))) (eCall fList (aCons (eSl (eV 0) (oSome (eBin opSub (eCall fLen (aCons (eV 0) aNil)) (eV 1))) oNone) aNil)) (eLst aNil))))
def m_f_need_tree (c c1 : Fn → List D → Mu → Res D) : SM := (sSeq (sAsg 1 (eMake 2 (c1 .Looker_init) aNil)) (sSeq (sExp (eMeth 2 (c .Looker_need) (eV 1) (aCons (eAnd (eIsi [.tup] (eV 0)) (eBin opLe (eCall fLen (aCons (eV 0) aNil)) (eC (.int 20)))) aNil))) (sFor (gN 2) (eV 0) (sExp (eMeth 2 (c .Looker_rule) (eV 1) (aCons (eV 2) aNil))))))
def m_f_run_by (c c1 : Fn → List D → Mu → Res D) : SM := (sSeq (sAsg 2 (eMeth 3 (c .Desk_begin) (eV 0) aNil)) (sSeq (sFor (gN 3) (eV 1) (sSeq (sExp (eMeth 3 (c .Desk_file) (eV 0) aNil)) (sFor (gN 4) (eCall (c .f_lines_of) (aCons (eV 3) aNil)) (sExp (eExt (eV 2) (eMeth 3 (c .Desk_line) (eV 0) (aCons (eV 4) aNil))))))) (sRet (eBin opAdd (eV 2) (eMeth 3 (c .Desk_end) (eV 0) aNil)))))
def m_f_run (c c1 : Fn → List D → Mu → Res D) : SM := (sRet (eCall (c .f_run_by) (aCons (eMake 3 (c1 .Desk_init) (aCons (eV 0) aNil)) (aCons (eV 1) aNil))))
def m_f_law_start (c c1 : Fn → List D → Mu → Res D) : SM := (sSeq (sAsg 1 (eC (.int 1))) (sSeq (sFor (gN 2) (eV 0) (sAsg 1 (eBin opMod (eBin opAdd (eBin opAdd (eBin opMul (eV 1) (eC (.int 48271))) (eV 2)) (eC (.int 7))) (eC (.int 2147483647))))) (sRet (eLst (aCons (eV 0) (aCons (eC (.int 0)) (aCons (eV 1) (aCons (eC (.int 0)) aNil))))))))
def m_f_law_drawn (c c1 : Fn → List D → Mu → Res D) : SM := (sSeq (sIf (tB (eBin opGt (eBin opIx (eV 0) (eC (.int 3))) (eC (.int 0)))) (sSeq (sAsg 2 (eBin opMod (eBin opIx (eV 0) (eC (.int 3))) (eV 1))) (sSeq (sPutL (eV 0) (eC (.int 3)) (eBin opFdiv (eBin opIx (eV 0) (eC (.int 3))) (eV 1))) (sRet (eV 2)))) sNx) (sSeq (sPutL (eV 0) (eC (.int 1)) (eBin opAdd (eBin opIx (eV 0) (eC (.int 1))) (eC (.int 1)))) (sSeq (sIf (tB (eBin opLe (eBin opIx (eV 0) (eC (.int 1))) (eCall fLen (aCons (eBin opIx (eV 0) (eC (.int 0))) aNil)))) (sSeq (sAsg 3 (eBin opIx (eBin opIx (eV 0) (eC (.int 0))) (eBin opSub (eBin opIx (eV 0) (eC (.int 1))) (eC (.int 1))))) (sSeq (sPutL (eV 0) (eC (.int 3)) (eIf (tB (eBin opGe (eV 3) (eBin opPow (eC (.int 10)) (eC (.int 18))))) (eBin opFdiv (eV 3) (eV 1)) (eC (.int 0)))) (sRet (eBin opMod (eV 3) (eV 1))))) sNx) (sSeq (sPutL (eV 0) (eC (.int 2)) (eBin opMod (eBin opAdd (eBin opMul (eBin opIx (eV 0) (eC (.int 2))) (eC (.int 48271))) (eC (.int 11))) (eC (.int 2147483647)))) (sRet (eBin opMod (eBin opFdiv (eBin opIx (eV 0) (eC (.int 2))) (eC (.int 7))) (eV 1)))))))
def m_f_law_leaf (c c1 : Fn → List D → Mu → Res D) : SM := (sSeq (sAsg 1 (eBin opIx (eLst (aCons (eCall (c .f_law_drawn) (aCons (eV 0) (aCons (eC (.int 10)) aNil))) (aCons (eCall (c .f_law_drawn) (aCons (eV 0) (aCons (eC (.int 500000000)) aNil))) aNil))) (eCall (c .f_law_drawn) (aCons (eV 0) (aCons (eC (.int 2)) aNil))))) (sSeq (sAsg 2 (eLst (aCons (eTup (aCons (eC (.str [110, 117, 109])) (aCons (eV 1) aNil))) (aCons (eTup (aCons (eC (.str [109, 105, 110, 117, 115])) (aCons (eTup (aCons (eC (.str [110, 117, 109])) (aCons (eV 1) aNil))) aNil))) (aCons (eTup (aCons (eC (.str [116, 101, 120, 116])) (aCons (eCall fStr (aCons (eV 1) aNil)) aNil))) (aCons (eTup (aCons (eC (.str [116, 101, 120, 116])) (aCons (eBin opAdd (eC (.str [45])) (eCall fStr (aCons (eV 1) aNil))) aNil))) aNil)))))) (sRet (eBin opIx (eV 2) (eCall (c .f_law_drawn) (aCons (eV 0) (aCons (eC (.int 4)) aNil)))))))
def m_f_law (c c1 : Fn → List D → Mu → Res D) : SM := (sSeq (sAsg 1 (eCall (c .f_law_start) (aCons (eV 0) aNil))) (sSeq (sForR (gN 2) (aCons (eC (.int 10)) aNil) (sSeq (sPar3 3 4 5 (aCons (eCall (c .f_law_leaf) (aCons (eV 1) aNil)) (aCons (eCall (c .f_law_leaf) (aCons (eV 1) aNil)) (aCons (eCall (c .f_law_leaf) (aCons (eV 1) aNil)) aNil)))) (sSeq (sAsg 6 (eLst (aCons (eTup (aCons (eTup (aCons (eC (.str [97, 100, 100])) (aCons (eTup (aCons (eC (.str [97, 100, 100])) (aCons (eV 3) (aCons (eV 4) aNil)))) (aCons (eV 5) aNil)))) (aCons (eTup (aCons (eC (.str [97, 100, 100])) (aCons (eV 3) (aCons (eTup (aCons (eC (.str [97, 100, 100])) (aCons (eV 5) (aCons (eV 4) aNil)))) aNil)))) aNil))) (aCons (eTup (aCons (eTup (aCons (eC (.str [116, 105, 109, 101, 115])) (aCons (eV 3) (aCons (eV 4) aNil)))) (aCons (eTup (aCons (eC (.str [116, 105, 109, 101, 115])) (aCons (eV 4) (aCons (eV 3) aNil)))) aNil))) aNil)))) (sSeq (sExp (eApp (eV 6) (eTup (aCons (eTup (aCons (eC (.str [116, 105, 109, 101, 115])) (aCons (eTup (aCons (eC (.str [116, 105, 109, 101, 115])) (aCons (eV 3) (aCons (eV 4) aNil)))) (aCons (eV 5) aNil)))) (aCons (eTup (aCons (eC (.str [116, 105, 109, 101, 115])) (aCons (eV 3) (aCons (eTup (aCons (eC (.str [116, 105, 109, 101, 115])) (aCons (eV 4) (aCons (eV 5) aNil)))) aNil)))) aNil))))) (sSeq (sExp (eApp (eV 6) (eTup (aCons (eTup (aCons (eC (.str [116, 105, 109, 101, 115])) (aCons (eV 3) (aCons (eTup (aCons (eC (.str [97, 100, 100])) (aCons (eV 4) (aCons (eV 5) aNil)))) aNil)))) (aCons (eTup (aCons (eC (.str [97, 100, 100])) (aCons (eTup (aCons (eC (.str [116, 105, 109, 101, 115])) (aCons (eV 3) (aCons (eV 4) aNil)))) (aCons (eTup (aCons (eC (.str [116, 105, 109, 101, 115])) (aCons (eV 3) (aCons (eV 5) aNil)))) aNil)))) aNil))))) (sSeq (sExp (eApp (eV 6) (eTup (aCons (eTup (aCons (eC (.str [108, 101, 115, 115])) (aCons (eV 3) (aCons (eV 4) aNil)))) (aCons (eTup (aCons (eC (.str [97, 100, 100])) (aCons (eV 3) (aCons (eTup (aCons (eC (.str [109, 105, 110, 117, 115])) (aCons (eV 4) aNil))) aNil)))) aNil))))) (sSeq (sExp (eApp (eV 6) (eTup (aCons (eTup (aCons (eC (.str [109, 105, 110, 117, 115])) (aCons (eTup (aCons (eC (.str [109, 105, 110, 117, 115])) (aCons (eV 3) aNil))) aNil))) (aCons (eTup (aCons (eC (.str [97, 100, 100])) (aCons (eV 3) (aCons (eTup (aCons (eC (.str [110, 117, 109])) (aCons (eC (.int 0)) aNil))) aNil)))) aNil))))) (sSeq (sAsg 7 (eTup (aCons (eC (.str [97, 100, 100])) (aCons (eTup (aCons (eC (.str [116, 105, 109, 101, 115])) (aCons (eTup (aCons (eC (.str [111, 118, 101, 114])) (aCons (eV 3) (aCons (eV 4) aNil)))) (aCons (eV 4) aNil)))) (aCons (eTup (aCons (eC (.str [114, 101, 115, 116])) (aCons (eV 3) (aCons (eV 4) aNil)))) aNil))))) (sSeq (sAsg 8 (eTup (aCons (eC (.str [105, 102])) (aCons (eTup (aCons (eC (.str [117, 110, 108, 105, 107, 101])) (aCons (eTup (aCons (eC (.str [97, 100, 100])) (aCons (eV 4) (aCons (eTup (aCons (eC (.str [110, 117, 109])) (aCons (eC (.int 0)) aNil))) aNil)))) (aCons (eTup (aCons (eC (.str [110, 117, 109])) (aCons (eC (.int 0)) aNil))) aNil)))) (aCons (eTup (aCons (eTup (aCons (eC (.str [115, 97, 121])) (aCons (eTup (aCons (eV 7) (aCons (eTup (aCons (eC (.str [97, 100, 100])) (aCons (eV 3) (aCons (eTup (aCons (eC (.str [110, 117, 109])) (aCons (eC (.int 0)) aNil))) aNil)))) aNil))) aNil))) aNil)) (aCons (eTup aNil) aNil)))))) (sSeq (sAsg 9 (eBin opAdd (eCall fTuple (aCons (eLc (gN 10) (eV 6) tYesM (eTup (aCons (eC (.str [115, 97, 121])) (aCons (eV 10) aNil))) [10]) aNil)) (eTup (aCons (eV 8) aNil)))) (sFor (gN 11) (eCall (c .f_run) (aCons (eTup (aCons (eTup (aCons (eC (.str [98, 101, 103, 105, 110])) (aCons (eV 9) aNil))) aNil)) (aCons (eLst aNil) aNil))) (sSeq (sAsg 12 (eM1 mSplit (eV 11) (eC (.str [32])))) (sIf (tOr (tB (eBin opNe (eCall fLen (aCons (eV 12) aNil)) (eC (.int 2)))) (tB (eBin opNe (eBin opIx (eV 12) (eC (.int 0))) (eBin opIx (eV 12) (eC (.int 1)))))) (sRet (eC (.bl false))) sNx))))))))))))) (sRet (eC (.bl true)))))
def m_Line_init (c c1 : Fn → List D → Mu → Res D) : SM := (sSeq (sFldM 0 (eV 0) (eCall (c .f_cut) (aCons (eV 1) aNil))) (sFldM 1 (eV 0) (eLc (gN 2) (eM1 mSplit (eFld 0 (eV 0)) (eC (.str [32]))) (tB (eBin opNe (eV 2) (eC (.str [])))) (eV 2) [2])))
def m_Line_field (c c1 : Fn → List D → Mu → Res D) : SM := sBad
def m_State_init (c c1 : Fn → List D → Mu → Res D) : SM := (sSeq (sFldM 2 (eV 0) (eC (.str [102, 114, 101, 115, 104]))) (sSeq (sFldM 3 (eV 0) (eC (.bl false))) (sSeq (sFldM 4 (eV 0) eDict0) (sSeq (sFldM 5 (eV 0) eDict0) (sSeq (sFldM 6 (eV 0) (eBin opMul (eLst (aCons (eC (.bl false)) aNil)) (eV 1))) (sSeq (sFldM 7 (eV 0) (eMake 0 (c1 .Line_init) (aCons (eC (.str [])) aNil))) (sSeq (sFldM 8 (eV 0) (eC (.int 0))) (sSeq (sFldM 9 (eV 0) (eC (.int 0))) (sSeq (sFldM 10 (eV 0) (eC (.int 0))) (sFldM 11 (eV 0) (eLst aNil)))))))))))
def m_State_need (c c1 : Fn → List D → Mu → Res D) : SM := (sIf (tB (eBin opNe (eFld 2 (eV 0)) (eV 1))) (sRaise 2) sNx)
def m_State_taken (c c1 : Fn → List D → Mu → Res D) : SM := (sSeq (sAsg 1 (eFld 11 (eV 0))) (sSeq (sFldM 11 (eV 0) (eLst aNil)) (sRet (eV 1))))
def m_State_bare (c c1 : Fn → List D → Mu → Res D) : SM := sBad
def m_State_entry (c c1 : Fn → List D → Mu → Res D) : SM := sBad
def m_State_put (c c1 : Fn → List D → Mu → Res D) : SM := sBad
def m_State_drop (c c1 : Fn → List D → Mu → Res D) : SM := sBad
def m_Looker_init (c c1 : Fn → List D → Mu → Res D) : SM := (sFldM 12 (eV 0) (eC (.int 0)))
def m_Looker_need (c c1 : Fn → List D → Mu → Res D) : SM := (sIf (tNot (tTr (eV 1))) (sRaise 1) sNx)
def m_Looker_count (c c1 : Fn → List D → Mu → Res D) : SM := (sSeq (sFldM 12 (eV 0) (eBin opAdd (eFld 12 (eV 0)) (eC (.int 1)))) (sSeq (sExp (eMeth 2 (c .Looker_need) (eV 0) (aCons (eAnd (eIsi [.tup] (eV 1)) (eAnd (eBin opGt (eCall fLen (aCons (eV 1) aNil)) (eC (.int 0))) (eIsi [.str] (eBin opIx (eV 1) (eC (.int 0)))))) aNil))) (sExp (eMeth 2 (c .Looker_need) (eV 0) (aCons (eAnd (eBin opLe (eFld 12 (eV 0)) (eC (.int 300))) (eBin opLe (eV 2) (eC (.int 30)))) aNil)))))
def m_Looker_part (c c1 : Fn → List D → Mu → Res D) : SM := (sSeq (sExp (eMeth 2 (c .Looker_count) (eV 0) (aCons (eV 1) (aCons (eV 2) aNil)))) (sSeq (sExp (eMeth 2 (c .Looker_need) (eV 0) (aCons (eAnd (eBin opGe (eCall (c .f_size_of) (aCons (eBin opIx (eV 1) (eC (.int 0))) aNil)) (eC (.int 0))) (eCall (c .f_leaf_of) (aCons (eV 1) aNil))) aNil))) (sFor (gN 3) (eCall (c .f_inner_of) (aCons (eV 1) aNil)) (sExp (eMeth 2 (c .Looker_part) (eV 0) (aCons (eV 3) (aCons (eBin opAdd (eV 2) (eC (.int 1))) aNil)))))))
def m_Looker_block (c c1 : Fn → List D → Mu → Res D) : SM := (sSeq (sExp (eMeth 2 (c .Looker_need) (eV 0) (aCons (eAnd (eIsi [.tup] (eV 1)) (eBin opLe (eCall fLen (aCons (eV 1) aNil)) (eC (.int 20)))) aNil))) (sFor (gN 4) (eV 1) (sExp (eMeth 2 (c .Looker_deed) (eV 0) (aCons (eV 4) (aCons (eV 2) (aCons (eV 3) aNil)))))))
def m_Looker_deed (c c1 : Fn → List D → Mu → Res D) : SM := (sSeq (sExp (eMeth 2 (c .Looker_count) (eV 0) (aCons (eV 1) (aCons (eV 2) aNil)))) (sSeq (sAsg 4 (eBin opIx (eV 1) (eC (.int 0)))) (sSeq (sExp (eMeth 2 (c .Looker_need) (eV 0) (aCons (eAnd (eBin opEq (eKGet k_DEED_SIZES (eV 4) (eC (.int 0))) (eCall fLen (aCons (eV 1) aNil))) (eOr (eBin opNe (eV 4) (eC (.str [110, 101, 120, 116]))) (eV 3))) aNil))) (sSeq (sIf (tB (eBin opIn (eV 4) (eTup (aCons (eC (.str [115, 101, 116])) (aCons (eC (.str [112, 117, 116])) (aCons (eC (.str [100, 114, 111, 112])) (aCons (eC (.str [101, 97, 99, 104])) aNil))))))) (sExp (eMeth 2 (c .Looker_need) (eV 0) (aCons (eCall (c .f_is_name) (aCons (eBin opIx (eV 1) (eC (.int 1))) aNil)) aNil))) sNx) (sSeq (sAsg 5 (eIf (tB (eBin opIn (eV 4) (eTup (aCons (eC (.str [115, 101, 116])) (aCons (eC (.str [112, 117, 116])) (aCons (eC (.str [100, 114, 111, 112])) aNil)))))) (eCall fList (aCons (eSl (eV 1) (oSome (eC (.int 2))) oNone) aNil)) (eLst aNil))) (sSeq (sIf (tB (eBin opEq (eV 4) (eC (.str [115, 97, 121])))) (sSeq (sExp (eMeth 2 (c .Looker_need) (eV 0) (aCons (eAnd (eIsi [.tup] (eBin opIx (eV 1) (eC (.int 1)))) (eChain opLe opLe (eC (.int 1)) (eCall fLen (aCons (eBin opIx (eV 1) (eC (.int 1))) aNil)) (eC (.int 6)))) aNil))) (sAsg 5 (eCall fList (aCons (eBin opIx (eV 1) (eC (.int 1))) aNil)))) sNx) (sSeq (sIf (tB (eBin opEq (eV 4) (eC (.str [105, 102])))) (sAsg 5 (eLst (aCons (eBin opIx (eV 1) (eC (.int 1))) aNil))) sNx) (sSeq (sFor (gN 6) (eV 5) (sExp (eMeth 2 (c .Looker_part) (eV 0) (aCons (eV 6) (aCons (eBin opAdd (eV 2) (eC (.int 1))) aNil))))) (sSeq (sIf (tB (eBin opEq (eV 4) (eC (.str [101, 97, 99, 104])))) (sSeq (sExp (eMeth 2 (c .Looker_need) (eV 0) (aCons (eCall (c .f_is_name) (aCons (eBin opIx (eV 1) (eC (.int 2))) aNil)) aNil))) (sExp (eMeth 2 (c .Looker_block) (eV 0) (aCons (eBin opIx (eV 1) (eC (.int 3))) (aCons (eBin opAdd (eV 2) (eC (.int 1))) (aCons (eV 3) aNil)))))) sNx) (sIf (tB (eBin opEq (eV 4) (eC (.str [105, 102])))) (sSeq (sExp (eMeth 2 (c .Looker_block) (eV 0) (aCons (eBin opIx (eV 1) (eC (.int 2))) (aCons (eBin opAdd (eV 2) (eC (.int 1))) (aCons (eV 3) aNil))))) (sExp (eMeth 2 (c .Looker_block) (eV 0) (aCons (eBin opIx (eV 1) (eC (.int 3))) (aCons (eBin opAdd (eV 2) (eC (.int 1))) (aCons (eV 3) aNil)))))) sNx))))))))))
def m_Looker_rule (c c1 : Fn → List D → Mu → Res D) : SM := (sSeq (sExp (eMeth 2 (c .Looker_need) (eV 0) (aCons (eAnd (eIsi [.tup] (eV 1)) (eAnd (eBin opGt (eCall fLen (aCons (eV 1) aNil)) (eC (.int 0))) (eIsi [.str] (eBin opIx (eV 1) (eC (.int 0)))))) aNil))) (sSeq (sExp (eMeth 2 (c .Looker_need) (eV 0) (aCons (eBin opEq (eKGet k_RULE_SIZES (eBin opIx (eV 1) (eC (.int 0))) (eC (.int 0))) (eCall fLen (aCons (eV 1) aNil))) aNil))) (sSeq (sFor (gN 2) (eSl (eV 1) (oSome (eC (.int 1))) (oSome (eUn opNeg (eC (.int 1))))) (sExp (eMeth 2 (c .Looker_part) (eV 0) (aCons (eV 2) (aCons (eC (.int 1)) aNil))))) (sExp (eMeth 2 (c .Looker_block) (eV 0) (aCons (eBin opIx (eV 1) (eUn opNeg (eC (.int 1)))) (aCons (eC (.int 1)) (aCons (eBin opNotIn (eBin opIx (eV 1) (eC (.int 0))) (eTup (aCons (eC (.str [98, 101, 103, 105, 110])) (aCons (eC (.str [101, 110, 100])) aNil)))) aNil))))))))
def m_Desk_init (c c1 : Fn → List D → Mu → Res D) : SM := (sSeq (sExp (eCall (c .f_need_tree) (aCons (eV 1) aNil))) (sSeq (sFldM 13 (eV 0) (eV 1)) (sFldM 14 (eV 0) (eMake 1 (c1 .State_init) (aCons (eCall fLen (aCons (eV 1) aNil)) aNil)))))
def m_Desk_worth (c c1 : Fn → List D → Mu → Res D) : SM := (sSeq (sAsg 2 (eBin opIx (eV 1) (eC (.int 0)))) (sSeq (sIf (tB (eBin opIn (eV 2) (eTup (aCons (eC (.str [110, 117, 109])) (aCons (eC (.str [116, 101, 120, 116])) aNil))))) (sRet (eBin opIx (eV 1) (eC (.int 1)))) sNx) (sSeq (sIf (tB (eBin opEq (eV 2) (eC (.str [110, 97, 109, 101])))) (sRet eBad) sNx) (sSeq (sIf (tB (eBin opIn (eV 2) (eTup (aCons (eC (.str [97, 116])) (aCons (eC (.str [104, 97, 115])) aNil))))) (sSeq (sAsg 3 (eCall (c .f_text_of) (aCons (eMeth 3 (c .Desk_worth) (eV 0) (aCons (eBin opIx (eV 1) (eC (.int 2))) aNil)) aNil))) (sSeq (sIf (tB (eBin opEq (eV 2) (eC (.str [104, 97, 115])))) (sRet (eCall fIntT (aCons (eBin opIn (eV 3) eBad) aNil))) sNx) (sRet (eMeth 1 (c .State_entry) (eFld 14 (eV 0)) (aCons (eBin opIx (eV 1) (eC (.int 1))) (aCons (eV 3) aNil)))))) sNx) (sSeq (sIf (tB (eBin opEq (eCall fLen (aCons (eV 1) aNil)) (eC (.int 1)))) (sRet (eMeth 1 (c .State_bare) (eFld 14 (eV 0)) (aCons (eV 2) aNil))) sNx) (sSeq (sIf (tB (eBin opIn (eV 2) (eTup (aCons (eC (.str [97, 110, 100])) (aCons (eC (.str [111, 114])) aNil))))) (sRet (eMeth 3 (c .Desk_both) (eV 0) (aCons (eV 1) aNil))) sNx) (sSeq (sAsg 4 (eLc (gN 5) (eSl (eV 1) (oSome (eC (.int 1))) oNone) tYesM (eMeth 3 (c .Desk_worth) (eV 0) (aCons (eV 5) aNil)) [5])) (sRet (eIf (tB (eBin opEq (eCall fLen (aCons (eV 4) aNil)) (eC (.int 2)))) (eCall (c .f_paired) (aCons (eV 2) (aCons (eBin opIx (eV 4) (eC (.int 0))) (aCons (eBin opIx (eV 4) (eC (.int 1))) aNil)))) (eMeth 3 (c .Desk_single) (eV 0) (aCons (eV 2) (aCons (eV 4) aNil))))))))))))
def m_Desk_both (c c1 : Fn → List D → Mu → Res D) : SM := sBad
def m_Desk_single (c c1 : Fn → List D → Mu → Res D) : SM := (sSeq (sIf (tB (eBin opEq (eV 1) (eC (.str [102, 105, 101, 108, 100])))) (sRet (eMeth 0 (c .Line_field) (eFld 7 (eFld 14 (eV 0))) (aCons (eCall (c .f_number_of) (aCons (eBin opIx (eV 2) (eC (.int 0))) aNil)) aNil))) sNx) (sSeq (sIf (tB (eBin opEq (eV 1) (eC (.str [109, 105, 110, 117, 115])))) (sRet (eCall (c .f_ring) (aCons (eBin opSub (eC (.int 0)) (eCall (c .f_number_of) (aCons (eBin opIx (eV 2) (eC (.int 0))) aNil))) aNil))) sNx) (sSeq (sIf (tB (eBin opEq (eV 1) (eC (.str [110, 111, 116])))) (sRet (eCall fIntT (aCons (eNot (eCall (c .f_is_true) (aCons (eBin opIx (eV 2) (eC (.int 0))) aNil))) aNil))) sNx) (sSeq (sIf (tB (eBin opEq (eV 1) (eC (.str [115, 105, 122, 101])))) (sRet (eCall fLen (aCons (eCall (c .f_text_of) (aCons (eBin opIx (eV 2) (eC (.int 0))) aNil)) aNil))) sNx) (sRet (eCall (c .f_part_of) (aCons (eCall (c .f_text_of) (aCons (eBin opIx (eV 2) (eC (.int 0))) aNil)) (aCons (eCall (c .f_number_of) (aCons (eBin opIx (eV 2) (eC (.int 1))) aNil)) (aCons (eCall (c .f_number_of) (aCons (eBin opIx (eV 2) (eC (.int 2))) aNil)) aNil)))))))))
def m_Desk_block (c c1 : Fn → List D → Mu → Res D) : SM := (sSeq (sFor (gN 2) (eV 1) (sSeq (sAsg 3 (eMeth 3 (c .Desk_deed) (eV 0) (aCons (eV 2) aNil))) (sIf (tB (eBin opNe (eV 3) (eC (.str [103, 111, 101, 115])))) (sRet (eV 3)) sNx))) (sRet (eC (.str [103, 111, 101, 115]))))
def m_Desk_deed (c c1 : Fn → List D → Mu → Res D) : SM := (sSeq (sAsg 2 (eBin opIx (eV 1) (eC (.int 0)))) (sSeq (sIf (tB (eBin opIn (eV 2) (eTup (aCons (eC (.str [110, 101, 120, 116])) (aCons (eC (.str [115, 116, 111, 112])) aNil))))) (sRet (eV 2)) sNx) (sSeq (sIf (tB (eBin opEq (eV 2) (eC (.str [115, 101, 116])))) (sPutL (eFld 4 (eFld 14 (eV 0))) (eBin opIx (eV 1) (eC (.int 1))) (eMeth 3 (c .Desk_worth) (eV 0) (aCons (eBin opIx (eV 1) (eC (.int 2))) aNil))) sNx) (sSeq (sIf (tB (eBin opEq (eV 2) (eC (.str [112, 117, 116])))) (sSeq (sAsg 3 (eCall (c .f_text_of) (aCons (eMeth 3 (c .Desk_worth) (eV 0) (aCons (eBin opIx (eV 1) (eC (.int 2))) aNil)) aNil))) (sExp (eMeth 1 (c .State_put) (eFld 14 (eV 0)) (aCons (eBin opIx (eV 1) (eC (.int 1))) (aCons (eV 3) (aCons (eMeth 3 (c .Desk_worth) (eV 0) (aCons (eBin opIx (eV 1) (eC (.int 3))) aNil)) aNil)))))) sNx) (sSeq (sIf (tB (eBin opEq (eV 2) (eC (.str [100, 114, 111, 112])))) (sExp (eMeth 1 (c .State_drop) (eFld 14 (eV 0)) (aCons (eBin opIx (eV 1) (eC (.int 1))) (aCons (eCall (c .f_text_of) (aCons (eMeth 3 (c .Desk_worth) (eV 0) (aCons (eBin opIx (eV 1) (eC (.int 2))) aNil)) aNil)) aNil)))) sNx) (sSeq (sIf (tB (eBin opEq (eV 2) (eC (.str [115, 97, 121])))) (sExp (eApp (eFld 11 (eFld 14 (eV 0))) (eM1 mJoin (eC (.str [32])) (eLc (gN 4) (eBin opIx (eV 1) (eC (.int 1))) tYesM (eCall (c .f_text_of) (aCons (eMeth 3 (c .Desk_worth) (eV 0) (aCons (eV 4) aNil)) aNil)) [4])))) sNx) (sSeq (sIf (tB (eBin opEq (eV 2) (eC (.str [105, 102])))) (sRet (eMeth 3 (c .Desk_block) (eV 0) (aCons (eIf (tTr (eCall (c .f_is_true) (aCons (eMeth 3 (c .Desk_worth) (eV 0) (aCons (eBin opIx (eV 1) (eC (.int 1))) aNil)) aNil))) (eBin opIx (eV 1) (eC (.int 2))) (eBin opIx (eV 1) (eC (.int 3)))) aNil))) sNx) (sRet (eIf (tB (eBin opEq (eV 2) (eC (.str [101, 97, 99, 104])))) (eMeth 3 (c .Desk_walk) (eV 0) (aCons (eV 1) aNil)) (eC (.str [103, 111, 101, 115])))))))))))
def m_Desk_walk (c c1 : Fn → List D → Mu → Res D) : SM := sBad
def m_Desk_do_all (c c1 : Fn → List D → Mu → Res D) : SM := (sSeq (sFor (gN 2) (eFld 13 (eV 0)) (sIf (tAnd (tB (eBin opEq (eBin opIx (eV 2) (eC (.int 0))) (eV 1))) (tB (eBin opEq (eMeth 3 (c .Desk_block) (eV 0) (aCons (eBin opIx (eV 2) (eC (.int 1))) aNil)) (eC (.str [115, 116, 111, 112]))))) (sRet (eC (.bl true))) sNx)) (sRet (eC (.bl false))))
def m_Desk_begin (c c1 : Fn → List D → Mu → Res D) : SM := (sSeq (sExp (eMeth 1 (c .State_need) (eFld 14 (eV 0)) (aCons (eC (.str [102, 114, 101, 115, 104])) aNil))) (sSeq (sFldM 2 (eFld 14 (eV 0)) (eC (.str [114, 101, 97, 100, 105, 110, 103]))) (sSeq (sFldM 3 (eFld 14 (eV 0)) (eMeth 3 (c .Desk_do_all) (eV 0) (aCons (eC (.str [98, 101, 103, 105, 110])) aNil))) (sRet (eMeth 1 (c .State_taken) (eFld 14 (eV 0)) aNil)))))
def m_Desk_file (c c1 : Fn → List D → Mu → Res D) : SM := sBad
def m_Desk_line (c c1 : Fn → List D → Mu → Res D) : SM := sBad
def m_Desk_end (c c1 : Fn → List D → Mu → Res D) : SM := (sSeq (sExp (eMeth 1 (c .State_need) (eFld 14 (eV 0)) (aCons (eC (.str [114, 101, 97, 100, 105, 110, 103])) aNil))) (sSeq (sFldM 2 (eFld 14 (eV 0)) (eC (.str [111, 118, 101, 114]))) (sSeq (sExp (eMeth 3 (c .Desk_do_all) (eV 0) (aCons (eC (.str [101, 110, 100])) aNil))) (sRet (eMeth 1 (c .State_taken) (eFld 14 (eV 0)) aNil)))))
def body (c c1 : Fn → List D → Mu → Res D) : Fn → List D → Mu → Res D
  | .f_ring => defM 1 0 (m_f_ring c c1)
  | .f_is_number => defM 1 0 (m_f_is_number c c1)
  | .f_number_of => defM 1 2 (m_f_number_of c c1)
  | .f_text_of => defM 1 0 (m_f_text_of c c1)
  | .f_is_true => defM 1 0 (m_f_is_true c c1)
  | .f_cut => defM 1 0 (m_f_cut c c1)
  | .f_reckoned => defM 3 0 (m_f_reckoned c c1)
  | .f_held => defM 3 0 (m_f_held c c1)
  | .f_part_of => defM 3 2 (m_f_part_of c c1)
  | .f_within => defM 2 0 (m_f_within c c1)
  | .f_paired => defM 3 0 (m_f_paired c c1)
  | .f_lines_of => defM 1 1 (m_f_lines_of c c1)
  | .f_is_name => defM 1 1 (m_f_is_name c c1)
  | .f_size_of => defM 1 0 (m_f_size_of c c1)
  | .f_leaf_of => defM 1 2 (m_f_leaf_of c c1)
  | .f_inner_of => defM 1 1 (m_f_inner_of c c1)
  | .f_need_tree => defM 1 2 (m_f_need_tree c c1)
  | .f_run_by => defM 2 3 (m_f_run_by c c1)
  | .f_run => defM 2 0 (m_f_run c c1)
  | .f_law_start => defM 1 2 (m_f_law_start c c1)
  | .f_law_drawn => defM 2 2 (m_f_law_drawn c c1)
  | .f_law_leaf => defM 1 2 (m_f_law_leaf c c1)
  | .f_law => defM 1 12 (m_f_law c c1)
  | .Line_init => defM 2 1 (m_Line_init c c1)
  | .Line_field => defM 2 0 (m_Line_field c c1)
  | .State_init => defM 2 0 (m_State_init c c1)
  | .State_need => defM 2 0 (m_State_need c c1)
  | .State_taken => defM 1 1 (m_State_taken c c1)
  | .State_bare => defM 2 0 (m_State_bare c c1)
  | .State_entry => defM 3 0 (m_State_entry c c1)
  | .State_put => defM 4 0 (m_State_put c c1)
  | .State_drop => defM 3 0 (m_State_drop c c1)
  | .Looker_init => defM 1 0 (m_Looker_init c c1)
  | .Looker_need => defM 2 0 (m_Looker_need c c1)
  | .Looker_count => defM 3 0 (m_Looker_count c c1)
  | .Looker_part => defM 3 1 (m_Looker_part c c1)
  | .Looker_block => defM 4 1 (m_Looker_block c c1)
  | .Looker_deed => defM 4 3 (m_Looker_deed c c1)
  | .Looker_rule => defM 2 1 (m_Looker_rule c c1)
  | .Desk_init => defM 2 0 (m_Desk_init c c1)
  | .Desk_worth => defM 2 4 (m_Desk_worth c c1)
  | .Desk_both => defM 2 1 (m_Desk_both c c1)
  | .Desk_single => defM 3 0 (m_Desk_single c c1)
  | .Desk_block => defM 2 2 (m_Desk_block c c1)
  | .Desk_deed => defM 2 3 (m_Desk_deed c c1)
  | .Desk_walk => defM 2 2 (m_Desk_walk c c1)
  | .Desk_do_all => defM 2 1 (m_Desk_do_all c c1)
  | .Desk_begin => defM 1 0 (m_Desk_begin c c1)
  | .Desk_file => defM 1 0 (m_Desk_file c c1)
  | .Desk_line => defM 2 3 (m_Desk_line c c1)
  | .Desk_end => defM 1 0 (m_Desk_end c c1)
/-- what a def does, by its depth -/
def callP : Nat → (Fn → List D → Mu → Res D) × (Fn → List D → Mu → Res D)
  | 0 => (fun _ _ _ => .bad, fun _ _ _ => .bad)
  | n + 1 => (body (callP n).1 (callP n).2, (callP n).1)
abbrev call (n : Nat) : Fn → List D → Mu → Res D := (callP n).1
theorem call_succ (n : Nat) (f : Fn) : call (n + 2) f = body (call (n + 1)) (call n) f := rfl
end Wk07

set_option Elab.async false
set_option linter.all false
set_option maxRecDepth 100000
set_option maxHeartbeats 8000000
namespace Wk07
open PySem PySem.Spec PyProof.Rows L2 Lw
def topS (i : Nat) : Stmt := PySem.Challenge.pw_linewright_k07_whole_numbers_of_a_ring.main.body.getD i (.Pass ⟨0, 0, 0, 0⟩)
abbrev st_f_ring : Stmt := topS 6
abbrev N_f_ring : List Str := ["number"]
abbrev st_f_is_number : Stmt := topS 7
abbrev N_f_is_number : List Str := ["worth"]
abbrev st_f_number_of : Stmt := topS 8
abbrev N_f_number_of : List Str := ["worth", "begin", "end"]
abbrev st_f_text_of : Stmt := topS 9
abbrev N_f_text_of : List Str := ["worth"]
abbrev st_f_is_true : Stmt := topS 10
abbrev N_f_is_true : List Str := ["worth"]
abbrev st_f_cut : Stmt := topS 11
abbrev N_f_cut : List Str := ["text"]
abbrev st_f_reckoned : Stmt := topS 12
abbrev N_f_reckoned : List Str := ["word", "one", "other"]
abbrev st_f_held : Stmt := topS 13
abbrev N_f_held : List Str := ["word", "one", "other"]
abbrev st_f_part_of : Stmt := topS 14
abbrev N_f_part_of : List Str := ["text", "begin", "many", "k", "sign"]
abbrev st_f_within : Stmt := topS 15
abbrev N_f_within : List Str := ["text", "other"]
abbrev st_f_paired : Stmt := topS 16
abbrev N_f_paired : List Str := ["word", "one", "other"]
abbrev st_f_lines_of : Stmt := topS 20
abbrev N_f_lines_of : List Str := ["text", "found"]
abbrev st_f_is_name : Stmt := topS 47
abbrev N_f_is_name : List Str := ["word", "sign"]
abbrev st_f_size_of : Stmt := topS 48
abbrev N_f_size_of : List Str := ["word"]
abbrev st_f_leaf_of : Stmt := topS 49
abbrev N_f_leaf_of : List Str := ["part", "good", "sign"]
abbrev st_f_inner_of : Stmt := topS 50
abbrev N_f_inner_of : List Str := ["part", "many"]
abbrev st_f_need_tree : Stmt := topS 52
abbrev N_f_need_tree : List Str := ["tree", "looker", "rule"]
abbrev st_f_run_by : Stmt := topS 58
abbrev N_f_run_by : List Str := ["desk", "files", "found", "text", "line"]
abbrev st_f_run : Stmt := topS 59
abbrev N_f_run : List Str := ["tree", "files"]
abbrev st_f_law_start : Stmt := topS 61
abbrev N_f_law_start : List Str := ["_law_script", "_law_mixed", "_law_cell"]
abbrev st_f_law_drawn : Stmt := topS 62
abbrev N_f_law_drawn : List Str := ["_law_state", "_law_many", "_law_found", "_law_cell"]
abbrev st_f_law_leaf : Stmt := topS 63
abbrev N_f_law_leaf : List Str := ["_law_state", "_law_number", "_law_some"]
abbrev st_f_law : Stmt := topS 64
abbrev N_f_law : List Str := ["_law_script", "_law_state", "_law_turn", "_law_a", "_law_b", "_law_c", "_law_pairs", "_law_back", "_law_whole", "_law_deeds", "_law_pair", "_law_line", "_law_words"]
abbrev st_Line_init : Stmt := inClass (topS 19) 0
abbrev N_Line_init : List Str := ["self", "text", "word"]
abbrev st_Line_field : Stmt := inClass (topS 19) 1
abbrev N_Line_field : List Str := ["self", "number"]
abbrev st_State_init : Stmt := inClass (topS 29) 0
abbrev N_State_init : List Str := ["self", "many"]
abbrev st_State_need : Stmt := inClass (topS 29) 1
abbrev N_State_need : List Str := ["self", "stage"]
abbrev st_State_taken : Stmt := inClass (topS 29) 4
abbrev N_State_taken : List Str := ["self", "found"]
abbrev st_State_bare : Stmt := inClass (topS 29) 5
abbrev N_State_bare : List Str := ["self", "word"]
abbrev st_State_entry : Stmt := inClass (topS 29) 6
abbrev N_State_entry : List Str := ["self", "table", "key"]
abbrev st_State_put : Stmt := inClass (topS 29) 7
abbrev N_State_put : List Str := ["self", "table", "key", "worth"]
abbrev st_State_drop : Stmt := inClass (topS 29) 8
abbrev N_State_drop : List Str := ["self", "table", "key"]
abbrev st_Looker_init : Stmt := inClass (topS 51) 0
abbrev N_Looker_init : List Str := ["self"]
abbrev st_Looker_need : Stmt := inClass (topS 51) 1
abbrev N_Looker_need : List Str := ["self", "good"]
abbrev st_Looker_count : Stmt := inClass (topS 51) 2
abbrev N_Looker_count : List Str := ["self", "thing", "deep"]
abbrev st_Looker_part : Stmt := inClass (topS 51) 3
abbrev N_Looker_part : List Str := ["self", "part", "deep", "one"]
abbrev st_Looker_block : Stmt := inClass (topS 51) 4
abbrev N_Looker_block : List Str := ["self", "deeds", "deep", "may_next", "deed"]
abbrev st_Looker_deed : Stmt := inClass (topS 51) 5
abbrev N_Looker_deed : List Str := ["self", "deed", "deep", "may_next", "word", "some", "part"]
abbrev st_Looker_rule : Stmt := inClass (topS 51) 6
abbrev N_Looker_rule : List Str := ["self", "rule", "part"]
abbrev st_Desk_init : Stmt := inClass (topS 57) 0
abbrev N_Desk_init : List Str := ["self", "tree"]
abbrev st_Desk_worth : Stmt := inClass (topS 57) 1
abbrev N_Desk_worth : List Str := ["self", "part", "word", "key", "some", "one"]
abbrev st_Desk_both : Stmt := inClass (topS 57) 2
abbrev N_Desk_both : List Str := ["self", "part", "one"]
abbrev st_Desk_single : Stmt := inClass (topS 57) 3
abbrev N_Desk_single : List Str := ["self", "word", "some"]
abbrev st_Desk_block : Stmt := inClass (topS 57) 4
abbrev N_Desk_block : List Str := ["self", "deeds", "deed", "how"]
abbrev st_Desk_deed : Stmt := inClass (topS 57) 5
abbrev N_Desk_deed : List Str := ["self", "deed", "word", "key", "part"]
abbrev st_Desk_walk : Stmt := inClass (topS 57) 6
abbrev N_Desk_walk : List Str := ["self", "deed", "key", "how"]
abbrev st_Desk_do_all : Stmt := inClass (topS 57) 8
abbrev N_Desk_do_all : List Str := ["self", "word", "rule"]
abbrev st_Desk_begin : Stmt := inClass (topS 57) 9
abbrev N_Desk_begin : List Str := ["self"]
abbrev st_Desk_file : Stmt := inClass (topS 57) 10
abbrev N_Desk_file : List Str := ["self"]
abbrev st_Desk_line : Stmt := inClass (topS 57) 11
abbrev N_Desk_line : List Str := ["self", "text", "number", "rule", "how"]
abbrev st_Desk_end : Stmt := inClass (topS 57) 12
abbrev N_Desk_end : List Str := ["self"]
def atOf : Fn → Str × Option Str
  | .f_ring => ("ring", none)
  | .f_is_number => ("is_number", none)
  | .f_number_of => ("number_of", none)
  | .f_text_of => ("text_of", none)
  | .f_is_true => ("is_true", none)
  | .f_cut => ("cut", none)
  | .f_reckoned => ("reckoned", none)
  | .f_held => ("held", none)
  | .f_part_of => ("part_of", none)
  | .f_within => ("within", none)
  | .f_paired => ("paired", none)
  | .f_lines_of => ("lines_of", none)
  | .f_is_name => ("is_name", none)
  | .f_size_of => ("size_of", none)
  | .f_leaf_of => ("leaf_of", none)
  | .f_inner_of => ("inner_of", none)
  | .f_need_tree => ("need_tree", none)
  | .f_run_by => ("run_by", none)
  | .f_run => ("run", none)
  | .f_law_start => ("_law_start", none)
  | .f_law_drawn => ("_law_drawn", none)
  | .f_law_leaf => ("_law_leaf", none)
  | .f_law => ("law", none)
  | .Line_init => ("Line", some "__init__")
  | .Line_field => ("Line", some "field")
  | .State_init => ("State", some "__init__")
  | .State_need => ("State", some "need")
  | .State_taken => ("State", some "taken")
  | .State_bare => ("State", some "bare")
  | .State_entry => ("State", some "entry")
  | .State_put => ("State", some "put")
  | .State_drop => ("State", some "drop")
  | .Looker_init => ("Looker", some "__init__")
  | .Looker_need => ("Looker", some "need")
  | .Looker_count => ("Looker", some "count")
  | .Looker_part => ("Looker", some "part")
  | .Looker_block => ("Looker", some "block")
  | .Looker_deed => ("Looker", some "deed")
  | .Looker_rule => ("Looker", some "rule")
  | .Desk_init => ("Desk", some "__init__")
  | .Desk_worth => ("Desk", some "worth")
  | .Desk_both => ("Desk", some "both")
  | .Desk_single => ("Desk", some "single")
  | .Desk_block => ("Desk", some "block")
  | .Desk_deed => ("Desk", some "deed")
  | .Desk_walk => ("Desk", some "walk")
  | .Desk_do_all => ("Desk", some "do_all")
  | .Desk_begin => ("Desk", some "begin")
  | .Desk_file => ("Desk", some "file")
  | .Desk_line => ("Desk", some "line")
  | .Desk_end => ("Desk", some "end")
def nmOf : Fn → Str
  | .f_ring => "ring"
  | .f_is_number => "is_number"
  | .f_number_of => "number_of"
  | .f_text_of => "text_of"
  | .f_is_true => "is_true"
  | .f_cut => "cut"
  | .f_reckoned => "reckoned"
  | .f_held => "held"
  | .f_part_of => "part_of"
  | .f_within => "within"
  | .f_paired => "paired"
  | .f_lines_of => "lines_of"
  | .f_is_name => "is_name"
  | .f_size_of => "size_of"
  | .f_leaf_of => "leaf_of"
  | .f_inner_of => "inner_of"
  | .f_need_tree => "need_tree"
  | .f_run_by => "run_by"
  | .f_run => "run"
  | .f_law_start => "_law_start"
  | .f_law_drawn => "_law_drawn"
  | .f_law_leaf => "_law_leaf"
  | .f_law => "law"
  | .Line_init => "__init__"
  | .Line_field => "field"
  | .State_init => "__init__"
  | .State_need => "need"
  | .State_taken => "taken"
  | .State_bare => "bare"
  | .State_entry => "entry"
  | .State_put => "put"
  | .State_drop => "drop"
  | .Looker_init => "__init__"
  | .Looker_need => "need"
  | .Looker_count => "count"
  | .Looker_part => "part"
  | .Looker_block => "block"
  | .Looker_deed => "deed"
  | .Looker_rule => "rule"
  | .Desk_init => "__init__"
  | .Desk_worth => "worth"
  | .Desk_both => "both"
  | .Desk_single => "single"
  | .Desk_block => "block"
  | .Desk_deed => "deed"
  | .Desk_walk => "walk"
  | .Desk_do_all => "do_all"
  | .Desk_begin => "begin"
  | .Desk_file => "file"
  | .Desk_line => "line"
  | .Desk_end => "end"
def quOf : Fn → Str
  | .f_ring => "ring"
  | .f_is_number => "is_number"
  | .f_number_of => "number_of"
  | .f_text_of => "text_of"
  | .f_is_true => "is_true"
  | .f_cut => "cut"
  | .f_reckoned => "reckoned"
  | .f_held => "held"
  | .f_part_of => "part_of"
  | .f_within => "within"
  | .f_paired => "paired"
  | .f_lines_of => "lines_of"
  | .f_is_name => "is_name"
  | .f_size_of => "size_of"
  | .f_leaf_of => "leaf_of"
  | .f_inner_of => "inner_of"
  | .f_need_tree => "need_tree"
  | .f_run_by => "run_by"
  | .f_run => "run"
  | .f_law_start => "_law_start"
  | .f_law_drawn => "_law_drawn"
  | .f_law_leaf => "_law_leaf"
  | .f_law => "law"
  | .Line_init => "Line.__init__"
  | .Line_field => "Line.field"
  | .State_init => "State.__init__"
  | .State_need => "State.need"
  | .State_taken => "State.taken"
  | .State_bare => "State.bare"
  | .State_entry => "State.entry"
  | .State_put => "State.put"
  | .State_drop => "State.drop"
  | .Looker_init => "Looker.__init__"
  | .Looker_need => "Looker.need"
  | .Looker_count => "Looker.count"
  | .Looker_part => "Looker.part"
  | .Looker_block => "Looker.block"
  | .Looker_deed => "Looker.deed"
  | .Looker_rule => "Looker.rule"
  | .Desk_init => "Desk.__init__"
  | .Desk_worth => "Desk.worth"
  | .Desk_both => "Desk.both"
  | .Desk_single => "Desk.single"
  | .Desk_block => "Desk.block"
  | .Desk_deed => "Desk.deed"
  | .Desk_walk => "Desk.walk"
  | .Desk_do_all => "Desk.do_all"
  | .Desk_begin => "Desk.begin"
  | .Desk_file => "Desk.file"
  | .Desk_line => "Desk.line"
  | .Desk_end => "Desk.end"
abbrev stOf : Fn → Stmt
  | .f_ring => st_f_ring
  | .f_is_number => st_f_is_number
  | .f_number_of => st_f_number_of
  | .f_text_of => st_f_text_of
  | .f_is_true => st_f_is_true
  | .f_cut => st_f_cut
  | .f_reckoned => st_f_reckoned
  | .f_held => st_f_held
  | .f_part_of => st_f_part_of
  | .f_within => st_f_within
  | .f_paired => st_f_paired
  | .f_lines_of => st_f_lines_of
  | .f_is_name => st_f_is_name
  | .f_size_of => st_f_size_of
  | .f_leaf_of => st_f_leaf_of
  | .f_inner_of => st_f_inner_of
  | .f_need_tree => st_f_need_tree
  | .f_run_by => st_f_run_by
  | .f_run => st_f_run
  | .f_law_start => st_f_law_start
  | .f_law_drawn => st_f_law_drawn
  | .f_law_leaf => st_f_law_leaf
  | .f_law => st_f_law
  | .Line_init => st_Line_init
  | .Line_field => st_Line_field
  | .State_init => st_State_init
  | .State_need => st_State_need
  | .State_taken => st_State_taken
  | .State_bare => st_State_bare
  | .State_entry => st_State_entry
  | .State_put => st_State_put
  | .State_drop => st_State_drop
  | .Looker_init => st_Looker_init
  | .Looker_need => st_Looker_need
  | .Looker_count => st_Looker_count
  | .Looker_part => st_Looker_part
  | .Looker_block => st_Looker_block
  | .Looker_deed => st_Looker_deed
  | .Looker_rule => st_Looker_rule
  | .Desk_init => st_Desk_init
  | .Desk_worth => st_Desk_worth
  | .Desk_both => st_Desk_both
  | .Desk_single => st_Desk_single
  | .Desk_block => st_Desk_block
  | .Desk_deed => st_Desk_deed
  | .Desk_walk => st_Desk_walk
  | .Desk_do_all => st_Desk_do_all
  | .Desk_begin => st_Desk_begin
  | .Desk_file => st_Desk_file
  | .Desk_line => st_Desk_line
  | .Desk_end => st_Desk_end
abbrev psOf : Fn → List Str
  | .f_ring => ["number"]
  | .f_is_number => ["worth"]
  | .f_number_of => ["worth"]
  | .f_text_of => ["worth"]
  | .f_is_true => ["worth"]
  | .f_cut => ["text"]
  | .f_reckoned => ["word", "one", "other"]
  | .f_held => ["word", "one", "other"]
  | .f_part_of => ["text", "begin", "many"]
  | .f_within => ["text", "other"]
  | .f_paired => ["word", "one", "other"]
  | .f_lines_of => ["text"]
  | .f_is_name => ["word"]
  | .f_size_of => ["word"]
  | .f_leaf_of => ["part"]
  | .f_inner_of => ["part"]
  | .f_need_tree => ["tree"]
  | .f_run_by => ["desk", "files"]
  | .f_run => ["tree", "files"]
  | .f_law_start => ["_law_script"]
  | .f_law_drawn => ["_law_state", "_law_many"]
  | .f_law_leaf => ["_law_state"]
  | .f_law => ["_law_script"]
  | .Line_init => ["self", "text"]
  | .Line_field => ["self", "number"]
  | .State_init => ["self", "many"]
  | .State_need => ["self", "stage"]
  | .State_taken => ["self"]
  | .State_bare => ["self", "word"]
  | .State_entry => ["self", "table", "key"]
  | .State_put => ["self", "table", "key", "worth"]
  | .State_drop => ["self", "table", "key"]
  | .Looker_init => ["self"]
  | .Looker_need => ["self", "good"]
  | .Looker_count => ["self", "thing", "deep"]
  | .Looker_part => ["self", "part", "deep"]
  | .Looker_block => ["self", "deeds", "deep", "may_next"]
  | .Looker_deed => ["self", "deed", "deep", "may_next"]
  | .Looker_rule => ["self", "rule"]
  | .Desk_init => ["self", "tree"]
  | .Desk_worth => ["self", "part"]
  | .Desk_both => ["self", "part"]
  | .Desk_single => ["self", "word", "some"]
  | .Desk_block => ["self", "deeds"]
  | .Desk_deed => ["self", "deed"]
  | .Desk_walk => ["self", "deed"]
  | .Desk_do_all => ["self", "word"]
  | .Desk_begin => ["self"]
  | .Desk_file => ["self"]
  | .Desk_line => ["self", "text"]
  | .Desk_end => ["self"]
abbrev ad (K : PySem.W.Frag) (f : Fn) : Addr := He.fAd K (atOf f)
/-- the fields' names -/
def fnm : Nat → Str
  | 0 => "whole"
  | 1 => "fields"
  | 2 => "stage"
  | 3 => "stopped"
  | 4 => "put_names"
  | 5 => "tables"
  | 6 => "turned"
  | 7 => "now_line"
  | 8 => "row"
  | 9 => "filerow"
  | 10 => "filing"
  | 11 => "said"
  | 12 => "parts"
  | 13 => "tree"
  | 14 => "state"
  | _ => ""
theorem fnm_inj : ∀ a, a < 15 → ∀ b, b < 15 → fnm a = fnm b → a = b := by decide +kernel
def clsN : Nat → Str
  | 0 => "Line"
  | 1 => "State"
  | 2 => "Looker"
  | 3 => "Desk"
  | _ => "Line"
def excN : Nat → Str
  | 0 => "WrightError"
  | 1 => "BadTree"
  | 2 => "Ended"
  | _ => "WrightError"
theorem ltF {k : Nat} (h : Nat.ble (k + 1) 15 = true) : k < 15 := Nat.le_of_ble_eq_true h
theorem nf___init__ : ∀ k, k < 15 → fnm k ≠ "__init__" := by decide +kernel
theorem nf_bare : ∀ k, k < 15 → fnm k ≠ "bare" := by decide +kernel
theorem nf_begin : ∀ k, k < 15 → fnm k ≠ "begin" := by decide +kernel
theorem nf_block : ∀ k, k < 15 → fnm k ≠ "block" := by decide +kernel
theorem nf_both : ∀ k, k < 15 → fnm k ≠ "both" := by decide +kernel
theorem nf_count : ∀ k, k < 15 → fnm k ≠ "count" := by decide +kernel
theorem nf_deed : ∀ k, k < 15 → fnm k ≠ "deed" := by decide +kernel
theorem nf_do_all : ∀ k, k < 15 → fnm k ≠ "do_all" := by decide +kernel
theorem nf_drop : ∀ k, k < 15 → fnm k ≠ "drop" := by decide +kernel
theorem nf_end : ∀ k, k < 15 → fnm k ≠ "end" := by decide +kernel
theorem nf_entry : ∀ k, k < 15 → fnm k ≠ "entry" := by decide +kernel
theorem nf_field : ∀ k, k < 15 → fnm k ≠ "field" := by decide +kernel
theorem nf_file : ∀ k, k < 15 → fnm k ≠ "file" := by decide +kernel
theorem nf_line : ∀ k, k < 15 → fnm k ≠ "line" := by decide +kernel
theorem nf_need : ∀ k, k < 15 → fnm k ≠ "need" := by decide +kernel
theorem nf_part : ∀ k, k < 15 → fnm k ≠ "part" := by decide +kernel
theorem nf_put : ∀ k, k < 15 → fnm k ≠ "put" := by decide +kernel
theorem nf_rule : ∀ k, k < 15 → fnm k ≠ "rule" := by decide +kernel
theorem nf_single : ∀ k, k < 15 → fnm k ≠ "single" := by decide +kernel
theorem nf_taken : ∀ k, k < 15 → fnm k ≠ "taken" := by decide +kernel
theorem nf_walk : ∀ k, k < 15 → fnm k ≠ "walk" := by decide +kernel
theorem nf_worth : ∀ k, k < 15 → fnm k ≠ "worth" := by decide +kernel
abbrev G (K : PySem.W.Frag) : Cg := ⟨fun c => He.ga K (clsN c), fun c => He.ga K (excN c), 15, fnm, fun a b h1 h2 => fnm_inj a h1 b h2⟩
/-- what the end leans on: the names that the top has written -/
structure Tx (K : PySem.W.Frag) (mg : Str → Option Value) (w : World) : Prop where
  g : ∀ f : Fn, (atOf f).2 = none → mg (atOf f).1 = some (.ref (ad K f))
  cls : ClsAll K (G K)
  b_int : mg "int" = none
  b_isinstance : mg "isinstance" = none
  b_len : mg "len" = none
  b_list : mg "list" = none
  b_range : mg "range" = none
  b_str : mg "str" = none
  b_tuple : mg "tuple" = none
  g_DEED_SIZES : mg "DEED_SIZES" = some (.ref (He.ga K "DEED_SIZES"))
  k_DEED_SIZES : KTab K w (He.ga K "DEED_SIZES") k_DEED_SIZES
  c_FIGURES : ∃ t, mg "FIGURES" = some (.str "0123456789" t)
  c_FRESH : ∃ t, mg "FRESH" = some (.str "fresh" t)
  c_GAP : ∃ t, mg "GAP" = some (.str " " t)
  c_GOES : ∃ t, mg "GOES" = some (.str "goes" t)
  c_HALF : ∃ t, mg "HALF" = some (.int 500000000 t)
  g_KEYWORDS : mg "KEYWORDS" = some (.ref (He.ga K "KEYWORDS"))
  t_KEYWORDS : ∀ ρ H, Rel K ρ H k_KEYWORDS (.ref (He.ga K "KEYWORDS"))
  c_LETTERS : ∃ t, mg "LETTERS" = some (.str "abcdefghijklmnopqrstuvwxyz" t)
  g_LOOKS : mg "LOOKS" = some (.ref (He.ga K "LOOKS"))
  k_LOOKS : KTab K w (He.ga K "LOOKS") k_LOOKS
  c_MOST_DEEDS : ∃ t, mg "MOST_DEEDS" = some (.int 20 t)
  c_MOST_DEEP : ∃ t, mg "MOST_DEEP" = some (.int 30 t)
  c_MOST_LETTERS : ∃ t, mg "MOST_LETTERS" = some (.int 8 t)
  c_MOST_NUMBER : ∃ t, mg "MOST_NUMBER" = some (.int 499999999 t)
  c_MOST_PARTS : ∃ t, mg "MOST_PARTS" = some (.int 300 t)
  c_MOST_RULES : ∃ t, mg "MOST_RULES" = some (.int 20 t)
  c_MOST_SAID : ∃ t, mg "MOST_SAID" = some (.int 6 t)
  c_MOST_TEXT_signs : ∃ t, mg "MOST_TEXT_signs" = some (.int 50 t)
  c_MOST_TEXT_worths : ∃ t, mg "MOST_TEXT_worths" = some (.int 200 t)
  c_NEXT : ∃ t, mg "NEXT" = some (.str "next" t)
  c_OVER : ∃ t, mg "OVER" = some (.str "over" t)
  g_PAIRS : mg "PAIRS" = some (.ref (He.ga K "PAIRS"))
  t_PAIRS : ∀ ρ H, Rel K ρ H k_PAIRS (.ref (He.ga K "PAIRS"))
  c_QUOTE : ∃ t, mg "QUOTE" = some (.str "\"" t)
  c_READING : ∃ t, mg "READING" = some (.str "reading" t)
  g_RULE_SIZES : mg "RULE_SIZES" = some (.ref (He.ga K "RULE_SIZES"))
  k_RULE_SIZES : KTab K w (He.ga K "RULE_SIZES") k_RULE_SIZES
  g_SIZES : mg "SIZES" = some (.ref (He.ga K "SIZES"))
  k_SIZES : KTab K w (He.ga K "SIZES") k_SIZES
  c_STOP : ∃ t, mg "STOP" = some (.str "stop" t)
  c_WHOLE : ∃ t, mg "WHOLE" = some (.int 1000000000 t)
  gc_Line : mg "Line" = some (.ref (He.ga K "Line"))
  mk_Line : Mk K (He.ga K "Line") (ad K .Line_init)
  m_Line_field : Meth K (He.ga K "Line") "field" (ad K .Line_field)
  gc_State : mg "State" = some (.ref (He.ga K "State"))
  mk_State : Mk K (He.ga K "State") (ad K .State_init)
  m_State_need : Meth K (He.ga K "State") "need" (ad K .State_need)
  m_State_taken : Meth K (He.ga K "State") "taken" (ad K .State_taken)
  m_State_bare : Meth K (He.ga K "State") "bare" (ad K .State_bare)
  m_State_entry : Meth K (He.ga K "State") "entry" (ad K .State_entry)
  m_State_put : Meth K (He.ga K "State") "put" (ad K .State_put)
  m_State_drop : Meth K (He.ga K "State") "drop" (ad K .State_drop)
  gc_Looker : mg "Looker" = some (.ref (He.ga K "Looker"))
  mk_Looker : Mk K (He.ga K "Looker") (ad K .Looker_init)
  m_Looker_need : Meth K (He.ga K "Looker") "need" (ad K .Looker_need)
  m_Looker_count : Meth K (He.ga K "Looker") "count" (ad K .Looker_count)
  m_Looker_part : Meth K (He.ga K "Looker") "part" (ad K .Looker_part)
  m_Looker_block : Meth K (He.ga K "Looker") "block" (ad K .Looker_block)
  m_Looker_deed : Meth K (He.ga K "Looker") "deed" (ad K .Looker_deed)
  m_Looker_rule : Meth K (He.ga K "Looker") "rule" (ad K .Looker_rule)
  gc_Desk : mg "Desk" = some (.ref (He.ga K "Desk"))
  mk_Desk : Mk K (He.ga K "Desk") (ad K .Desk_init)
  m_Desk_worth : Meth K (He.ga K "Desk") "worth" (ad K .Desk_worth)
  m_Desk_both : Meth K (He.ga K "Desk") "both" (ad K .Desk_both)
  m_Desk_single : Meth K (He.ga K "Desk") "single" (ad K .Desk_single)
  m_Desk_block : Meth K (He.ga K "Desk") "block" (ad K .Desk_block)
  m_Desk_deed : Meth K (He.ga K "Desk") "deed" (ad K .Desk_deed)
  m_Desk_walk : Meth K (He.ga K "Desk") "walk" (ad K .Desk_walk)
  m_Desk_do_all : Meth K (He.ga K "Desk") "do_all" (ad K .Desk_do_all)
  m_Desk_begin : Meth K (He.ga K "Desk") "begin" (ad K .Desk_begin)
  m_Desk_file : Meth K (He.ga K "Desk") "file" (ad K .Desk_file)
  m_Desk_line : Meth K (He.ga K "Desk") "line" (ad K .Desk_line)
  m_Desk_end : Meth K (He.ga K "Desk") "end" (ad K .Desk_end)
  gx_BadTree : mg "BadTree" = some (.ref (He.ga K "BadTree"))
  x_BadTree : PySem.W.excIn K (He.ga K "BadTree") He.veBase "ValueError.__new__" = true
  kx_BadTree : PySem.W.keepIn K (.ref (He.ga K "BadTree")) = true
  bx_BadTree : PySem.W.subIn K (.ref (He.ga K "BadTree")) (.type "BaseException") = some true
  tx_BadTree : PySem.W.typeIn K (.ref (He.ga K "BadTree")) = some (.type "type")
  gx_Ended : mg "Ended" = some (.ref (He.ga K "Ended"))
  x_Ended : PySem.W.excIn K (He.ga K "Ended") He.veBase "ValueError.__new__" = true
  kx_Ended : PySem.W.keepIn K (.ref (He.ga K "Ended")) = true
  bx_Ended : PySem.W.subIn K (.ref (He.ga K "Ended")) (.type "BaseException") = some true
  tx_Ended : PySem.W.typeIn K (.ref (He.ga K "Ended")) = some (.type "type")
section
variable {P : Program} {w : World} {K : PySem.W.Frag} {mg : Str → Option Value} {base : Heap} {fdo : Fn → FuncData}
abbrev FDt (K : PySem.W.Frag) (f : Fn) (fd : FuncData) : Prop := FunD K (nmOf f) (quOf f) (defArgs (stOf f)) (defBody (stOf f)) (defScope (stOf f)) [] [] (ad K f) fd
theorem sc_f_ring : FnScope N_f_ring (psOf .f_ring) (defScope st_f_ring) := ⟨rfl, rfl, rfl, by decide +kernel, rfl, by decide +kernel, by decide +kernel⟩
theorem bi_f_ring {fd : FuncData} (F : FDt K .f_ring fd) : Binds K fd (psOf .f_ring) [] := F.bindsN fun _ _ _ _ _ _ us hl => match us, hl with | [_], _ => rfl
theorem sc_f_is_number : FnScope N_f_is_number (psOf .f_is_number) (defScope st_f_is_number) := ⟨rfl, rfl, rfl, by decide +kernel, rfl, by decide +kernel, by decide +kernel⟩
theorem bi_f_is_number {fd : FuncData} (F : FDt K .f_is_number fd) : Binds K fd (psOf .f_is_number) [] := F.bindsN fun _ _ _ _ _ _ us hl => match us, hl with | [_], _ => rfl
theorem sc_f_number_of : FnScope N_f_number_of (psOf .f_number_of) (defScope st_f_number_of) := ⟨rfl, rfl, rfl, by decide +kernel, rfl, by decide +kernel, by decide +kernel⟩
theorem bi_f_number_of {fd : FuncData} (F : FDt K .f_number_of fd) : Binds K fd (psOf .f_number_of) [] := F.bindsN fun _ _ _ _ _ _ us hl => match us, hl with | [_], _ => rfl
theorem sc_f_text_of : FnScope N_f_text_of (psOf .f_text_of) (defScope st_f_text_of) := ⟨rfl, rfl, rfl, by decide +kernel, rfl, by decide +kernel, by decide +kernel⟩
theorem bi_f_text_of {fd : FuncData} (F : FDt K .f_text_of fd) : Binds K fd (psOf .f_text_of) [] := F.bindsN fun _ _ _ _ _ _ us hl => match us, hl with | [_], _ => rfl
theorem sc_f_is_true : FnScope N_f_is_true (psOf .f_is_true) (defScope st_f_is_true) := ⟨rfl, rfl, rfl, by decide +kernel, rfl, by decide +kernel, by decide +kernel⟩
theorem bi_f_is_true {fd : FuncData} (F : FDt K .f_is_true fd) : Binds K fd (psOf .f_is_true) [] := F.bindsN fun _ _ _ _ _ _ us hl => match us, hl with | [_], _ => rfl
theorem sc_f_cut : FnScope N_f_cut (psOf .f_cut) (defScope st_f_cut) := ⟨rfl, rfl, rfl, by decide +kernel, rfl, by decide +kernel, by decide +kernel⟩
theorem bi_f_cut {fd : FuncData} (F : FDt K .f_cut fd) : Binds K fd (psOf .f_cut) [] := F.bindsN fun _ _ _ _ _ _ us hl => match us, hl with | [_], _ => rfl
theorem sc_f_reckoned : FnScope N_f_reckoned (psOf .f_reckoned) (defScope st_f_reckoned) := ⟨rfl, rfl, rfl, by decide +kernel, rfl, by decide +kernel, by decide +kernel⟩
theorem bi_f_reckoned {fd : FuncData} (F : FDt K .f_reckoned fd) : Binds K fd (psOf .f_reckoned) [] := F.bindsN fun _ _ _ _ _ _ us hl => match us, hl with | [_, _, _], _ => rfl
theorem sc_f_held : FnScope N_f_held (psOf .f_held) (defScope st_f_held) := ⟨rfl, rfl, rfl, by decide +kernel, rfl, by decide +kernel, by decide +kernel⟩
theorem bi_f_held {fd : FuncData} (F : FDt K .f_held fd) : Binds K fd (psOf .f_held) [] := F.bindsN fun _ _ _ _ _ _ us hl => match us, hl with | [_, _, _], _ => rfl
theorem sc_f_part_of : FnScope N_f_part_of (psOf .f_part_of) (defScope st_f_part_of) := ⟨rfl, rfl, rfl, by decide +kernel, rfl, by decide +kernel, by decide +kernel⟩
theorem bi_f_part_of {fd : FuncData} (F : FDt K .f_part_of fd) : Binds K fd (psOf .f_part_of) [] := F.bindsN fun _ _ _ _ _ _ us hl => match us, hl with | [_, _, _], _ => rfl
theorem sc_f_within : FnScope N_f_within (psOf .f_within) (defScope st_f_within) := ⟨rfl, rfl, rfl, by decide +kernel, rfl, by decide +kernel, by decide +kernel⟩
theorem bi_f_within {fd : FuncData} (F : FDt K .f_within fd) : Binds K fd (psOf .f_within) [] := F.bindsN fun _ _ _ _ _ _ us hl => match us, hl with | [_, _], _ => rfl
theorem sc_f_paired : FnScope N_f_paired (psOf .f_paired) (defScope st_f_paired) := ⟨rfl, rfl, rfl, by decide +kernel, rfl, by decide +kernel, by decide +kernel⟩
theorem bi_f_paired {fd : FuncData} (F : FDt K .f_paired fd) : Binds K fd (psOf .f_paired) [] := F.bindsN fun _ _ _ _ _ _ us hl => match us, hl with | [_, _, _], _ => rfl
theorem sc_f_lines_of : FnScope N_f_lines_of (psOf .f_lines_of) (defScope st_f_lines_of) := ⟨rfl, rfl, rfl, by decide +kernel, rfl, by decide +kernel, by decide +kernel⟩
theorem bi_f_lines_of {fd : FuncData} (F : FDt K .f_lines_of fd) : Binds K fd (psOf .f_lines_of) [] := F.bindsN fun _ _ _ _ _ _ us hl => match us, hl with | [_], _ => rfl
theorem sc_f_is_name : FnScope N_f_is_name (psOf .f_is_name) (defScope st_f_is_name) := ⟨rfl, rfl, rfl, by decide +kernel, rfl, by decide +kernel, by decide +kernel⟩
theorem bi_f_is_name {fd : FuncData} (F : FDt K .f_is_name fd) : Binds K fd (psOf .f_is_name) [] := F.bindsN fun _ _ _ _ _ _ us hl => match us, hl with | [_], _ => rfl
theorem sc_f_size_of : FnScope N_f_size_of (psOf .f_size_of) (defScope st_f_size_of) := ⟨rfl, rfl, rfl, by decide +kernel, rfl, by decide +kernel, by decide +kernel⟩
theorem bi_f_size_of {fd : FuncData} (F : FDt K .f_size_of fd) : Binds K fd (psOf .f_size_of) [] := F.bindsN fun _ _ _ _ _ _ us hl => match us, hl with | [_], _ => rfl
theorem sc_f_leaf_of : FnScope N_f_leaf_of (psOf .f_leaf_of) (defScope st_f_leaf_of) := ⟨rfl, rfl, rfl, by decide +kernel, rfl, by decide +kernel, by decide +kernel⟩
theorem bi_f_leaf_of {fd : FuncData} (F : FDt K .f_leaf_of fd) : Binds K fd (psOf .f_leaf_of) [] := F.bindsN fun _ _ _ _ _ _ us hl => match us, hl with | [_], _ => rfl
theorem sc_f_inner_of : FnScope N_f_inner_of (psOf .f_inner_of) (defScope st_f_inner_of) := ⟨rfl, rfl, rfl, by decide +kernel, rfl, by decide +kernel, by decide +kernel⟩
theorem bi_f_inner_of {fd : FuncData} (F : FDt K .f_inner_of fd) : Binds K fd (psOf .f_inner_of) [] := F.bindsN fun _ _ _ _ _ _ us hl => match us, hl with | [_], _ => rfl
theorem sc_f_need_tree : FnScope N_f_need_tree (psOf .f_need_tree) (defScope st_f_need_tree) := ⟨rfl, rfl, rfl, by decide +kernel, rfl, by decide +kernel, by decide +kernel⟩
theorem bi_f_need_tree {fd : FuncData} (F : FDt K .f_need_tree fd) : Binds K fd (psOf .f_need_tree) [] := F.bindsN fun _ _ _ _ _ _ us hl => match us, hl with | [_], _ => rfl
theorem sc_f_run_by : FnScope N_f_run_by (psOf .f_run_by) (defScope st_f_run_by) := ⟨rfl, rfl, rfl, by decide +kernel, rfl, by decide +kernel, by decide +kernel⟩
theorem bi_f_run_by {fd : FuncData} (F : FDt K .f_run_by fd) : Binds K fd (psOf .f_run_by) [] := F.bindsN fun _ _ _ _ _ _ us hl => match us, hl with | [_, _], _ => rfl
theorem sc_f_run : FnScope N_f_run (psOf .f_run) (defScope st_f_run) := ⟨rfl, rfl, rfl, by decide +kernel, rfl, by decide +kernel, by decide +kernel⟩
theorem bi_f_run {fd : FuncData} (F : FDt K .f_run fd) : Binds K fd (psOf .f_run) [] := F.bindsN fun _ _ _ _ _ _ us hl => match us, hl with | [_, _], _ => rfl
theorem sc_f_law_start : FnScope N_f_law_start (psOf .f_law_start) (defScope st_f_law_start) := ⟨rfl, rfl, rfl, by decide +kernel, rfl, by decide +kernel, by decide +kernel⟩
theorem bi_f_law_start {fd : FuncData} (F : FDt K .f_law_start fd) : Binds K fd (psOf .f_law_start) [] := F.bindsN fun _ _ _ _ _ _ us hl => match us, hl with | [_], _ => rfl
theorem sc_f_law_drawn : FnScope N_f_law_drawn (psOf .f_law_drawn) (defScope st_f_law_drawn) := ⟨rfl, rfl, rfl, by decide +kernel, rfl, by decide +kernel, by decide +kernel⟩
theorem bi_f_law_drawn {fd : FuncData} (F : FDt K .f_law_drawn fd) : Binds K fd (psOf .f_law_drawn) [] := F.bindsN fun _ _ _ _ _ _ us hl => match us, hl with | [_, _], _ => rfl
theorem sc_f_law_leaf : FnScope N_f_law_leaf (psOf .f_law_leaf) (defScope st_f_law_leaf) := ⟨rfl, rfl, rfl, by decide +kernel, rfl, by decide +kernel, by decide +kernel⟩
theorem bi_f_law_leaf {fd : FuncData} (F : FDt K .f_law_leaf fd) : Binds K fd (psOf .f_law_leaf) [] := F.bindsN fun _ _ _ _ _ _ us hl => match us, hl with | [_], _ => rfl
theorem sc_f_law : FnScope N_f_law (psOf .f_law) (defScope st_f_law) := ⟨rfl, rfl, rfl, by decide +kernel, rfl, by decide +kernel, by decide +kernel⟩
theorem bi_f_law {fd : FuncData} (F : FDt K .f_law fd) : Binds K fd (psOf .f_law) [] := F.bindsN fun _ _ _ _ _ _ us hl => match us, hl with | [_], _ => rfl
theorem sc_Line_init : FnScope N_Line_init (psOf .Line_init) (defScope st_Line_init) := ⟨rfl, rfl, rfl, by decide +kernel, rfl, by decide +kernel, by decide +kernel⟩
theorem bi_Line_init {fd : FuncData} (F : FDt K .Line_init fd) : Binds K fd (psOf .Line_init) [] := F.bindsN fun _ _ _ _ _ _ us hl => match us, hl with | [_, _], _ => rfl
theorem sc_Line_field : FnScope N_Line_field (psOf .Line_field) (defScope st_Line_field) := ⟨rfl, rfl, rfl, by decide +kernel, rfl, by decide +kernel, by decide +kernel⟩
theorem bi_Line_field {fd : FuncData} (F : FDt K .Line_field fd) : Binds K fd (psOf .Line_field) [] := F.bindsN fun _ _ _ _ _ _ us hl => match us, hl with | [_, _], _ => rfl
theorem sc_State_init : FnScope N_State_init (psOf .State_init) (defScope st_State_init) := ⟨rfl, rfl, rfl, by decide +kernel, rfl, by decide +kernel, by decide +kernel⟩
theorem bi_State_init {fd : FuncData} (F : FDt K .State_init fd) : Binds K fd (psOf .State_init) [] := F.bindsN fun _ _ _ _ _ _ us hl => match us, hl with | [_, _], _ => rfl
theorem sc_State_need : FnScope N_State_need (psOf .State_need) (defScope st_State_need) := ⟨rfl, rfl, rfl, by decide +kernel, rfl, by decide +kernel, by decide +kernel⟩
theorem bi_State_need {fd : FuncData} (F : FDt K .State_need fd) : Binds K fd (psOf .State_need) [] := F.bindsN fun _ _ _ _ _ _ us hl => match us, hl with | [_, _], _ => rfl
theorem sc_State_taken : FnScope N_State_taken (psOf .State_taken) (defScope st_State_taken) := ⟨rfl, rfl, rfl, by decide +kernel, rfl, by decide +kernel, by decide +kernel⟩
theorem bi_State_taken {fd : FuncData} (F : FDt K .State_taken fd) : Binds K fd (psOf .State_taken) [] := F.bindsN fun _ _ _ _ _ _ us hl => match us, hl with | [_], _ => rfl
theorem sc_State_bare : FnScope N_State_bare (psOf .State_bare) (defScope st_State_bare) := ⟨rfl, rfl, rfl, by decide +kernel, rfl, by decide +kernel, by decide +kernel⟩
theorem bi_State_bare {fd : FuncData} (F : FDt K .State_bare fd) : Binds K fd (psOf .State_bare) [] := F.bindsN fun _ _ _ _ _ _ us hl => match us, hl with | [_, _], _ => rfl
theorem sc_State_entry : FnScope N_State_entry (psOf .State_entry) (defScope st_State_entry) := ⟨rfl, rfl, rfl, by decide +kernel, rfl, by decide +kernel, by decide +kernel⟩
theorem bi_State_entry {fd : FuncData} (F : FDt K .State_entry fd) : Binds K fd (psOf .State_entry) [] := F.bindsN fun _ _ _ _ _ _ us hl => match us, hl with | [_, _, _], _ => rfl
theorem sc_State_put : FnScope N_State_put (psOf .State_put) (defScope st_State_put) := ⟨rfl, rfl, rfl, by decide +kernel, rfl, by decide +kernel, by decide +kernel⟩
theorem bi_State_put {fd : FuncData} (F : FDt K .State_put fd) : Binds K fd (psOf .State_put) [] := F.bindsN fun _ _ _ _ _ _ us hl => match us, hl with | [_, _, _, _], _ => rfl
theorem sc_State_drop : FnScope N_State_drop (psOf .State_drop) (defScope st_State_drop) := ⟨rfl, rfl, rfl, by decide +kernel, rfl, by decide +kernel, by decide +kernel⟩
theorem bi_State_drop {fd : FuncData} (F : FDt K .State_drop fd) : Binds K fd (psOf .State_drop) [] := F.bindsN fun _ _ _ _ _ _ us hl => match us, hl with | [_, _, _], _ => rfl
theorem sc_Looker_init : FnScope N_Looker_init (psOf .Looker_init) (defScope st_Looker_init) := ⟨rfl, rfl, rfl, by decide +kernel, rfl, by decide +kernel, by decide +kernel⟩
theorem bi_Looker_init {fd : FuncData} (F : FDt K .Looker_init fd) : Binds K fd (psOf .Looker_init) [] := F.bindsN fun _ _ _ _ _ _ us hl => match us, hl with | [_], _ => rfl
theorem sc_Looker_need : FnScope N_Looker_need (psOf .Looker_need) (defScope st_Looker_need) := ⟨rfl, rfl, rfl, by decide +kernel, rfl, by decide +kernel, by decide +kernel⟩
theorem bi_Looker_need {fd : FuncData} (F : FDt K .Looker_need fd) : Binds K fd (psOf .Looker_need) [] := F.bindsN fun _ _ _ _ _ _ us hl => match us, hl with | [_, _], _ => rfl
theorem sc_Looker_count : FnScope N_Looker_count (psOf .Looker_count) (defScope st_Looker_count) := ⟨rfl, rfl, rfl, by decide +kernel, rfl, by decide +kernel, by decide +kernel⟩
theorem bi_Looker_count {fd : FuncData} (F : FDt K .Looker_count fd) : Binds K fd (psOf .Looker_count) [] := F.bindsN fun _ _ _ _ _ _ us hl => match us, hl with | [_, _, _], _ => rfl
theorem sc_Looker_part : FnScope N_Looker_part (psOf .Looker_part) (defScope st_Looker_part) := ⟨rfl, rfl, rfl, by decide +kernel, rfl, by decide +kernel, by decide +kernel⟩
theorem bi_Looker_part {fd : FuncData} (F : FDt K .Looker_part fd) : Binds K fd (psOf .Looker_part) [] := F.bindsN fun _ _ _ _ _ _ us hl => match us, hl with | [_, _, _], _ => rfl
theorem sc_Looker_block : FnScope N_Looker_block (psOf .Looker_block) (defScope st_Looker_block) := ⟨rfl, rfl, rfl, by decide +kernel, rfl, by decide +kernel, by decide +kernel⟩
theorem bi_Looker_block {fd : FuncData} (F : FDt K .Looker_block fd) : Binds K fd (psOf .Looker_block) [] := F.bindsN fun _ _ _ _ _ _ us hl => match us, hl with | [_, _, _, _], _ => rfl
theorem sc_Looker_deed : FnScope N_Looker_deed (psOf .Looker_deed) (defScope st_Looker_deed) := ⟨rfl, rfl, rfl, by decide +kernel, rfl, by decide +kernel, by decide +kernel⟩
theorem bi_Looker_deed {fd : FuncData} (F : FDt K .Looker_deed fd) : Binds K fd (psOf .Looker_deed) [] := F.bindsN fun _ _ _ _ _ _ us hl => match us, hl with | [_, _, _, _], _ => rfl
theorem sc_Looker_rule : FnScope N_Looker_rule (psOf .Looker_rule) (defScope st_Looker_rule) := ⟨rfl, rfl, rfl, by decide +kernel, rfl, by decide +kernel, by decide +kernel⟩
theorem bi_Looker_rule {fd : FuncData} (F : FDt K .Looker_rule fd) : Binds K fd (psOf .Looker_rule) [] := F.bindsN fun _ _ _ _ _ _ us hl => match us, hl with | [_, _], _ => rfl
theorem sc_Desk_init : FnScope N_Desk_init (psOf .Desk_init) (defScope st_Desk_init) := ⟨rfl, rfl, rfl, by decide +kernel, rfl, by decide +kernel, by decide +kernel⟩
theorem bi_Desk_init {fd : FuncData} (F : FDt K .Desk_init fd) : Binds K fd (psOf .Desk_init) [] := F.bindsN fun _ _ _ _ _ _ us hl => match us, hl with | [_, _], _ => rfl
theorem sc_Desk_worth : FnScope N_Desk_worth (psOf .Desk_worth) (defScope st_Desk_worth) := ⟨rfl, rfl, rfl, by decide +kernel, rfl, by decide +kernel, by decide +kernel⟩
theorem bi_Desk_worth {fd : FuncData} (F : FDt K .Desk_worth fd) : Binds K fd (psOf .Desk_worth) [] := F.bindsN fun _ _ _ _ _ _ us hl => match us, hl with | [_, _], _ => rfl
theorem sc_Desk_both : FnScope N_Desk_both (psOf .Desk_both) (defScope st_Desk_both) := ⟨rfl, rfl, rfl, by decide +kernel, rfl, by decide +kernel, by decide +kernel⟩
theorem bi_Desk_both {fd : FuncData} (F : FDt K .Desk_both fd) : Binds K fd (psOf .Desk_both) [] := F.bindsN fun _ _ _ _ _ _ us hl => match us, hl with | [_, _], _ => rfl
theorem sc_Desk_single : FnScope N_Desk_single (psOf .Desk_single) (defScope st_Desk_single) := ⟨rfl, rfl, rfl, by decide +kernel, rfl, by decide +kernel, by decide +kernel⟩
theorem bi_Desk_single {fd : FuncData} (F : FDt K .Desk_single fd) : Binds K fd (psOf .Desk_single) [] := F.bindsN fun _ _ _ _ _ _ us hl => match us, hl with | [_, _, _], _ => rfl
theorem sc_Desk_block : FnScope N_Desk_block (psOf .Desk_block) (defScope st_Desk_block) := ⟨rfl, rfl, rfl, by decide +kernel, rfl, by decide +kernel, by decide +kernel⟩
theorem bi_Desk_block {fd : FuncData} (F : FDt K .Desk_block fd) : Binds K fd (psOf .Desk_block) [] := F.bindsN fun _ _ _ _ _ _ us hl => match us, hl with | [_, _], _ => rfl
theorem sc_Desk_deed : FnScope N_Desk_deed (psOf .Desk_deed) (defScope st_Desk_deed) := ⟨rfl, rfl, rfl, by decide +kernel, rfl, by decide +kernel, by decide +kernel⟩
theorem bi_Desk_deed {fd : FuncData} (F : FDt K .Desk_deed fd) : Binds K fd (psOf .Desk_deed) [] := F.bindsN fun _ _ _ _ _ _ us hl => match us, hl with | [_, _], _ => rfl
theorem sc_Desk_walk : FnScope N_Desk_walk (psOf .Desk_walk) (defScope st_Desk_walk) := ⟨rfl, rfl, rfl, by decide +kernel, rfl, by decide +kernel, by decide +kernel⟩
theorem bi_Desk_walk {fd : FuncData} (F : FDt K .Desk_walk fd) : Binds K fd (psOf .Desk_walk) [] := F.bindsN fun _ _ _ _ _ _ us hl => match us, hl with | [_, _], _ => rfl
theorem sc_Desk_do_all : FnScope N_Desk_do_all (psOf .Desk_do_all) (defScope st_Desk_do_all) := ⟨rfl, rfl, rfl, by decide +kernel, rfl, by decide +kernel, by decide +kernel⟩
theorem bi_Desk_do_all {fd : FuncData} (F : FDt K .Desk_do_all fd) : Binds K fd (psOf .Desk_do_all) [] := F.bindsN fun _ _ _ _ _ _ us hl => match us, hl with | [_, _], _ => rfl
theorem sc_Desk_begin : FnScope N_Desk_begin (psOf .Desk_begin) (defScope st_Desk_begin) := ⟨rfl, rfl, rfl, by decide +kernel, rfl, by decide +kernel, by decide +kernel⟩
theorem bi_Desk_begin {fd : FuncData} (F : FDt K .Desk_begin fd) : Binds K fd (psOf .Desk_begin) [] := F.bindsN fun _ _ _ _ _ _ us hl => match us, hl with | [_], _ => rfl
theorem sc_Desk_file : FnScope N_Desk_file (psOf .Desk_file) (defScope st_Desk_file) := ⟨rfl, rfl, rfl, by decide +kernel, rfl, by decide +kernel, by decide +kernel⟩
theorem bi_Desk_file {fd : FuncData} (F : FDt K .Desk_file fd) : Binds K fd (psOf .Desk_file) [] := F.bindsN fun _ _ _ _ _ _ us hl => match us, hl with | [_], _ => rfl
theorem sc_Desk_line : FnScope N_Desk_line (psOf .Desk_line) (defScope st_Desk_line) := ⟨rfl, rfl, rfl, by decide +kernel, rfl, by decide +kernel, by decide +kernel⟩
theorem bi_Desk_line {fd : FuncData} (F : FDt K .Desk_line fd) : Binds K fd (psOf .Desk_line) [] := F.bindsN fun _ _ _ _ _ _ us hl => match us, hl with | [_, _], _ => rfl
theorem sc_Desk_end : FnScope N_Desk_end (psOf .Desk_end) (defScope st_Desk_end) := ⟨rfl, rfl, rfl, by decide +kernel, rfl, by decide +kernel, by decide +kernel⟩
theorem bi_Desk_end {fd : FuncData} (F : FDt K .Desk_end fd) : Binds K fd (psOf .Desk_end) [] := F.bindsN fun _ _ _ _ _ _ us hl => match us, hl with | [_], _ => rfl
abbrev OkAll (P : Program) (w : World) (K : PySem.W.Frag) (mg : Str → Option Value) (base : Heap) (fdo : Fn → FuncData) (k : Nat) (c : Fn → List D → Mu → Res D) : Prop := ∀ f : Fn, FnOk P w K mg base (L2.CX P w) k (ad K f) (fdo f) (psOf f) (spM K (G K) (c f))
theorem ok_f_ring (T : Tx K mg w) (FD : ∀ f : Fn, FDt K f (fdo f)) {n k1 : Nat} {c c1 : Fn → List D → Mu → Res D} (IH : OkAll P w K mg base fdo n c) (IH1 : OkAll P w K mg base fdo k1 c1) (hk : k1 + 1 ≤ n) :
    FnOk P w K mg base (L2.CX P w) (n + 1) (ad K .f_ring) (fdo .f_ring) (psOf .f_ring) (spM K (G K) (body c c1 .f_ring)) := by
  refine ok_def (N := N_f_ring) (FD .f_ring) sc_f_ring (by decide) (by decide) (fun cdv A outer s H E hr => ?_)
  have tk : Takes (cxOf (L2.CX P w) P w K mg base N_f_ring "ring" (defScope st_f_ring) (ad K .f_ring) cdv A outer s H E) (fun cls d _ H => E cls d H) := takes_of rfl rfl rfl rfl
  have hx : Passes (L2.CX P w) (cxOf (L2.CX P w) P w K mg base N_f_ring "ring" (defScope st_f_ring) (ad K .f_ring) cdv A outer s H E) E := passes_call tk (fun _ _ _ _ h => h)
  have hp := passes_of (X := cxOf (L2.CX P w) P w K mg base N_f_ring "ring" (defScope st_f_ring) (ad K .f_ring) cdv A outer s H E) rfl
  have hr1 : Room (k1 + 1) _ := hr.mono hk
  exact (ss_one (s_ret (s_op op_sub sub_s sub_n (s_op op_modN mod_s mod_n (s_op op_addA add_s add_n (s_var 0) (s_gint T.c_HALF)) (s_gint T.c_WHOLE)) (s_gint T.c_HALF))))
theorem ok_f_is_number (T : Tx K mg w) (FD : ∀ f : Fn, FDt K f (fdo f)) {n k1 : Nat} {c c1 : Fn → List D → Mu → Res D} (IH : OkAll P w K mg base fdo n c) (IH1 : OkAll P w K mg base fdo k1 c1) (hk : k1 + 1 ≤ n) :
    FnOk P w K mg base (L2.CX P w) (n + 1) (ad K .f_is_number) (fdo .f_is_number) (psOf .f_is_number) (spM K (G K) (body c c1 .f_is_number)) := by
  refine ok_def (N := N_f_is_number) (FD .f_is_number) sc_f_is_number (by decide) (by decide) (fun cdv A outer s H E hr => ?_)
  have tk : Takes (cxOf (L2.CX P w) P w K mg base N_f_is_number "is_number" (defScope st_f_is_number) (ad K .f_is_number) cdv A outer s H E) (fun cls d _ H => E cls d H) := takes_of rfl rfl rfl rfl
  have hx : Passes (L2.CX P w) (cxOf (L2.CX P w) P w K mg base N_f_is_number "is_number" (defScope st_f_is_number) (ad K .f_is_number) cdv A outer s H E) E := passes_call tk (fun _ _ _ _ h => h)
  have hp := passes_of (X := cxOf (L2.CX P w) P w K mg base N_f_is_number "is_number" (defScope st_f_is_number) (ad K .f_is_number) cdv A outer s H E) rfl
  have hr1 : Room (k1 + 1) _ := hr.mono hk
  exact (ss_one (s_ret (s_isi (k := .int) (s_var 0) rfl T.b_isinstance rfl T.b_int PyProof.Rows.boot_int)))
theorem ok_f_number_of (T : Tx K mg w) (FD : ∀ f : Fn, FDt K f (fdo f)) {n k1 : Nat} {c c1 : Fn → List D → Mu → Res D} (IH : OkAll P w K mg base fdo n c) (IH1 : OkAll P w K mg base fdo k1 c1) (hk : k1 + 1 ≤ n) :
    FnOk P w K mg base (L2.CX P w) (n + 1) (ad K .f_number_of) (fdo .f_number_of) (psOf .f_number_of) (spM K (G K) (body c c1 .f_number_of)) := by
  refine ok_def (N := N_f_number_of) (FD .f_number_of) sc_f_number_of (by decide) (by decide) (fun cdv A outer s H E hr => ?_)
  have tk : Takes (cxOf (L2.CX P w) P w K mg base N_f_number_of "number_of" (defScope st_f_number_of) (ad K .f_number_of) cdv A outer s H E) (fun cls d _ H => E cls d H) := takes_of rfl rfl rfl rfl
  have hx : Passes (L2.CX P w) (cxOf (L2.CX P w) P w K mg base N_f_number_of "number_of" (defScope st_f_number_of) (ad K .f_number_of) cdv A outer s H E) E := passes_call tk (fun _ _ _ _ h => h)
  have hp := passes_of (X := cxOf (L2.CX P w) P w K mg base N_f_number_of "number_of" (defScope st_f_number_of) (ad K .f_number_of) cdv A outer s H E) rfl
  have hr1 : Room (k1 + 1) _ := hr.mono hk
  exact (ss_cons (s_if (s_tr (s_call (IH .f_is_number) hr rfl (T.g .f_is_number rfl) (FD .f_is_number).kp (bi_f_is_number (FD .f_is_number)) hx (s_cons (s_var 0) s_nil))) (ss_one (s_ret (s_var 0))) ss_nil) (ss_cons (s_set 1 (s_ifE (s_cmpT (op_eqA hr.units) eq_s eq_n (s_sl (s_var 0) s_oNone (s_oSome s_int)) (s_str (by decide +kernel)) (nomark _)) s_int s_int) sc_f_number_of.nd) (ss_cons (s_set 2 (s_var 1) sc_f_number_of.nd) (ss_cons (s_while 100000 hp (s_w (s_wand (s_cmpT op_ltA lt_s lt_n (s_var 2) (s_callB call_len len_s len_n rfl T.b_len PySem.boot_len (s_cons (s_var 0) s_nil)) (nomark _)) (s_wand1 (s_cmpT op_inA in_s in_n (s_ix (s_var 0) (s_var 2)) (s_gstr T.c_FIGURES (by decide +kernel)) (by rfl))))) (ss_one (s_set 2 (s_op op_addA add_s add_n (s_var 2) s_int) sc_f_number_of.nd))) (ss_cons (s_if (s_cmpT (op_eqA hr.units) eq_s eq_n (s_var 2) (s_var 1) (nomark _)) (ss_one (s_ret s_int)) ss_nil) (ss_one (s_ret (s_call (IH .f_ring) hr rfl (T.g .f_ring rfl) (FD .f_ring).kp (bi_f_ring (FD .f_ring)) hx (s_cons (s_op op_mulA mul_s mul_n (s_callTy call_intT intT_s intT_n rfl T.b_int PyProof.Rows.boot_int (s_cons (s_sl (s_var 0) (s_oSome (s_var 1)) (s_oSome (s_var 2))) s_nil)) (s_op op_sub sub_s sub_n s_int (s_op op_mulA mul_s mul_n s_int (s_var 1)))) s_nil)))))))))
theorem ok_f_text_of (T : Tx K mg w) (FD : ∀ f : Fn, FDt K f (fdo f)) {n k1 : Nat} {c c1 : Fn → List D → Mu → Res D} (IH : OkAll P w K mg base fdo n c) (IH1 : OkAll P w K mg base fdo k1 c1) (hk : k1 + 1 ≤ n) :
    FnOk P w K mg base (L2.CX P w) (n + 1) (ad K .f_text_of) (fdo .f_text_of) (psOf .f_text_of) (spM K (G K) (body c c1 .f_text_of)) := by
  refine ok_def (N := N_f_text_of) (FD .f_text_of) sc_f_text_of (by decide) (by decide) (fun cdv A outer s H E hr => ?_)
  have tk : Takes (cxOf (L2.CX P w) P w K mg base N_f_text_of "text_of" (defScope st_f_text_of) (ad K .f_text_of) cdv A outer s H E) (fun cls d _ H => E cls d H) := takes_of rfl rfl rfl rfl
  have hx : Passes (L2.CX P w) (cxOf (L2.CX P w) P w K mg base N_f_text_of "text_of" (defScope st_f_text_of) (ad K .f_text_of) cdv A outer s H E) E := passes_call tk (fun _ _ _ _ h => h)
  have hp := passes_of (X := cxOf (L2.CX P w) P w K mg base N_f_text_of "text_of" (defScope st_f_text_of) (ad K .f_text_of) cdv A outer s H E) rfl
  have hr1 : Room (k1 + 1) _ := hr.mono hk
  exact (ss_one (s_ret (s_ifE (s_tr (s_call (IH .f_is_number) hr rfl (T.g .f_is_number rfl) (FD .f_is_number).kp (bi_f_is_number (FD .f_is_number)) hx (s_cons (s_var 0) s_nil))) (s_callTy call_str_int str_s str_n rfl T.b_str PyProof.Rows.boot_str (s_cons (s_var 0) s_nil)) (s_var 0))))
theorem ok_f_is_true (T : Tx K mg w) (FD : ∀ f : Fn, FDt K f (fdo f)) {n k1 : Nat} {c c1 : Fn → List D → Mu → Res D} (IH : OkAll P w K mg base fdo n c) (IH1 : OkAll P w K mg base fdo k1 c1) (hk : k1 + 1 ≤ n) :
    FnOk P w K mg base (L2.CX P w) (n + 1) (ad K .f_is_true) (fdo .f_is_true) (psOf .f_is_true) (spM K (G K) (body c c1 .f_is_true)) := by
  refine ok_def (N := N_f_is_true) (FD .f_is_true) sc_f_is_true (by decide) (by decide) (fun cdv A outer s H E hr => ?_)
  have tk : Takes (cxOf (L2.CX P w) P w K mg base N_f_is_true "is_true" (defScope st_f_is_true) (ad K .f_is_true) cdv A outer s H E) (fun cls d _ H => E cls d H) := takes_of rfl rfl rfl rfl
  have hx : Passes (L2.CX P w) (cxOf (L2.CX P w) P w K mg base N_f_is_true "is_true" (defScope st_f_is_true) (ad K .f_is_true) cdv A outer s H E) E := passes_call tk (fun _ _ _ _ h => h)
  have hp := passes_of (X := cxOf (L2.CX P w) P w K mg base N_f_is_true "is_true" (defScope st_f_is_true) (ad K .f_is_true) cdv A outer s H E) rfl
  have hr1 : Room (k1 + 1) _ := hr.mono hk
  exact (ss_one (s_ret (s_ifE (s_tr (s_call (IH .f_is_number) hr rfl (T.g .f_is_number rfl) (FD .f_is_number).kp (bi_f_is_number (FD .f_is_number)) hx (s_cons (s_var 0) s_nil))) (s_cmp (op_neA hr.units) ne_s ne_n (s_var 0) s_int (nomark _)) (s_cmp (op_neA hr.units) ne_s ne_n (s_var 0) (s_str (by decide +kernel)) (nomark _)))))
theorem ok_f_cut (T : Tx K mg w) (FD : ∀ f : Fn, FDt K f (fdo f)) {n k1 : Nat} {c c1 : Fn → List D → Mu → Res D} (IH : OkAll P w K mg base fdo n c) (IH1 : OkAll P w K mg base fdo k1 c1) (hk : k1 + 1 ≤ n) :
    FnOk P w K mg base (L2.CX P w) (n + 1) (ad K .f_cut) (fdo .f_cut) (psOf .f_cut) (spM K (G K) (body c c1 .f_cut)) := by
  refine ok_def (N := N_f_cut) (FD .f_cut) sc_f_cut (by decide) (by decide) (fun cdv A outer s H E hr => ?_)
  have tk : Takes (cxOf (L2.CX P w) P w K mg base N_f_cut "cut" (defScope st_f_cut) (ad K .f_cut) cdv A outer s H E) (fun cls d _ H => E cls d H) := takes_of rfl rfl rfl rfl
  have hx : Passes (L2.CX P w) (cxOf (L2.CX P w) P w K mg base N_f_cut "cut" (defScope st_f_cut) (ad K .f_cut) cdv A outer s H E) E := passes_call tk (fun _ _ _ _ h => h)
  have hp := passes_of (X := cxOf (L2.CX P w) P w K mg base N_f_cut "cut" (defScope st_f_cut) (ad K .f_cut) cdv A outer s H E) rfl
  have hr1 : Room (k1 + 1) _ := hr.mono hk
  exact (ss_one (s_ret (s_sl (s_var 0) s_oNone (s_oSome (s_gint T.c_MOST_TEXT_worths)))))
theorem ok_f_reckoned (T : Tx K mg w) (FD : ∀ f : Fn, FDt K f (fdo f)) {n k1 : Nat} {c c1 : Fn → List D → Mu → Res D} (IH : OkAll P w K mg base fdo n c) (IH1 : OkAll P w K mg base fdo k1 c1) (hk : k1 + 1 ≤ n) :
    FnOk P w K mg base (L2.CX P w) (n + 1) (ad K .f_reckoned) (fdo .f_reckoned) (psOf .f_reckoned) (spM K (G K) (body c c1 .f_reckoned)) := by
  refine ok_def (N := N_f_reckoned) (FD .f_reckoned) sc_f_reckoned (by decide) (by decide) (fun cdv A outer s H E hr => ?_)
  have tk : Takes (cxOf (L2.CX P w) P w K mg base N_f_reckoned "reckoned" (defScope st_f_reckoned) (ad K .f_reckoned) cdv A outer s H E) (fun cls d _ H => E cls d H) := takes_of rfl rfl rfl rfl
  have hx : Passes (L2.CX P w) (cxOf (L2.CX P w) P w K mg base N_f_reckoned "reckoned" (defScope st_f_reckoned) (ad K .f_reckoned) cdv A outer s H E) E := passes_call tk (fun _ _ _ _ h => h)
  have hp := passes_of (X := cxOf (L2.CX P w) P w K mg base N_f_reckoned "reckoned" (defScope st_f_reckoned) (ad K .f_reckoned) cdv A outer s H E) rfl
  have hr1 : Room (k1 + 1) _ := hr.mono hk
  exact (ss_cons (s_if (s_cmpT op_inA in_s in_n (s_var 0) (s_tup (s_cons (s_str (by decide +kernel)) (s_cons (s_str (by decide +kernel)) s_nil))) (by rfl)) (ss_cons (s_if (s_cmpT (op_eqA hr.units) eq_s eq_n (s_var 2) s_int (nomark _)) (ss_one (s_ret s_int)) ss_nil) (ss_one (s_ret (s_call (IH .f_ring) hr rfl (T.g .f_ring rfl) (FD .f_ring).kp (bi_f_ring (FD .f_ring)) hx (s_cons (s_ifE (s_cmpT (op_eqA hr.units) eq_s eq_n (s_var 0) (s_str (by decide +kernel)) (nomark _)) (s_op op_fdivN fdiv_s fdiv_n (s_var 1) (s_var 2)) (s_op op_modN mod_s mod_n (s_var 1) (s_var 2))) s_nil))))) ss_nil) (ss_cons (s_if (s_cmpT (op_eqA hr.units) eq_s eq_n (s_var 0) (s_str (by decide +kernel)) (nomark _)) (ss_one (s_ret (s_call (IH .f_ring) hr rfl (T.g .f_ring rfl) (FD .f_ring).kp (bi_f_ring (FD .f_ring)) hx (s_cons (s_op op_mulA mul_s mul_n (s_var 1) (s_var 2)) s_nil)))) ss_nil) (ss_one (s_ret (s_call (IH .f_ring) hr rfl (T.g .f_ring rfl) (FD .f_ring).kp (bi_f_ring (FD .f_ring)) hx (s_cons (s_ifE (s_cmpT (op_eqA hr.units) eq_s eq_n (s_var 0) (s_str (by decide +kernel)) (nomark _)) (s_op op_addA add_s add_n (s_var 1) (s_var 2)) (s_op op_sub sub_s sub_n (s_var 1) (s_var 2))) s_nil))))))
theorem ok_f_held (T : Tx K mg w) (FD : ∀ f : Fn, FDt K f (fdo f)) {n k1 : Nat} {c c1 : Fn → List D → Mu → Res D} (IH : OkAll P w K mg base fdo n c) (IH1 : OkAll P w K mg base fdo k1 c1) (hk : k1 + 1 ≤ n) :
    FnOk P w K mg base (L2.CX P w) (n + 1) (ad K .f_held) (fdo .f_held) (psOf .f_held) (spM K (G K) (body c c1 .f_held)) := by
  refine ok_def (N := N_f_held) (FD .f_held) sc_f_held (by decide) (by decide) (fun cdv A outer s H E hr => ?_)
  have tk : Takes (cxOf (L2.CX P w) P w K mg base N_f_held "held" (defScope st_f_held) (ad K .f_held) cdv A outer s H E) (fun cls d _ H => E cls d H) := takes_of rfl rfl rfl rfl
  have hx : Passes (L2.CX P w) (cxOf (L2.CX P w) P w K mg base N_f_held "held" (defScope st_f_held) (ad K .f_held) cdv A outer s H E) E := passes_call tk (fun _ _ _ _ h => h)
  have hp := passes_of (X := cxOf (L2.CX P w) P w K mg base N_f_held "held" (defScope st_f_held) (ad K .f_held) cdv A outer s H E) rfl
  have hr1 : Room (k1 + 1) _ := hr.mono hk
  exact (ss_cons (s_if (s_w (s_wor (s_tnot (s_tr (s_call (IH .f_is_number) hr rfl (T.g .f_is_number rfl) (FD .f_is_number).kp (bi_f_is_number (FD .f_is_number)) hx (s_cons (s_var 1) s_nil)))) (s_wor1 (s_tnot (s_tr (s_call (IH .f_is_number) hr rfl (T.g .f_is_number rfl) (FD .f_is_number).kp (bi_f_is_number (FD .f_is_number)) hx (s_cons (s_var 2) s_nil))))))) (ss_one (s_parA2 sc_f_held.nd (s_cons (s_call (IH .f_text_of) hr rfl (T.g .f_text_of rfl) (FD .f_text_of).kp (bi_f_text_of (FD .f_text_of)) hx (s_cons (s_var 1) s_nil)) (s_cons (s_call (IH .f_text_of) hr rfl (T.g .f_text_of rfl) (FD .f_text_of).kp (bi_f_text_of (FD .f_text_of)) hx (s_cons (s_var 2) s_nil)) s_nil)))) ss_nil) (ss_cons (s_if (s_cmpT (op_eqA hr.units) eq_s eq_n (s_var 0) (s_str (by decide +kernel)) (nomark _)) (ss_one (s_ret (s_callTy call_intT intT_s intT_n rfl T.b_int PyProof.Rows.boot_int (s_cons (s_cmp op_ltA lt_s lt_n (s_var 1) (s_var 2) (nomark _)) s_nil)))) ss_nil) (ss_cons (s_if (s_cmpT (op_eqA hr.units) eq_s eq_n (s_var 0) (s_str (by decide +kernel)) (nomark _)) (ss_one (s_ret (s_callTy call_intT intT_s intT_n rfl T.b_int PyProof.Rows.boot_int (s_cons (s_cmp op_leA le_s le_n (s_var 1) (s_var 2) (nomark _)) s_nil)))) ss_nil) (ss_one (s_ret (s_ifE (s_cmpT (op_eqA hr.units) eq_s eq_n (s_var 0) (s_str (by decide +kernel)) (nomark _)) (s_callTy call_intT intT_s intT_n rfl T.b_int PyProof.Rows.boot_int (s_cons (s_cmp (op_eqA hr.units) eq_s eq_n (s_var 1) (s_var 2) (nomark _)) s_nil)) (s_callTy call_intT intT_s intT_n rfl T.b_int PyProof.Rows.boot_int (s_cons (s_cmp (op_neA hr.units) ne_s ne_n (s_var 1) (s_var 2) (nomark _)) s_nil))))))))
theorem ok_f_part_of (T : Tx K mg w) (FD : ∀ f : Fn, FDt K f (fdo f)) {n k1 : Nat} {c c1 : Fn → List D → Mu → Res D} (IH : OkAll P w K mg base fdo n c) (IH1 : OkAll P w K mg base fdo k1 c1) (hk : k1 + 1 ≤ n) :
    FnOk P w K mg base (L2.CX P w) (n + 1) (ad K .f_part_of) (fdo .f_part_of) (psOf .f_part_of) (spM K (G K) (body c c1 .f_part_of)) := by
  refine ok_def (N := N_f_part_of) (FD .f_part_of) sc_f_part_of (by decide) (by decide) (fun cdv A outer s H E hr => ?_)
  have tk : Takes (cxOf (L2.CX P w) P w K mg base N_f_part_of "part_of" (defScope st_f_part_of) (ad K .f_part_of) cdv A outer s H E) (fun cls d _ H => E cls d H) := takes_of rfl rfl rfl rfl
  have hx : Passes (L2.CX P w) (cxOf (L2.CX P w) P w K mg base N_f_part_of "part_of" (defScope st_f_part_of) (ad K .f_part_of) cdv A outer s H E) E := passes_call tk (fun _ _ _ _ h => h)
  have hp := passes_of (X := cxOf (L2.CX P w) P w K mg base N_f_part_of "part_of" (defScope st_f_part_of) (ad K .f_part_of) cdv A outer s H E) rfl
  have hr1 : Room (k1 + 1) _ := hr.mono hk
  exact ss_bad
theorem ok_f_within (T : Tx K mg w) (FD : ∀ f : Fn, FDt K f (fdo f)) {n k1 : Nat} {c c1 : Fn → List D → Mu → Res D} (IH : OkAll P w K mg base fdo n c) (IH1 : OkAll P w K mg base fdo k1 c1) (hk : k1 + 1 ≤ n) :
    FnOk P w K mg base (L2.CX P w) (n + 1) (ad K .f_within) (fdo .f_within) (psOf .f_within) (spM K (G K) (body c c1 .f_within)) := by
  refine ok_def (N := N_f_within) (FD .f_within) sc_f_within (by decide) (by decide) (fun cdv A outer s H E hr => ?_)
  have tk : Takes (cxOf (L2.CX P w) P w K mg base N_f_within "within" (defScope st_f_within) (ad K .f_within) cdv A outer s H E) (fun cls d _ H => E cls d H) := takes_of rfl rfl rfl rfl
  have hx : Passes (L2.CX P w) (cxOf (L2.CX P w) P w K mg base N_f_within "within" (defScope st_f_within) (ad K .f_within) cdv A outer s H E) E := passes_call tk (fun _ _ _ _ h => h)
  have hp := passes_of (X := cxOf (L2.CX P w) P w K mg base N_f_within "within" (defScope st_f_within) (ad K .f_within) cdv A outer s H E) rfl
  have hr1 : Room (k1 + 1) _ := hr.mono hk
  exact ss_bad
theorem ok_f_paired (T : Tx K mg w) (FD : ∀ f : Fn, FDt K f (fdo f)) {n k1 : Nat} {c c1 : Fn → List D → Mu → Res D} (IH : OkAll P w K mg base fdo n c) (IH1 : OkAll P w K mg base fdo k1 c1) (hk : k1 + 1 ≤ n) :
    FnOk P w K mg base (L2.CX P w) (n + 1) (ad K .f_paired) (fdo .f_paired) (psOf .f_paired) (spM K (G K) (body c c1 .f_paired)) := by
  refine ok_def (N := N_f_paired) (FD .f_paired) sc_f_paired (by decide) (by decide) (fun cdv A outer s H E hr => ?_)
  have tk : Takes (cxOf (L2.CX P w) P w K mg base N_f_paired "paired" (defScope st_f_paired) (ad K .f_paired) cdv A outer s H E) (fun cls d _ H => E cls d H) := takes_of rfl rfl rfl rfl
  have hx : Passes (L2.CX P w) (cxOf (L2.CX P w) P w K mg base N_f_paired "paired" (defScope st_f_paired) (ad K .f_paired) cdv A outer s H E) E := passes_call tk (fun _ _ _ _ h => h)
  have hp := passes_of (X := cxOf (L2.CX P w) P w K mg base N_f_paired "paired" (defScope st_f_paired) (ad K .f_paired) cdv A outer s H E) rfl
  have hr1 : Room (k1 + 1) _ := hr.mono hk
  exact (ss_cons (s_if (s_cmpT (op_eqA hr.units) eq_s eq_n (s_var 0) (s_str (by decide +kernel)) (nomark _)) (ss_one (s_ret (s_call (IH .f_cut) hr rfl (T.g .f_cut rfl) (FD .f_cut).kp (bi_f_cut (FD .f_cut)) hx (s_cons (s_op op_addA add_s add_n (s_call (IH .f_text_of) hr rfl (T.g .f_text_of rfl) (FD .f_text_of).kp (bi_f_text_of (FD .f_text_of)) hx (s_cons (s_var 1) s_nil)) (s_call (IH .f_text_of) hr rfl (T.g .f_text_of rfl) (FD .f_text_of).kp (bi_f_text_of (FD .f_text_of)) hx (s_cons (s_var 2) s_nil))) s_nil)))) ss_nil) (ss_cons (s_if (s_cmpT (op_eqA hr.units) eq_s eq_n (s_var 0) (s_str (by decide +kernel)) (nomark _)) (ss_one (s_ret (s_call (IH .f_within) hr rfl (T.g .f_within rfl) (FD .f_within).kp (bi_f_within (FD .f_within)) hx (s_cons (s_call (IH .f_text_of) hr rfl (T.g .f_text_of rfl) (FD .f_text_of).kp (bi_f_text_of (FD .f_text_of)) hx (s_cons (s_var 1) s_nil)) (s_cons (s_call (IH .f_text_of) hr rfl (T.g .f_text_of rfl) (FD .f_text_of).kp (bi_f_text_of (FD .f_text_of)) hx (s_cons (s_var 2) s_nil)) s_nil))))) ss_nil) (ss_cons (s_if (s_cmpT op_inA in_s in_n (s_var 0) (s_tup (s_cons (s_str (by decide +kernel)) (s_cons (s_str (by decide +kernel)) (s_cons (s_str (by decide +kernel)) (s_cons (s_str (by decide +kernel)) s_nil))))) (by rfl)) (ss_one (s_ret (s_call (IH .f_held) hr rfl (T.g .f_held rfl) (FD .f_held).kp (bi_f_held (FD .f_held)) hx (s_cons (s_var 0) (s_cons (s_var 1) (s_cons (s_var 2) s_nil)))))) ss_nil) (ss_one (s_ret (s_call (IH .f_reckoned) hr rfl (T.g .f_reckoned rfl) (FD .f_reckoned).kp (bi_f_reckoned (FD .f_reckoned)) hx (s_cons (s_var 0) (s_cons (s_call (IH .f_number_of) hr rfl (T.g .f_number_of rfl) (FD .f_number_of).kp (bi_f_number_of (FD .f_number_of)) hx (s_cons (s_var 1) s_nil)) (s_cons (s_call (IH .f_number_of) hr rfl (T.g .f_number_of rfl) (FD .f_number_of).kp (bi_f_number_of (FD .f_number_of)) hx (s_cons (s_var 2) s_nil)) s_nil)))))))))
theorem ok_f_lines_of (T : Tx K mg w) (FD : ∀ f : Fn, FDt K f (fdo f)) {n k1 : Nat} {c c1 : Fn → List D → Mu → Res D} (IH : OkAll P w K mg base fdo n c) (IH1 : OkAll P w K mg base fdo k1 c1) (hk : k1 + 1 ≤ n) :
    FnOk P w K mg base (L2.CX P w) (n + 1) (ad K .f_lines_of) (fdo .f_lines_of) (psOf .f_lines_of) (spM K (G K) (body c c1 .f_lines_of)) := by
  refine ok_def (N := N_f_lines_of) (FD .f_lines_of) sc_f_lines_of (by decide) (by decide) (fun cdv A outer s H E hr => ?_)
  have tk : Takes (cxOf (L2.CX P w) P w K mg base N_f_lines_of "lines_of" (defScope st_f_lines_of) (ad K .f_lines_of) cdv A outer s H E) (fun cls d _ H => E cls d H) := takes_of rfl rfl rfl rfl
  have hx : Passes (L2.CX P w) (cxOf (L2.CX P w) P w K mg base N_f_lines_of "lines_of" (defScope st_f_lines_of) (ad K .f_lines_of) cdv A outer s H E) E := passes_call tk (fun _ _ _ _ h => h)
  have hp := passes_of (X := cxOf (L2.CX P w) P w K mg base N_f_lines_of "lines_of" (defScope st_f_lines_of) (ad K .f_lines_of) cdv A outer s H E) rfl
  have hr1 : Room (k1 + 1) _ := hr.mono hk
  exact ss_bad
theorem ok_f_is_name (T : Tx K mg w) (FD : ∀ f : Fn, FDt K f (fdo f)) {n k1 : Nat} {c c1 : Fn → List D → Mu → Res D} (IH : OkAll P w K mg base fdo n c) (IH1 : OkAll P w K mg base fdo k1 c1) (hk : k1 + 1 ≤ n) :
    FnOk P w K mg base (L2.CX P w) (n + 1) (ad K .f_is_name) (fdo .f_is_name) (psOf .f_is_name) (spM K (G K) (body c c1 .f_is_name)) := by
  refine ok_def (N := N_f_is_name) (FD .f_is_name) sc_f_is_name (by decide) (by decide) (fun cdv A outer s H E hr => ?_)
  have tk : Takes (cxOf (L2.CX P w) P w K mg base N_f_is_name "is_name" (defScope st_f_is_name) (ad K .f_is_name) cdv A outer s H E) (fun cls d _ H => E cls d H) := takes_of rfl rfl rfl rfl
  have hx : Passes (L2.CX P w) (cxOf (L2.CX P w) P w K mg base N_f_is_name "is_name" (defScope st_f_is_name) (ad K .f_is_name) cdv A outer s H E) E := passes_call tk (fun _ _ _ _ h => h)
  have hp := passes_of (X := cxOf (L2.CX P w) P w K mg base N_f_is_name "is_name" (defScope st_f_is_name) (ad K .f_is_name) cdv A outer s H E) rfl
  have hr1 : Room (k1 + 1) _ := hr.mono hk
  exact (ss_cons (s_if (s_w (s_wor (s_tnot (s_tr (s_isi (k := .str) (s_var 0) rfl T.b_isinstance rfl T.b_str PyProof.Rows.boot_str))) (s_wor (s_tnot (s_chainT op_leA le_s le_n op_leA le_s le_n s_int (s_callB call_len len_s len_n rfl T.b_len PySem.boot_len (s_cons (s_var 0) s_nil)) (s_gint T.c_MOST_LETTERS))) (s_wor1 (s_cmpT op_inA in_s in_n (s_var 0) (s_gtup T.g_KEYWORDS T.t_KEYWORDS) (by rfl)))))) (ss_one (s_ret s_bl)) ss_nil) (ss_one (s_ret (s_cmp (op_eqA hr.units) eq_s eq_n (s_lc (own := [("sign", 1)]) rfl sc_f_is_name.nd (s_var 0) (blkOk_by (N := N_f_is_name) (sc := defScope (st_f_is_name)) (by decide +kernel)) (fun _ _ _ _ _ => pg_name (i := 1) sc_f_is_name.nd rfl (Or.inl rfl)) tgw_name (fun _ _ _ _ _ => (s_oneIf (s_cmpT op_notInA notIn_s notIn_n (s_var 1) (s_gstr T.c_LETTERS (by decide +kernel)) (by rfl)))) (fun _ _ _ _ _ => (s_var 1))) (s_lst s_nil) (nomark _)))))
theorem ok_f_size_of (T : Tx K mg w) (FD : ∀ f : Fn, FDt K f (fdo f)) {n k1 : Nat} {c c1 : Fn → List D → Mu → Res D} (IH : OkAll P w K mg base fdo n c) (IH1 : OkAll P w K mg base fdo k1 c1) (hk : k1 + 1 ≤ n) :
    FnOk P w K mg base (L2.CX P w) (n + 1) (ad K .f_size_of) (fdo .f_size_of) (psOf .f_size_of) (spM K (G K) (body c c1 .f_size_of)) := by
  refine ok_def (N := N_f_size_of) (FD .f_size_of) sc_f_size_of (by decide) (by decide) (fun cdv A outer s H E hr => ?_)
  have tk : Takes (cxOf (L2.CX P w) P w K mg base N_f_size_of "size_of" (defScope st_f_size_of) (ad K .f_size_of) cdv A outer s H E) (fun cls d _ H => E cls d H) := takes_of rfl rfl rfl rfl
  have hx : Passes (L2.CX P w) (cxOf (L2.CX P w) P w K mg base N_f_size_of "size_of" (defScope st_f_size_of) (ad K .f_size_of) cdv A outer s H E) E := passes_call tk (fun _ _ _ _ h => h)
  have hp := passes_of (X := cxOf (L2.CX P w) P w K mg base N_f_size_of "size_of" (defScope st_f_size_of) (ad K .f_size_of) cdv A outer s H E) rfl
  have hr1 : Room (k1 + 1) _ := hr.mono hk
  exact (ss_cons (s_if (s_cmpT op_inA in_s in_n (s_var 0) (s_gtup T.g_PAIRS T.t_PAIRS) (by rfl)) (ss_one (s_ret s_int)) ss_nil) (ss_one (s_ret (s_kget T.k_LOOKS rfl T.g_LOOKS (s_var 0) (s_kget T.k_SIZES rfl T.g_SIZES (s_var 0) (s_op op_sub sub_s sub_n s_int s_int))))))
theorem ok_f_leaf_of (T : Tx K mg w) (FD : ∀ f : Fn, FDt K f (fdo f)) {n k1 : Nat} {c c1 : Fn → List D → Mu → Res D} (IH : OkAll P w K mg base fdo n c) (IH1 : OkAll P w K mg base fdo k1 c1) (hk : k1 + 1 ≤ n) :
    FnOk P w K mg base (L2.CX P w) (n + 1) (ad K .f_leaf_of) (fdo .f_leaf_of) (psOf .f_leaf_of) (spM K (G K) (body c c1 .f_leaf_of)) := by
  refine ok_def (N := N_f_leaf_of) (FD .f_leaf_of) sc_f_leaf_of (by decide) (by decide) (fun cdv A outer s H E hr => ?_)
  have tk : Takes (cxOf (L2.CX P w) P w K mg base N_f_leaf_of "leaf_of" (defScope st_f_leaf_of) (ad K .f_leaf_of) cdv A outer s H E) (fun cls d _ H => E cls d H) := takes_of rfl rfl rfl rfl
  have hx : Passes (L2.CX P w) (cxOf (L2.CX P w) P w K mg base N_f_leaf_of "leaf_of" (defScope st_f_leaf_of) (ad K .f_leaf_of) cdv A outer s H E) E := passes_call tk (fun _ _ _ _ h => h)
  have hp := passes_of (X := cxOf (L2.CX P w) P w K mg base N_f_leaf_of "leaf_of" (defScope st_f_leaf_of) (ad K .f_leaf_of) cdv A outer s H E) rfl
  have hr1 : Room (k1 + 1) _ := hr.mono hk
  exact (ss_cons (s_if (s_cmpT (op_eqA hr.units) eq_s eq_n (s_ix (s_var 0) s_int) (s_str (by decide +kernel)) (nomark _)) (ss_one (s_ret (s_and (s_cmp (op_eqA hr.units) eq_s eq_n (s_callB call_len len_s len_n rfl T.b_len PySem.boot_len (s_cons (s_var 0) s_nil)) s_int (nomark _)) (s_and (s_isi (k := .int) (s_ix (s_var 0) s_int) rfl T.b_isinstance rfl T.b_int PyProof.Rows.boot_int) (s_one (s_chain op_leA le_s le_n op_leA le_s le_n s_int (s_ix (s_var 0) s_int) (s_gint T.c_MOST_NUMBER))))))) ss_nil) (ss_cons (s_if (s_cmpT (op_eqA hr.units) eq_s eq_n (s_ix (s_var 0) s_int) (s_str (by decide +kernel)) (nomark _)) (ss_cons (s_set 1 (s_and (s_cmp (op_eqA hr.units) eq_s eq_n (s_callB call_len len_s len_n rfl T.b_len PySem.boot_len (s_cons (s_var 0) s_nil)) s_int (nomark _)) (s_and (s_isi (k := .str) (s_ix (s_var 0) s_int) rfl T.b_isinstance rfl T.b_str PyProof.Rows.boot_str) (s_one (s_cmp op_leA le_s le_n (s_callB call_len len_s len_n rfl T.b_len PySem.boot_len (s_cons (s_ix (s_var 0) s_int) s_nil)) (s_gint T.c_MOST_TEXT_signs) (nomark _))))) sc_f_leaf_of.nd) (ss_one (s_ret (s_and (s_var 1) (s_one (s_cmp (op_eqA hr.units) eq_s eq_n (s_lc (own := [("sign", 2)]) rfl sc_f_leaf_of.nd (s_ix (s_var 0) s_int) (blkOk_by (N := N_f_leaf_of) (sc := defScope (st_f_leaf_of)) (by decide +kernel)) (fun _ _ _ _ _ => pg_name (i := 2) sc_f_leaf_of.nd rfl (Or.inl rfl)) tgw_name (fun _ _ _ _ _ => (s_oneIf (s_w (s_wor (s_tnot (s_chainT op_leA le_s le_n op_leA le_s le_n (s_str (by decide +kernel)) (s_var 2) (s_str (by decide +kernel)))) (s_wor1 (s_cmpT (op_eqA hr.units) eq_s eq_n (s_var 2) (s_gstr T.c_QUOTE (by decide +kernel)) (nomark _))))))) (fun _ _ _ _ _ => (s_var 2))) (s_lst s_nil) (nomark _))))))) ss_nil) (ss_cons (s_if (s_cmpT op_inA in_s in_n (s_ix (s_var 0) s_int) (s_tup (s_cons (s_str (by decide +kernel)) (s_cons (s_str (by decide +kernel)) (s_cons (s_str (by decide +kernel)) s_nil)))) (by rfl)) (ss_one (s_ret (s_and (s_cmp (op_eqA hr.units) eq_s eq_n (s_callB call_len len_s len_n rfl T.b_len PySem.boot_len (s_cons (s_var 0) s_nil)) (s_op op_addA add_s add_n s_int (s_call (IH .f_size_of) hr rfl (T.g .f_size_of rfl) (FD .f_size_of).kp (bi_f_size_of (FD .f_size_of)) hx (s_cons (s_ix (s_var 0) s_int) s_nil))) (nomark _)) (s_one (s_call (IH .f_is_name) hr rfl (T.g .f_is_name rfl) (FD .f_is_name).kp (bi_f_is_name (FD .f_is_name)) hx (s_cons (s_ix (s_var 0) s_int) s_nil)))))) ss_nil) (ss_one (s_ret (s_cmp (op_eqA hr.units) eq_s eq_n (s_callB call_len len_s len_n rfl T.b_len PySem.boot_len (s_cons (s_var 0) s_nil)) (s_op op_addA add_s add_n s_int (s_call (IH .f_size_of) hr rfl (T.g .f_size_of rfl) (FD .f_size_of).kp (bi_f_size_of (FD .f_size_of)) hx (s_cons (s_ix (s_var 0) s_int) s_nil))) (nomark _)))))))
theorem ok_f_inner_of (T : Tx K mg w) (FD : ∀ f : Fn, FDt K f (fdo f)) {n k1 : Nat} {c c1 : Fn → List D → Mu → Res D} (IH : OkAll P w K mg base fdo n c) (IH1 : OkAll P w K mg base fdo k1 c1) (hk : k1 + 1 ≤ n) :
    FnOk P w K mg base (L2.CX P w) (n + 1) (ad K .f_inner_of) (fdo .f_inner_of) (psOf .f_inner_of) (spM K (G K) (body c c1 .f_inner_of)) := by
  refine ok_def (N := N_f_inner_of) (FD .f_inner_of) sc_f_inner_of (by decide) (by decide) (fun cdv A outer s H E hr => ?_)
  have tk : Takes (cxOf (L2.CX P w) P w K mg base N_f_inner_of "inner_of" (defScope st_f_inner_of) (ad K .f_inner_of) cdv A outer s H E) (fun cls d _ H => E cls d H) := takes_of rfl rfl rfl rfl
  have hx : Passes (L2.CX P w) (cxOf (L2.CX P w) P w K mg base N_f_inner_of "inner_of" (defScope st_f_inner_of) (ad K .f_inner_of) cdv A outer s H E) E := passes_call tk (fun _ _ _ _ h => h)
  have hp := passes_of (X := cxOf (L2.CX P w) P w K mg base N_f_inner_of "inner_of" (defScope st_f_inner_of) (ad K .f_inner_of) cdv A outer s H E) rfl
  have hr1 : Room (k1 + 1) _ := hr.mono hk
  exact (ss_cons (s_set 1 (s_call (IH .f_size_of) hr rfl (T.g .f_size_of rfl) (FD .f_size_of).kp (bi_f_size_of (FD .f_size_of)) hx (s_cons (s_ix (s_var 0) s_int) s_nil)) sc_f_inner_of.nd) (ss_one (s_ret (s_ifE (s_cmpT op_gtA gt_s gt_n (s_var 1) s_int (nomark _)) (s_callTy call_list_of list_s list_n rfl T.b_list PyProof.Rows.boot_list (s_cons (s_sl (s_var 0) (s_oSome (s_op op_sub sub_s sub_n (s_callB call_len len_s len_n rfl T.b_len PySem.boot_len (s_cons (s_var 0) s_nil)) (s_var 1))) s_oNone) s_nil)) (s_lst s_nil)))))
theorem ok_f_need_tree (T : Tx K mg w) (FD : ∀ f : Fn, FDt K f (fdo f)) {n k1 : Nat} {c c1 : Fn → List D → Mu → Res D} (IH : OkAll P w K mg base fdo n c) (IH1 : OkAll P w K mg base fdo k1 c1) (hk : k1 + 1 ≤ n) :
    FnOk P w K mg base (L2.CX P w) (n + 1) (ad K .f_need_tree) (fdo .f_need_tree) (psOf .f_need_tree) (spM K (G K) (body c c1 .f_need_tree)) := by
  refine ok_def (N := N_f_need_tree) (FD .f_need_tree) sc_f_need_tree (by decide) (by decide) (fun cdv A outer s H E hr => ?_)
  have tk : Takes (cxOf (L2.CX P w) P w K mg base N_f_need_tree "need_tree" (defScope st_f_need_tree) (ad K .f_need_tree) cdv A outer s H E) (fun cls d _ H => E cls d H) := takes_of rfl rfl rfl rfl
  have hx : Passes (L2.CX P w) (cxOf (L2.CX P w) P w K mg base N_f_need_tree "need_tree" (defScope st_f_need_tree) (ad K .f_need_tree) cdv A outer s H E) E := passes_call tk (fun _ _ _ _ h => h)
  have hp := passes_of (X := cxOf (L2.CX P w) P w K mg base N_f_need_tree "need_tree" (defScope st_f_need_tree) (ad K .f_need_tree) cdv A outer s H E) rfl
  have hr1 : Room (k1 + 1) _ := hr.mono hk
  exact (ss_cons (s_set 1 (s_make0 (c := 2) T.mk_Looker (IH1 .Looker_init) hr1 rfl T.gc_Looker (bi_Looker_init (FD .Looker_init)) hx) sc_f_need_tree.nd) (ss_cons (s_exp (s_meth (c := 2) (s_var 1) (T.cls.cls _) T.m_Looker_need (IH .Looker_need) hr (bi_Looker_need (FD .Looker_need)) hx nf_need (s_cons (s_and (s_isi (k := .tup) (s_var 0) rfl T.b_isinstance rfl T.b_tuple PyProof.Rows.boot_tuple) (s_one (s_cmp op_leA le_s le_n (s_callB call_len len_s len_n rfl T.b_len PySem.boot_len (s_cons (s_var 0) s_nil)) (s_gint T.c_MOST_RULES) (nomark _)))) s_nil))) (ss_one (s_for hp rfl (s_var 0) (pg_name (i := 2) sc_f_need_tree.nd rfl (by first | exact Or.inl rfl | exact Or.inr rfl)) tg_name (ss_one (s_exp (s_meth (c := 2) (s_var 1) (T.cls.cls _) T.m_Looker_rule (IH .Looker_rule) hr (bi_Looker_rule (FD .Looker_rule)) hx nf_rule (s_cons (s_var 2) s_nil))))))))
theorem ok_f_run_by (T : Tx K mg w) (FD : ∀ f : Fn, FDt K f (fdo f)) {n k1 : Nat} {c c1 : Fn → List D → Mu → Res D} (IH : OkAll P w K mg base fdo n c) (IH1 : OkAll P w K mg base fdo k1 c1) (hk : k1 + 1 ≤ n) :
    FnOk P w K mg base (L2.CX P w) (n + 1) (ad K .f_run_by) (fdo .f_run_by) (psOf .f_run_by) (spM K (G K) (body c c1 .f_run_by)) := by
  refine ok_def (N := N_f_run_by) (FD .f_run_by) sc_f_run_by (by decide) (by decide) (fun cdv A outer s H E hr => ?_)
  have tk : Takes (cxOf (L2.CX P w) P w K mg base N_f_run_by "run_by" (defScope st_f_run_by) (ad K .f_run_by) cdv A outer s H E) (fun cls d _ H => E cls d H) := takes_of rfl rfl rfl rfl
  have hx : Passes (L2.CX P w) (cxOf (L2.CX P w) P w K mg base N_f_run_by "run_by" (defScope st_f_run_by) (ad K .f_run_by) cdv A outer s H E) E := passes_call tk (fun _ _ _ _ h => h)
  have hp := passes_of (X := cxOf (L2.CX P w) P w K mg base N_f_run_by "run_by" (defScope st_f_run_by) (ad K .f_run_by) cdv A outer s H E) rfl
  have hr1 : Room (k1 + 1) _ := hr.mono hk
  exact (ss_cons (s_set 2 (s_meth0 (c := 3) (s_var 0) (T.cls.cls _) T.m_Desk_begin (IH .Desk_begin) hr (bi_Desk_begin (FD .Desk_begin)) hx nf_begin) sc_f_run_by.nd) (ss_cons (s_for hp rfl (s_var 1) (pg_name (i := 3) sc_f_run_by.nd rfl (by first | exact Or.inl rfl | exact Or.inr rfl)) tg_name (ss_cons (s_exp (s_meth0 (c := 3) (s_var 0) (T.cls.cls _) T.m_Desk_file (IH .Desk_file) hr (bi_Desk_file (FD .Desk_file)) hx nf_file)) (ss_one (s_for hp rfl (s_call (IH .f_lines_of) hr rfl (T.g .f_lines_of rfl) (FD .f_lines_of).kp (bi_f_lines_of (FD .f_lines_of)) hx (s_cons (s_var 3) s_nil)) (pg_name (i := 4) sc_f_run_by.nd rfl (by first | exact Or.inl rfl | exact Or.inr rfl)) tg_name (ss_one (s_exp (s_ext (s_var 2) (s_meth (c := 3) (s_var 0) (T.cls.cls _) T.m_Desk_line (IH .Desk_line) hr (bi_Desk_line (FD .Desk_line)) hx nf_line (s_cons (s_var 4) s_nil))))))))) (ss_one (s_ret (s_op op_addA add_s add_n (s_var 2) (s_meth0 (c := 3) (s_var 0) (T.cls.cls _) T.m_Desk_end (IH .Desk_end) hr (bi_Desk_end (FD .Desk_end)) hx nf_end))))))
theorem ok_f_run (T : Tx K mg w) (FD : ∀ f : Fn, FDt K f (fdo f)) {n k1 : Nat} {c c1 : Fn → List D → Mu → Res D} (IH : OkAll P w K mg base fdo n c) (IH1 : OkAll P w K mg base fdo k1 c1) (hk : k1 + 1 ≤ n) :
    FnOk P w K mg base (L2.CX P w) (n + 1) (ad K .f_run) (fdo .f_run) (psOf .f_run) (spM K (G K) (body c c1 .f_run)) := by
  refine ok_def (N := N_f_run) (FD .f_run) sc_f_run (by decide) (by decide) (fun cdv A outer s H E hr => ?_)
  have tk : Takes (cxOf (L2.CX P w) P w K mg base N_f_run "run" (defScope st_f_run) (ad K .f_run) cdv A outer s H E) (fun cls d _ H => E cls d H) := takes_of rfl rfl rfl rfl
  have hx : Passes (L2.CX P w) (cxOf (L2.CX P w) P w K mg base N_f_run "run" (defScope st_f_run) (ad K .f_run) cdv A outer s H E) E := passes_call tk (fun _ _ _ _ h => h)
  have hp := passes_of (X := cxOf (L2.CX P w) P w K mg base N_f_run "run" (defScope st_f_run) (ad K .f_run) cdv A outer s H E) rfl
  have hr1 : Room (k1 + 1) _ := hr.mono hk
  exact (ss_one (s_ret (s_call (IH .f_run_by) hr rfl (T.g .f_run_by rfl) (FD .f_run_by).kp (bi_f_run_by (FD .f_run_by)) hx (s_cons (s_make (c := 3) T.mk_Desk (IH1 .Desk_init) hr1 rfl T.gc_Desk (bi_Desk_init (FD .Desk_init)) hx (s_cons (s_var 0) s_nil)) (s_cons (s_var 1) s_nil)))))
theorem ok_f_law_start (T : Tx K mg w) (FD : ∀ f : Fn, FDt K f (fdo f)) {n k1 : Nat} {c c1 : Fn → List D → Mu → Res D} (IH : OkAll P w K mg base fdo n c) (IH1 : OkAll P w K mg base fdo k1 c1) (hk : k1 + 1 ≤ n) :
    FnOk P w K mg base (L2.CX P w) (n + 1) (ad K .f_law_start) (fdo .f_law_start) (psOf .f_law_start) (spM K (G K) (body c c1 .f_law_start)) := by
  refine ok_def (N := N_f_law_start) (FD .f_law_start) sc_f_law_start (by decide) (by decide) (fun cdv A outer s H E hr => ?_)
  have tk : Takes (cxOf (L2.CX P w) P w K mg base N_f_law_start "_law_start" (defScope st_f_law_start) (ad K .f_law_start) cdv A outer s H E) (fun cls d _ H => E cls d H) := takes_of rfl rfl rfl rfl
  have hx : Passes (L2.CX P w) (cxOf (L2.CX P w) P w K mg base N_f_law_start "_law_start" (defScope st_f_law_start) (ad K .f_law_start) cdv A outer s H E) E := passes_call tk (fun _ _ _ _ h => h)
  have hp := passes_of (X := cxOf (L2.CX P w) P w K mg base N_f_law_start "_law_start" (defScope st_f_law_start) (ad K .f_law_start) cdv A outer s H E) rfl
  have hr1 : Room (k1 + 1) _ := hr.mono hk
  exact (ss_cons (s_set 1 s_int sc_f_law_start.nd) (ss_cons (s_for hp rfl (s_var 0) (pg_name (i := 2) sc_f_law_start.nd rfl (by first | exact Or.inl rfl | exact Or.inr rfl)) tg_name (ss_one (s_set 1 (s_op op_modN mod_s mod_n (s_op op_addA add_s add_n (s_op op_addA add_s add_n (s_op op_mulA mul_s mul_n (s_var 1) s_int) (s_var 2)) s_int) s_int) sc_f_law_start.nd))) (ss_one (s_ret (s_lst (s_cons (s_var 0) (s_cons s_int (s_cons (s_var 1) (s_cons s_int s_nil)))))))))
theorem ok_f_law_drawn (T : Tx K mg w) (FD : ∀ f : Fn, FDt K f (fdo f)) {n k1 : Nat} {c c1 : Fn → List D → Mu → Res D} (IH : OkAll P w K mg base fdo n c) (IH1 : OkAll P w K mg base fdo k1 c1) (hk : k1 + 1 ≤ n) :
    FnOk P w K mg base (L2.CX P w) (n + 1) (ad K .f_law_drawn) (fdo .f_law_drawn) (psOf .f_law_drawn) (spM K (G K) (body c c1 .f_law_drawn)) := by
  refine ok_def (N := N_f_law_drawn) (FD .f_law_drawn) sc_f_law_drawn (by decide) (by decide) (fun cdv A outer s H E hr => ?_)
  have tk : Takes (cxOf (L2.CX P w) P w K mg base N_f_law_drawn "_law_drawn" (defScope st_f_law_drawn) (ad K .f_law_drawn) cdv A outer s H E) (fun cls d _ H => E cls d H) := takes_of rfl rfl rfl rfl
  have hx : Passes (L2.CX P w) (cxOf (L2.CX P w) P w K mg base N_f_law_drawn "_law_drawn" (defScope st_f_law_drawn) (ad K .f_law_drawn) cdv A outer s H E) E := passes_call tk (fun _ _ _ _ h => h)
  have hp := passes_of (X := cxOf (L2.CX P w) P w K mg base N_f_law_drawn "_law_drawn" (defScope st_f_law_drawn) (ad K .f_law_drawn) cdv A outer s H E) rfl
  have hr1 : Room (k1 + 1) _ := hr.mono hk
  exact (ss_cons (s_if (s_cmpT op_gtA gt_s gt_n (s_ix (s_var 0) s_int) s_int (nomark _)) (ss_cons (s_set 2 (s_op op_modN mod_s mod_n (s_ix (s_var 0) s_int) (s_var 1)) sc_f_law_drawn.nd) (ss_cons (s_putLA (s_var 0) s_int (s_op op_fdivN fdiv_s fdiv_n (s_ix (s_var 0) s_int) (s_var 1))) (ss_one (s_ret (s_var 2))))) ss_nil) (ss_cons (s_putLA (s_var 0) s_int (s_op op_addA add_s add_n (s_ix (s_var 0) s_int) s_int)) (ss_cons (s_if (s_cmpT op_leA le_s le_n (s_ix (s_var 0) s_int) (s_callB call_len len_s len_n rfl T.b_len PySem.boot_len (s_cons (s_ix (s_var 0) s_int) s_nil)) (nomark _)) (ss_cons (s_set 3 (s_ix (s_ix (s_var 0) s_int) (s_op op_sub sub_s sub_n (s_ix (s_var 0) s_int) s_int)) sc_f_law_drawn.nd) (ss_cons (s_putLA (s_var 0) s_int (s_ifE (s_cmpT op_geA ge_s ge_n (s_var 3) (s_op op_pow pow_s pow_n s_int s_int) (nomark _)) (s_op op_fdivN fdiv_s fdiv_n (s_var 3) (s_var 1)) s_int)) (ss_one (s_ret (s_op op_modN mod_s mod_n (s_var 3) (s_var 1)))))) ss_nil) (ss_cons (s_putLA (s_var 0) s_int (s_op op_modN mod_s mod_n (s_op op_addA add_s add_n (s_op op_mulA mul_s mul_n (s_ix (s_var 0) s_int) s_int) s_int) s_int)) (ss_one (s_ret (s_op op_modN mod_s mod_n (s_op op_fdivN fdiv_s fdiv_n (s_ix (s_var 0) s_int) s_int) (s_var 1))))))))
theorem ok_f_law_leaf (T : Tx K mg w) (FD : ∀ f : Fn, FDt K f (fdo f)) {n k1 : Nat} {c c1 : Fn → List D → Mu → Res D} (IH : OkAll P w K mg base fdo n c) (IH1 : OkAll P w K mg base fdo k1 c1) (hk : k1 + 1 ≤ n) :
    FnOk P w K mg base (L2.CX P w) (n + 1) (ad K .f_law_leaf) (fdo .f_law_leaf) (psOf .f_law_leaf) (spM K (G K) (body c c1 .f_law_leaf)) := by
  refine ok_def (N := N_f_law_leaf) (FD .f_law_leaf) sc_f_law_leaf (by decide) (by decide) (fun cdv A outer s H E hr => ?_)
  have tk : Takes (cxOf (L2.CX P w) P w K mg base N_f_law_leaf "_law_leaf" (defScope st_f_law_leaf) (ad K .f_law_leaf) cdv A outer s H E) (fun cls d _ H => E cls d H) := takes_of rfl rfl rfl rfl
  have hx : Passes (L2.CX P w) (cxOf (L2.CX P w) P w K mg base N_f_law_leaf "_law_leaf" (defScope st_f_law_leaf) (ad K .f_law_leaf) cdv A outer s H E) E := passes_call tk (fun _ _ _ _ h => h)
  have hp := passes_of (X := cxOf (L2.CX P w) P w K mg base N_f_law_leaf "_law_leaf" (defScope st_f_law_leaf) (ad K .f_law_leaf) cdv A outer s H E) rfl
  have hr1 : Room (k1 + 1) _ := hr.mono hk
  exact (ss_cons (s_set 1 (s_ix (s_lst (s_cons (s_call (IH .f_law_drawn) hr rfl (T.g .f_law_drawn rfl) (FD .f_law_drawn).kp (bi_f_law_drawn (FD .f_law_drawn)) hx (s_cons (s_var 0) (s_cons s_int s_nil))) (s_cons (s_call (IH .f_law_drawn) hr rfl (T.g .f_law_drawn rfl) (FD .f_law_drawn).kp (bi_f_law_drawn (FD .f_law_drawn)) hx (s_cons (s_var 0) (s_cons s_int s_nil))) s_nil))) (s_call (IH .f_law_drawn) hr rfl (T.g .f_law_drawn rfl) (FD .f_law_drawn).kp (bi_f_law_drawn (FD .f_law_drawn)) hx (s_cons (s_var 0) (s_cons s_int s_nil)))) sc_f_law_leaf.nd) (ss_cons (s_set 2 (s_lst (s_cons (s_tup (s_cons (s_str (by decide +kernel)) (s_cons (s_var 1) s_nil))) (s_cons (s_tup (s_cons (s_str (by decide +kernel)) (s_cons (s_tup (s_cons (s_str (by decide +kernel)) (s_cons (s_var 1) s_nil))) s_nil))) (s_cons (s_tup (s_cons (s_str (by decide +kernel)) (s_cons (s_callTy call_str_int str_s str_n rfl T.b_str PyProof.Rows.boot_str (s_cons (s_var 1) s_nil)) s_nil))) (s_cons (s_tup (s_cons (s_str (by decide +kernel)) (s_cons (s_op op_addA add_s add_n (s_str (by decide +kernel)) (s_callTy call_str_int str_s str_n rfl T.b_str PyProof.Rows.boot_str (s_cons (s_var 1) s_nil))) s_nil))) s_nil))))) sc_f_law_leaf.nd) (ss_one (s_ret (s_ix (s_var 2) (s_call (IH .f_law_drawn) hr rfl (T.g .f_law_drawn rfl) (FD .f_law_drawn).kp (bi_f_law_drawn (FD .f_law_drawn)) hx (s_cons (s_var 0) (s_cons s_int s_nil))))))))
theorem ok_f_law (T : Tx K mg w) (FD : ∀ f : Fn, FDt K f (fdo f)) {n k1 : Nat} {c c1 : Fn → List D → Mu → Res D} (IH : OkAll P w K mg base fdo n c) (IH1 : OkAll P w K mg base fdo k1 c1) (hk : k1 + 1 ≤ n) :
    FnOk P w K mg base (L2.CX P w) (n + 1) (ad K .f_law) (fdo .f_law) (psOf .f_law) (spM K (G K) (body c c1 .f_law)) := by
  refine ok_def (N := N_f_law) (FD .f_law) sc_f_law (by decide) (by decide) (fun cdv A outer s H E hr => ?_)
  have tk : Takes (cxOf (L2.CX P w) P w K mg base N_f_law "law" (defScope st_f_law) (ad K .f_law) cdv A outer s H E) (fun cls d _ H => E cls d H) := takes_of rfl rfl rfl rfl
  have hx : Passes (L2.CX P w) (cxOf (L2.CX P w) P w K mg base N_f_law "law" (defScope st_f_law) (ad K .f_law) cdv A outer s H E) E := passes_call tk (fun _ _ _ _ h => h)
  have hp := passes_of (X := cxOf (L2.CX P w) P w K mg base N_f_law "law" (defScope st_f_law) (ad K .f_law) cdv A outer s H E) rfl
  have hr1 : Room (k1 + 1) _ := hr.mono hk
  exact (ss_cons (s_set 1 (s_call (IH .f_law_start) hr rfl (T.g .f_law_start rfl) (FD .f_law_start).kp (bi_f_law_start (FD .f_law_start)) hx (s_cons (s_var 0) s_nil)) sc_f_law.nd) (ss_cons (s_forR1 hp rfl rfl T.b_range (s_cons s_int s_nil) (pg_name (i := 2) sc_f_law.nd rfl (by first | exact Or.inl rfl | exact Or.inr rfl)) tg_name (ss_cons (s_parA3 sc_f_law.nd (s_cons (s_call (IH .f_law_leaf) hr rfl (T.g .f_law_leaf rfl) (FD .f_law_leaf).kp (bi_f_law_leaf (FD .f_law_leaf)) hx (s_cons (s_var 1) s_nil)) (s_cons (s_call (IH .f_law_leaf) hr rfl (T.g .f_law_leaf rfl) (FD .f_law_leaf).kp (bi_f_law_leaf (FD .f_law_leaf)) hx (s_cons (s_var 1) s_nil)) (s_cons (s_call (IH .f_law_leaf) hr rfl (T.g .f_law_leaf rfl) (FD .f_law_leaf).kp (bi_f_law_leaf (FD .f_law_leaf)) hx (s_cons (s_var 1) s_nil)) s_nil)))) (ss_cons (s_set 6 (s_lst (s_cons (s_tup (s_cons (s_tup (s_cons (s_str (by decide +kernel)) (s_cons (s_tup (s_cons (s_str (by decide +kernel)) (s_cons (s_var 3) (s_cons (s_var 4) s_nil)))) (s_cons (s_var 5) s_nil)))) (s_cons (s_tup (s_cons (s_str (by decide +kernel)) (s_cons (s_var 3) (s_cons (s_tup (s_cons (s_str (by decide +kernel)) (s_cons (s_var 5) (s_cons (s_var 4) s_nil)))) s_nil)))) s_nil))) (s_cons (s_tup (s_cons (s_tup (s_cons (s_str (by decide +kernel)) (s_cons (s_var 3) (s_cons (s_var 4) s_nil)))) (s_cons (s_tup (s_cons (s_str (by decide +kernel)) (s_cons (s_var 4) (s_cons (s_var 3) s_nil)))) s_nil))) s_nil))) sc_f_law.nd) (ss_cons (s_exp (s_app (s_var 6) (s_tup (s_cons (s_tup (s_cons (s_str (by decide +kernel)) (s_cons (s_tup (s_cons (s_str (by decide +kernel)) (s_cons (s_var 3) (s_cons (s_var 4) s_nil)))) (s_cons (s_var 5) s_nil)))) (s_cons (s_tup (s_cons (s_str (by decide +kernel)) (s_cons (s_var 3) (s_cons (s_tup (s_cons (s_str (by decide +kernel)) (s_cons (s_var 4) (s_cons (s_var 5) s_nil)))) s_nil)))) s_nil))))) (ss_cons (s_exp (s_app (s_var 6) (s_tup (s_cons (s_tup (s_cons (s_str (by decide +kernel)) (s_cons (s_var 3) (s_cons (s_tup (s_cons (s_str (by decide +kernel)) (s_cons (s_var 4) (s_cons (s_var 5) s_nil)))) s_nil)))) (s_cons (s_tup (s_cons (s_str (by decide +kernel)) (s_cons (s_tup (s_cons (s_str (by decide +kernel)) (s_cons (s_var 3) (s_cons (s_var 4) s_nil)))) (s_cons (s_tup (s_cons (s_str (by decide +kernel)) (s_cons (s_var 3) (s_cons (s_var 5) s_nil)))) s_nil)))) s_nil))))) (ss_cons (s_exp (s_app (s_var 6) (s_tup (s_cons (s_tup (s_cons (s_str (by decide +kernel)) (s_cons (s_var 3) (s_cons (s_var 4) s_nil)))) (s_cons (s_tup (s_cons (s_str (by decide +kernel)) (s_cons (s_var 3) (s_cons (s_tup (s_cons (s_str (by decide +kernel)) (s_cons (s_var 4) s_nil))) s_nil)))) s_nil))))) (ss_cons (s_exp (s_app (s_var 6) (s_tup (s_cons (s_tup (s_cons (s_str (by decide +kernel)) (s_cons (s_tup (s_cons (s_str (by decide +kernel)) (s_cons (s_var 3) s_nil))) s_nil))) (s_cons (s_tup (s_cons (s_str (by decide +kernel)) (s_cons (s_var 3) (s_cons (s_tup (s_cons (s_str (by decide +kernel)) (s_cons s_int s_nil))) s_nil)))) s_nil))))) (ss_cons (s_set 7 (s_tup (s_cons (s_str (by decide +kernel)) (s_cons (s_tup (s_cons (s_str (by decide +kernel)) (s_cons (s_tup (s_cons (s_str (by decide +kernel)) (s_cons (s_var 3) (s_cons (s_var 4) s_nil)))) (s_cons (s_var 4) s_nil)))) (s_cons (s_tup (s_cons (s_str (by decide +kernel)) (s_cons (s_var 3) (s_cons (s_var 4) s_nil)))) s_nil)))) sc_f_law.nd) (ss_cons (s_set 8 (s_tup (s_cons (s_str (by decide +kernel)) (s_cons (s_tup (s_cons (s_str (by decide +kernel)) (s_cons (s_tup (s_cons (s_str (by decide +kernel)) (s_cons (s_var 4) (s_cons (s_tup (s_cons (s_str (by decide +kernel)) (s_cons s_int s_nil))) s_nil)))) (s_cons (s_tup (s_cons (s_str (by decide +kernel)) (s_cons s_int s_nil))) s_nil)))) (s_cons (s_tup (s_cons (s_tup (s_cons (s_str (by decide +kernel)) (s_cons (s_tup (s_cons (s_var 7) (s_cons (s_tup (s_cons (s_str (by decide +kernel)) (s_cons (s_var 3) (s_cons (s_tup (s_cons (s_str (by decide +kernel)) (s_cons s_int s_nil))) s_nil)))) s_nil))) s_nil))) s_nil)) (s_cons (s_tup s_nil) s_nil))))) sc_f_law.nd) (ss_cons (s_set 9 (s_op op_addA add_s add_n (s_callTy call_tuple_of tuple_s tuple_n rfl T.b_tuple PyProof.Rows.boot_tuple (s_cons (s_lc (own := [("_law_pair", 10)]) rfl sc_f_law.nd (s_var 6) (blkOk_by (N := N_f_law) (sc := defScope (st_f_law)) (by decide +kernel)) (fun _ _ _ _ _ => pg_name (i := 10) sc_f_law.nd rfl (Or.inl rfl)) tgw_name (fun _ _ _ _ _ => s_noIf) (fun _ _ _ _ _ => (s_tup (s_cons (s_str (by decide +kernel)) (s_cons (s_var 10) s_nil))))) s_nil)) (s_tup (s_cons (s_var 8) s_nil))) sc_f_law.nd) (ss_one (s_for hp rfl (s_call (IH .f_run) hr rfl (T.g .f_run rfl) (FD .f_run).kp (bi_f_run (FD .f_run)) hx (s_cons (s_tup (s_cons (s_tup (s_cons (s_str (by decide +kernel)) (s_cons (s_var 9) s_nil))) s_nil)) (s_cons (s_lst s_nil) s_nil))) (pg_name (i := 11) sc_f_law.nd rfl (by first | exact Or.inl rfl | exact Or.inr rfl)) tg_name (ss_cons (s_set 12 (s_m1 PySem.F.slot_str_split PySem.F.type_str_split mt_splitA split_s split_n (s_var 11) (s_str (by decide +kernel))) sc_f_law.nd) (ss_one (s_if (s_w (s_wor (s_cmpT (op_neA hr.units) ne_s ne_n (s_callB call_len len_s len_n rfl T.b_len PySem.boot_len (s_cons (s_var 12) s_nil)) s_int (nomark _)) (s_wor1 (s_cmpT (op_neA hr.units) ne_s ne_n (s_ix (s_var 12) s_int) (s_ix (s_var 12) s_int) (nomark _))))) (ss_one (s_ret s_bl)) ss_nil))))))))))))))) (ss_one (s_ret s_bl))))
theorem ok_Line_init (T : Tx K mg w) (FD : ∀ f : Fn, FDt K f (fdo f)) {n k1 : Nat} {c c1 : Fn → List D → Mu → Res D} (IH : OkAll P w K mg base fdo n c) (IH1 : OkAll P w K mg base fdo k1 c1) (hk : k1 + 1 ≤ n) :
    FnOk P w K mg base (L2.CX P w) (n + 1) (ad K .Line_init) (fdo .Line_init) (psOf .Line_init) (spM K (G K) (body c c1 .Line_init)) := by
  refine ok_def (N := N_Line_init) (FD .Line_init) sc_Line_init (by decide) (by decide) (fun cdv A outer s H E hr => ?_)
  have tk : Takes (cxOf (L2.CX P w) P w K mg base N_Line_init "Line.__init__" (defScope st_Line_init) (ad K .Line_init) cdv A outer s H E) (fun cls d _ H => E cls d H) := takes_of rfl rfl rfl rfl
  have hx : Passes (L2.CX P w) (cxOf (L2.CX P w) P w K mg base N_Line_init "Line.__init__" (defScope st_Line_init) (ad K .Line_init) cdv A outer s H E) E := passes_call tk (fun _ _ _ _ h => h)
  have hp := passes_of (X := cxOf (L2.CX P w) P w K mg base N_Line_init "Line.__init__" (defScope st_Line_init) (ad K .Line_init) cdv A outer s H E) rfl
  have hr1 : Room (k1 + 1) _ := hr.mono hk
  exact (ss_cons (s_sfld T.cls (ltF rfl) rfl (s_var 0) (s_call (IH .f_cut) hr rfl (T.g .f_cut rfl) (FD .f_cut).kp (bi_f_cut (FD .f_cut)) hx (s_cons (s_var 1) s_nil))) (ss_one (s_sfld T.cls (ltF rfl) rfl (s_var 0) (s_lc (own := [("word", 2)]) rfl sc_Line_init.nd (s_m1 PySem.F.slot_str_split PySem.F.type_str_split mt_splitA split_s split_n (s_fld (T.cls) (ltF rfl) rfl (s_var 0)) (s_gstr T.c_GAP (by decide +kernel))) (blkOk_by (N := N_Line_init) (sc := defScope (st_Line_init)) (by decide +kernel)) (fun _ _ _ _ _ => pg_name (i := 2) sc_Line_init.nd rfl (Or.inl rfl)) tgw_name (fun _ _ _ _ _ => (s_oneIf (s_cmpT (op_neA hr.units) ne_s ne_n (s_var 2) (s_str (by decide +kernel)) (nomark _)))) (fun _ _ _ _ _ => (s_var 2))))))
theorem ok_Line_field (T : Tx K mg w) (FD : ∀ f : Fn, FDt K f (fdo f)) {n k1 : Nat} {c c1 : Fn → List D → Mu → Res D} (IH : OkAll P w K mg base fdo n c) (IH1 : OkAll P w K mg base fdo k1 c1) (hk : k1 + 1 ≤ n) :
    FnOk P w K mg base (L2.CX P w) (n + 1) (ad K .Line_field) (fdo .Line_field) (psOf .Line_field) (spM K (G K) (body c c1 .Line_field)) := by
  refine ok_def (N := N_Line_field) (FD .Line_field) sc_Line_field (by decide) (by decide) (fun cdv A outer s H E hr => ?_)
  have tk : Takes (cxOf (L2.CX P w) P w K mg base N_Line_field "Line.field" (defScope st_Line_field) (ad K .Line_field) cdv A outer s H E) (fun cls d _ H => E cls d H) := takes_of rfl rfl rfl rfl
  have hx : Passes (L2.CX P w) (cxOf (L2.CX P w) P w K mg base N_Line_field "Line.field" (defScope st_Line_field) (ad K .Line_field) cdv A outer s H E) E := passes_call tk (fun _ _ _ _ h => h)
  have hp := passes_of (X := cxOf (L2.CX P w) P w K mg base N_Line_field "Line.field" (defScope st_Line_field) (ad K .Line_field) cdv A outer s H E) rfl
  have hr1 : Room (k1 + 1) _ := hr.mono hk
  exact ss_bad
theorem ok_State_init (T : Tx K mg w) (FD : ∀ f : Fn, FDt K f (fdo f)) {n k1 : Nat} {c c1 : Fn → List D → Mu → Res D} (IH : OkAll P w K mg base fdo n c) (IH1 : OkAll P w K mg base fdo k1 c1) (hk : k1 + 1 ≤ n) :
    FnOk P w K mg base (L2.CX P w) (n + 1) (ad K .State_init) (fdo .State_init) (psOf .State_init) (spM K (G K) (body c c1 .State_init)) := by
  refine ok_def (N := N_State_init) (FD .State_init) sc_State_init (by decide) (by decide) (fun cdv A outer s H E hr => ?_)
  have tk : Takes (cxOf (L2.CX P w) P w K mg base N_State_init "State.__init__" (defScope st_State_init) (ad K .State_init) cdv A outer s H E) (fun cls d _ H => E cls d H) := takes_of rfl rfl rfl rfl
  have hx : Passes (L2.CX P w) (cxOf (L2.CX P w) P w K mg base N_State_init "State.__init__" (defScope st_State_init) (ad K .State_init) cdv A outer s H E) E := passes_call tk (fun _ _ _ _ h => h)
  have hp := passes_of (X := cxOf (L2.CX P w) P w K mg base N_State_init "State.__init__" (defScope st_State_init) (ad K .State_init) cdv A outer s H E) rfl
  have hr1 : Room (k1 + 1) _ := hr.mono hk
  exact (ss_cons (s_sfld T.cls (ltF rfl) rfl (s_var 0) (s_gstr T.c_FRESH (by decide +kernel))) (ss_cons (s_sfld T.cls (ltF rfl) rfl (s_var 0) s_bl) (ss_cons (s_sfld T.cls (ltF rfl) rfl (s_var 0) s_dict0) (ss_cons (s_sfld T.cls (ltF rfl) rfl (s_var 0) s_dict0) (ss_cons (s_sfld T.cls (ltF rfl) rfl (s_var 0) (s_op op_mulA mul_s mul_n (s_lst (s_cons s_bl s_nil)) (s_var 1))) (ss_cons (s_sfld T.cls (ltF rfl) rfl (s_var 0) (s_make (c := 0) T.mk_Line (IH1 .Line_init) hr1 rfl T.gc_Line (bi_Line_init (FD .Line_init)) hx (s_cons (s_str (by decide +kernel)) s_nil))) (ss_cons (s_sfld T.cls (ltF rfl) rfl (s_var 0) s_int) (ss_cons (s_sfld T.cls (ltF rfl) rfl (s_var 0) s_int) (ss_cons (s_sfld T.cls (ltF rfl) rfl (s_var 0) s_int) (ss_one (s_sfld T.cls (ltF rfl) rfl (s_var 0) (s_lst s_nil))))))))))))
theorem ok_State_need (T : Tx K mg w) (FD : ∀ f : Fn, FDt K f (fdo f)) {n k1 : Nat} {c c1 : Fn → List D → Mu → Res D} (IH : OkAll P w K mg base fdo n c) (IH1 : OkAll P w K mg base fdo k1 c1) (hk : k1 + 1 ≤ n) :
    FnOk P w K mg base (L2.CX P w) (n + 1) (ad K .State_need) (fdo .State_need) (psOf .State_need) (spM K (G K) (body c c1 .State_need)) := by
  refine ok_def (N := N_State_need) (FD .State_need) sc_State_need (by decide) (by decide) (fun cdv A outer s H E hr => ?_)
  have tk : Takes (cxOf (L2.CX P w) P w K mg base N_State_need "State.need" (defScope st_State_need) (ad K .State_need) cdv A outer s H E) (fun cls d _ H => E cls d H) := takes_of rfl rfl rfl rfl
  have hx : Passes (L2.CX P w) (cxOf (L2.CX P w) P w K mg base N_State_need "State.need" (defScope st_State_need) (ad K .State_need) cdv A outer s H E) E := passes_call tk (fun _ _ _ _ h => h)
  have hp := passes_of (X := cxOf (L2.CX P w) P w K mg base N_State_need "State.need" (defScope st_State_need) (ad K .State_need) cdv A outer s H E) rfl
  have hr1 : Room (k1 + 1) _ := hr.mono hk
  exact (ss_one (s_if (s_cmpT (op_neA hr.units) ne_s ne_n (s_fld (T.cls) (ltF rfl) rfl (s_var 0)) (s_var 1) (nomark _)) (ss_one (s_raise (c := 2) rfl tk PySem.F.excBase_ValueError T.x_Ended T.gx_Ended T.kx_Ended (raises_own T.bx_Ended T.tx_Ended) rfl)) ss_nil))
theorem ok_State_taken (T : Tx K mg w) (FD : ∀ f : Fn, FDt K f (fdo f)) {n k1 : Nat} {c c1 : Fn → List D → Mu → Res D} (IH : OkAll P w K mg base fdo n c) (IH1 : OkAll P w K mg base fdo k1 c1) (hk : k1 + 1 ≤ n) :
    FnOk P w K mg base (L2.CX P w) (n + 1) (ad K .State_taken) (fdo .State_taken) (psOf .State_taken) (spM K (G K) (body c c1 .State_taken)) := by
  refine ok_def (N := N_State_taken) (FD .State_taken) sc_State_taken (by decide) (by decide) (fun cdv A outer s H E hr => ?_)
  have tk : Takes (cxOf (L2.CX P w) P w K mg base N_State_taken "State.taken" (defScope st_State_taken) (ad K .State_taken) cdv A outer s H E) (fun cls d _ H => E cls d H) := takes_of rfl rfl rfl rfl
  have hx : Passes (L2.CX P w) (cxOf (L2.CX P w) P w K mg base N_State_taken "State.taken" (defScope st_State_taken) (ad K .State_taken) cdv A outer s H E) E := passes_call tk (fun _ _ _ _ h => h)
  have hp := passes_of (X := cxOf (L2.CX P w) P w K mg base N_State_taken "State.taken" (defScope st_State_taken) (ad K .State_taken) cdv A outer s H E) rfl
  have hr1 : Room (k1 + 1) _ := hr.mono hk
  exact (ss_cons (s_set 1 (s_fld (T.cls) (ltF rfl) rfl (s_var 0)) sc_State_taken.nd) (ss_cons (s_sfld T.cls (ltF rfl) rfl (s_var 0) (s_lst s_nil)) (ss_one (s_ret (s_var 1)))))
theorem ok_State_bare (T : Tx K mg w) (FD : ∀ f : Fn, FDt K f (fdo f)) {n k1 : Nat} {c c1 : Fn → List D → Mu → Res D} (IH : OkAll P w K mg base fdo n c) (IH1 : OkAll P w K mg base fdo k1 c1) (hk : k1 + 1 ≤ n) :
    FnOk P w K mg base (L2.CX P w) (n + 1) (ad K .State_bare) (fdo .State_bare) (psOf .State_bare) (spM K (G K) (body c c1 .State_bare)) := by
  refine ok_def (N := N_State_bare) (FD .State_bare) sc_State_bare (by decide) (by decide) (fun cdv A outer s H E hr => ?_)
  have tk : Takes (cxOf (L2.CX P w) P w K mg base N_State_bare "State.bare" (defScope st_State_bare) (ad K .State_bare) cdv A outer s H E) (fun cls d _ H => E cls d H) := takes_of rfl rfl rfl rfl
  have hx : Passes (L2.CX P w) (cxOf (L2.CX P w) P w K mg base N_State_bare "State.bare" (defScope st_State_bare) (ad K .State_bare) cdv A outer s H E) E := passes_call tk (fun _ _ _ _ h => h)
  have hp := passes_of (X := cxOf (L2.CX P w) P w K mg base N_State_bare "State.bare" (defScope st_State_bare) (ad K .State_bare) cdv A outer s H E) rfl
  have hr1 : Room (k1 + 1) _ := hr.mono hk
  exact ss_bad
theorem ok_State_entry (T : Tx K mg w) (FD : ∀ f : Fn, FDt K f (fdo f)) {n k1 : Nat} {c c1 : Fn → List D → Mu → Res D} (IH : OkAll P w K mg base fdo n c) (IH1 : OkAll P w K mg base fdo k1 c1) (hk : k1 + 1 ≤ n) :
    FnOk P w K mg base (L2.CX P w) (n + 1) (ad K .State_entry) (fdo .State_entry) (psOf .State_entry) (spM K (G K) (body c c1 .State_entry)) := by
  refine ok_def (N := N_State_entry) (FD .State_entry) sc_State_entry (by decide) (by decide) (fun cdv A outer s H E hr => ?_)
  have tk : Takes (cxOf (L2.CX P w) P w K mg base N_State_entry "State.entry" (defScope st_State_entry) (ad K .State_entry) cdv A outer s H E) (fun cls d _ H => E cls d H) := takes_of rfl rfl rfl rfl
  have hx : Passes (L2.CX P w) (cxOf (L2.CX P w) P w K mg base N_State_entry "State.entry" (defScope st_State_entry) (ad K .State_entry) cdv A outer s H E) E := passes_call tk (fun _ _ _ _ h => h)
  have hp := passes_of (X := cxOf (L2.CX P w) P w K mg base N_State_entry "State.entry" (defScope st_State_entry) (ad K .State_entry) cdv A outer s H E) rfl
  have hr1 : Room (k1 + 1) _ := hr.mono hk
  exact ss_bad
theorem ok_State_put (T : Tx K mg w) (FD : ∀ f : Fn, FDt K f (fdo f)) {n k1 : Nat} {c c1 : Fn → List D → Mu → Res D} (IH : OkAll P w K mg base fdo n c) (IH1 : OkAll P w K mg base fdo k1 c1) (hk : k1 + 1 ≤ n) :
    FnOk P w K mg base (L2.CX P w) (n + 1) (ad K .State_put) (fdo .State_put) (psOf .State_put) (spM K (G K) (body c c1 .State_put)) := by
  refine ok_def (N := N_State_put) (FD .State_put) sc_State_put (by decide) (by decide) (fun cdv A outer s H E hr => ?_)
  have tk : Takes (cxOf (L2.CX P w) P w K mg base N_State_put "State.put" (defScope st_State_put) (ad K .State_put) cdv A outer s H E) (fun cls d _ H => E cls d H) := takes_of rfl rfl rfl rfl
  have hx : Passes (L2.CX P w) (cxOf (L2.CX P w) P w K mg base N_State_put "State.put" (defScope st_State_put) (ad K .State_put) cdv A outer s H E) E := passes_call tk (fun _ _ _ _ h => h)
  have hp := passes_of (X := cxOf (L2.CX P w) P w K mg base N_State_put "State.put" (defScope st_State_put) (ad K .State_put) cdv A outer s H E) rfl
  have hr1 : Room (k1 + 1) _ := hr.mono hk
  exact ss_bad
theorem ok_State_drop (T : Tx K mg w) (FD : ∀ f : Fn, FDt K f (fdo f)) {n k1 : Nat} {c c1 : Fn → List D → Mu → Res D} (IH : OkAll P w K mg base fdo n c) (IH1 : OkAll P w K mg base fdo k1 c1) (hk : k1 + 1 ≤ n) :
    FnOk P w K mg base (L2.CX P w) (n + 1) (ad K .State_drop) (fdo .State_drop) (psOf .State_drop) (spM K (G K) (body c c1 .State_drop)) := by
  refine ok_def (N := N_State_drop) (FD .State_drop) sc_State_drop (by decide) (by decide) (fun cdv A outer s H E hr => ?_)
  have tk : Takes (cxOf (L2.CX P w) P w K mg base N_State_drop "State.drop" (defScope st_State_drop) (ad K .State_drop) cdv A outer s H E) (fun cls d _ H => E cls d H) := takes_of rfl rfl rfl rfl
  have hx : Passes (L2.CX P w) (cxOf (L2.CX P w) P w K mg base N_State_drop "State.drop" (defScope st_State_drop) (ad K .State_drop) cdv A outer s H E) E := passes_call tk (fun _ _ _ _ h => h)
  have hp := passes_of (X := cxOf (L2.CX P w) P w K mg base N_State_drop "State.drop" (defScope st_State_drop) (ad K .State_drop) cdv A outer s H E) rfl
  have hr1 : Room (k1 + 1) _ := hr.mono hk
  exact ss_bad
theorem ok_Looker_init (T : Tx K mg w) (FD : ∀ f : Fn, FDt K f (fdo f)) {n k1 : Nat} {c c1 : Fn → List D → Mu → Res D} (IH : OkAll P w K mg base fdo n c) (IH1 : OkAll P w K mg base fdo k1 c1) (hk : k1 + 1 ≤ n) :
    FnOk P w K mg base (L2.CX P w) (n + 1) (ad K .Looker_init) (fdo .Looker_init) (psOf .Looker_init) (spM K (G K) (body c c1 .Looker_init)) := by
  refine ok_def (N := N_Looker_init) (FD .Looker_init) sc_Looker_init (by decide) (by decide) (fun cdv A outer s H E hr => ?_)
  have tk : Takes (cxOf (L2.CX P w) P w K mg base N_Looker_init "Looker.__init__" (defScope st_Looker_init) (ad K .Looker_init) cdv A outer s H E) (fun cls d _ H => E cls d H) := takes_of rfl rfl rfl rfl
  have hx : Passes (L2.CX P w) (cxOf (L2.CX P w) P w K mg base N_Looker_init "Looker.__init__" (defScope st_Looker_init) (ad K .Looker_init) cdv A outer s H E) E := passes_call tk (fun _ _ _ _ h => h)
  have hp := passes_of (X := cxOf (L2.CX P w) P w K mg base N_Looker_init "Looker.__init__" (defScope st_Looker_init) (ad K .Looker_init) cdv A outer s H E) rfl
  have hr1 : Room (k1 + 1) _ := hr.mono hk
  exact (ss_one (s_sfld T.cls (ltF rfl) rfl (s_var 0) s_int))
theorem ok_Looker_need (T : Tx K mg w) (FD : ∀ f : Fn, FDt K f (fdo f)) {n k1 : Nat} {c c1 : Fn → List D → Mu → Res D} (IH : OkAll P w K mg base fdo n c) (IH1 : OkAll P w K mg base fdo k1 c1) (hk : k1 + 1 ≤ n) :
    FnOk P w K mg base (L2.CX P w) (n + 1) (ad K .Looker_need) (fdo .Looker_need) (psOf .Looker_need) (spM K (G K) (body c c1 .Looker_need)) := by
  refine ok_def (N := N_Looker_need) (FD .Looker_need) sc_Looker_need (by decide) (by decide) (fun cdv A outer s H E hr => ?_)
  have tk : Takes (cxOf (L2.CX P w) P w K mg base N_Looker_need "Looker.need" (defScope st_Looker_need) (ad K .Looker_need) cdv A outer s H E) (fun cls d _ H => E cls d H) := takes_of rfl rfl rfl rfl
  have hx : Passes (L2.CX P w) (cxOf (L2.CX P w) P w K mg base N_Looker_need "Looker.need" (defScope st_Looker_need) (ad K .Looker_need) cdv A outer s H E) E := passes_call tk (fun _ _ _ _ h => h)
  have hp := passes_of (X := cxOf (L2.CX P w) P w K mg base N_Looker_need "Looker.need" (defScope st_Looker_need) (ad K .Looker_need) cdv A outer s H E) rfl
  have hr1 : Room (k1 + 1) _ := hr.mono hk
  exact (ss_one (s_if (s_tnot (s_tr (s_var 1))) (ss_one (s_raise (c := 1) rfl tk PySem.F.excBase_ValueError T.x_BadTree T.gx_BadTree T.kx_BadTree (raises_own T.bx_BadTree T.tx_BadTree) rfl)) ss_nil))
theorem ok_Looker_count (T : Tx K mg w) (FD : ∀ f : Fn, FDt K f (fdo f)) {n k1 : Nat} {c c1 : Fn → List D → Mu → Res D} (IH : OkAll P w K mg base fdo n c) (IH1 : OkAll P w K mg base fdo k1 c1) (hk : k1 + 1 ≤ n) :
    FnOk P w K mg base (L2.CX P w) (n + 1) (ad K .Looker_count) (fdo .Looker_count) (psOf .Looker_count) (spM K (G K) (body c c1 .Looker_count)) := by
  refine ok_def (N := N_Looker_count) (FD .Looker_count) sc_Looker_count (by decide) (by decide) (fun cdv A outer s H E hr => ?_)
  have tk : Takes (cxOf (L2.CX P w) P w K mg base N_Looker_count "Looker.count" (defScope st_Looker_count) (ad K .Looker_count) cdv A outer s H E) (fun cls d _ H => E cls d H) := takes_of rfl rfl rfl rfl
  have hx : Passes (L2.CX P w) (cxOf (L2.CX P w) P w K mg base N_Looker_count "Looker.count" (defScope st_Looker_count) (ad K .Looker_count) cdv A outer s H E) E := passes_call tk (fun _ _ _ _ h => h)
  have hp := passes_of (X := cxOf (L2.CX P w) P w K mg base N_Looker_count "Looker.count" (defScope st_Looker_count) (ad K .Looker_count) cdv A outer s H E) rfl
  have hr1 : Room (k1 + 1) _ := hr.mono hk
  exact (ss_cons (s_sfld T.cls (ltF rfl) rfl (s_var 0) (s_op op_addA add_s add_n (s_fld (T.cls) (ltF rfl) rfl (s_var 0)) s_int)) (ss_cons (s_exp (s_meth (c := 2) (s_var 0) (T.cls.cls _) T.m_Looker_need (IH .Looker_need) hr (bi_Looker_need (FD .Looker_need)) hx nf_need (s_cons (s_and (s_isi (k := .tup) (s_var 1) rfl T.b_isinstance rfl T.b_tuple PyProof.Rows.boot_tuple) (s_and (s_cmp op_gtA gt_s gt_n (s_callB call_len len_s len_n rfl T.b_len PySem.boot_len (s_cons (s_var 1) s_nil)) s_int (nomark _)) (s_one (s_isi (k := .str) (s_ix (s_var 1) s_int) rfl T.b_isinstance rfl T.b_str PyProof.Rows.boot_str)))) s_nil))) (ss_one (s_exp (s_meth (c := 2) (s_var 0) (T.cls.cls _) T.m_Looker_need (IH .Looker_need) hr (bi_Looker_need (FD .Looker_need)) hx nf_need (s_cons (s_and (s_cmp op_leA le_s le_n (s_fld (T.cls) (ltF rfl) rfl (s_var 0)) (s_gint T.c_MOST_PARTS) (nomark _)) (s_one (s_cmp op_leA le_s le_n (s_var 2) (s_gint T.c_MOST_DEEP) (nomark _)))) s_nil))))))
theorem ok_Looker_part (T : Tx K mg w) (FD : ∀ f : Fn, FDt K f (fdo f)) {n k1 : Nat} {c c1 : Fn → List D → Mu → Res D} (IH : OkAll P w K mg base fdo n c) (IH1 : OkAll P w K mg base fdo k1 c1) (hk : k1 + 1 ≤ n) :
    FnOk P w K mg base (L2.CX P w) (n + 1) (ad K .Looker_part) (fdo .Looker_part) (psOf .Looker_part) (spM K (G K) (body c c1 .Looker_part)) := by
  refine ok_def (N := N_Looker_part) (FD .Looker_part) sc_Looker_part (by decide) (by decide) (fun cdv A outer s H E hr => ?_)
  have tk : Takes (cxOf (L2.CX P w) P w K mg base N_Looker_part "Looker.part" (defScope st_Looker_part) (ad K .Looker_part) cdv A outer s H E) (fun cls d _ H => E cls d H) := takes_of rfl rfl rfl rfl
  have hx : Passes (L2.CX P w) (cxOf (L2.CX P w) P w K mg base N_Looker_part "Looker.part" (defScope st_Looker_part) (ad K .Looker_part) cdv A outer s H E) E := passes_call tk (fun _ _ _ _ h => h)
  have hp := passes_of (X := cxOf (L2.CX P w) P w K mg base N_Looker_part "Looker.part" (defScope st_Looker_part) (ad K .Looker_part) cdv A outer s H E) rfl
  have hr1 : Room (k1 + 1) _ := hr.mono hk
  exact (ss_cons (s_exp (s_meth (c := 2) (s_var 0) (T.cls.cls _) T.m_Looker_count (IH .Looker_count) hr (bi_Looker_count (FD .Looker_count)) hx nf_count (s_cons (s_var 1) (s_cons (s_var 2) s_nil)))) (ss_cons (s_exp (s_meth (c := 2) (s_var 0) (T.cls.cls _) T.m_Looker_need (IH .Looker_need) hr (bi_Looker_need (FD .Looker_need)) hx nf_need (s_cons (s_and (s_cmp op_geA ge_s ge_n (s_call (IH .f_size_of) hr rfl (T.g .f_size_of rfl) (FD .f_size_of).kp (bi_f_size_of (FD .f_size_of)) hx (s_cons (s_ix (s_var 1) s_int) s_nil)) s_int (nomark _)) (s_one (s_call (IH .f_leaf_of) hr rfl (T.g .f_leaf_of rfl) (FD .f_leaf_of).kp (bi_f_leaf_of (FD .f_leaf_of)) hx (s_cons (s_var 1) s_nil)))) s_nil))) (ss_one (s_for hp rfl (s_call (IH .f_inner_of) hr rfl (T.g .f_inner_of rfl) (FD .f_inner_of).kp (bi_f_inner_of (FD .f_inner_of)) hx (s_cons (s_var 1) s_nil)) (pg_name (i := 3) sc_Looker_part.nd rfl (by first | exact Or.inl rfl | exact Or.inr rfl)) tg_name (ss_one (s_exp (s_meth (c := 2) (s_var 0) (T.cls.cls _) T.m_Looker_part (IH .Looker_part) hr (bi_Looker_part (FD .Looker_part)) hx nf_part (s_cons (s_var 3) (s_cons (s_op op_addA add_s add_n (s_var 2) s_int) s_nil)))))))))
theorem ok_Looker_block (T : Tx K mg w) (FD : ∀ f : Fn, FDt K f (fdo f)) {n k1 : Nat} {c c1 : Fn → List D → Mu → Res D} (IH : OkAll P w K mg base fdo n c) (IH1 : OkAll P w K mg base fdo k1 c1) (hk : k1 + 1 ≤ n) :
    FnOk P w K mg base (L2.CX P w) (n + 1) (ad K .Looker_block) (fdo .Looker_block) (psOf .Looker_block) (spM K (G K) (body c c1 .Looker_block)) := by
  refine ok_def (N := N_Looker_block) (FD .Looker_block) sc_Looker_block (by decide) (by decide) (fun cdv A outer s H E hr => ?_)
  have tk : Takes (cxOf (L2.CX P w) P w K mg base N_Looker_block "Looker.block" (defScope st_Looker_block) (ad K .Looker_block) cdv A outer s H E) (fun cls d _ H => E cls d H) := takes_of rfl rfl rfl rfl
  have hx : Passes (L2.CX P w) (cxOf (L2.CX P w) P w K mg base N_Looker_block "Looker.block" (defScope st_Looker_block) (ad K .Looker_block) cdv A outer s H E) E := passes_call tk (fun _ _ _ _ h => h)
  have hp := passes_of (X := cxOf (L2.CX P w) P w K mg base N_Looker_block "Looker.block" (defScope st_Looker_block) (ad K .Looker_block) cdv A outer s H E) rfl
  have hr1 : Room (k1 + 1) _ := hr.mono hk
  exact (ss_cons (s_exp (s_meth (c := 2) (s_var 0) (T.cls.cls _) T.m_Looker_need (IH .Looker_need) hr (bi_Looker_need (FD .Looker_need)) hx nf_need (s_cons (s_and (s_isi (k := .tup) (s_var 1) rfl T.b_isinstance rfl T.b_tuple PyProof.Rows.boot_tuple) (s_one (s_cmp op_leA le_s le_n (s_callB call_len len_s len_n rfl T.b_len PySem.boot_len (s_cons (s_var 1) s_nil)) (s_gint T.c_MOST_DEEDS) (nomark _)))) s_nil))) (ss_one (s_for hp rfl (s_var 1) (pg_name (i := 4) sc_Looker_block.nd rfl (by first | exact Or.inl rfl | exact Or.inr rfl)) tg_name (ss_one (s_exp (s_meth (c := 2) (s_var 0) (T.cls.cls _) T.m_Looker_deed (IH .Looker_deed) hr (bi_Looker_deed (FD .Looker_deed)) hx nf_deed (s_cons (s_var 4) (s_cons (s_var 2) (s_cons (s_var 3) s_nil)))))))))
theorem ok_Looker_deed (T : Tx K mg w) (FD : ∀ f : Fn, FDt K f (fdo f)) {n k1 : Nat} {c c1 : Fn → List D → Mu → Res D} (IH : OkAll P w K mg base fdo n c) (IH1 : OkAll P w K mg base fdo k1 c1) (hk : k1 + 1 ≤ n) :
    FnOk P w K mg base (L2.CX P w) (n + 1) (ad K .Looker_deed) (fdo .Looker_deed) (psOf .Looker_deed) (spM K (G K) (body c c1 .Looker_deed)) := by
  refine ok_def (N := N_Looker_deed) (FD .Looker_deed) sc_Looker_deed (by decide) (by decide) (fun cdv A outer s H E hr => ?_)
  have tk : Takes (cxOf (L2.CX P w) P w K mg base N_Looker_deed "Looker.deed" (defScope st_Looker_deed) (ad K .Looker_deed) cdv A outer s H E) (fun cls d _ H => E cls d H) := takes_of rfl rfl rfl rfl
  have hx : Passes (L2.CX P w) (cxOf (L2.CX P w) P w K mg base N_Looker_deed "Looker.deed" (defScope st_Looker_deed) (ad K .Looker_deed) cdv A outer s H E) E := passes_call tk (fun _ _ _ _ h => h)
  have hp := passes_of (X := cxOf (L2.CX P w) P w K mg base N_Looker_deed "Looker.deed" (defScope st_Looker_deed) (ad K .Looker_deed) cdv A outer s H E) rfl
  have hr1 : Room (k1 + 1) _ := hr.mono hk
  exact (ss_cons (s_exp (s_meth (c := 2) (s_var 0) (T.cls.cls _) T.m_Looker_count (IH .Looker_count) hr (bi_Looker_count (FD .Looker_count)) hx nf_count (s_cons (s_var 1) (s_cons (s_var 2) s_nil)))) (ss_cons (s_set 4 (s_ix (s_var 1) s_int) sc_Looker_deed.nd) (ss_cons (s_exp (s_meth (c := 2) (s_var 0) (T.cls.cls _) T.m_Looker_need (IH .Looker_need) hr (bi_Looker_need (FD .Looker_need)) hx nf_need (s_cons (s_and (s_cmp (op_eqA hr.units) eq_s eq_n (s_kget T.k_DEED_SIZES rfl T.g_DEED_SIZES (s_var 4) s_int) (s_callB call_len len_s len_n rfl T.b_len PySem.boot_len (s_cons (s_var 1) s_nil)) (nomark _)) (s_one (s_or (s_cmp (op_neA hr.units) ne_s ne_n (s_var 4) (s_str (by decide +kernel)) (nomark _)) (s_one (s_var 3))))) s_nil))) (ss_cons (s_if (s_cmpT op_inA in_s in_n (s_var 4) (s_tup (s_cons (s_str (by decide +kernel)) (s_cons (s_str (by decide +kernel)) (s_cons (s_str (by decide +kernel)) (s_cons (s_str (by decide +kernel)) s_nil))))) (by rfl)) (ss_one (s_exp (s_meth (c := 2) (s_var 0) (T.cls.cls _) T.m_Looker_need (IH .Looker_need) hr (bi_Looker_need (FD .Looker_need)) hx nf_need (s_cons (s_call (IH .f_is_name) hr rfl (T.g .f_is_name rfl) (FD .f_is_name).kp (bi_f_is_name (FD .f_is_name)) hx (s_cons (s_ix (s_var 1) s_int) s_nil)) s_nil)))) ss_nil) (ss_cons (s_set 5 (s_ifE (s_cmpT op_inA in_s in_n (s_var 4) (s_tup (s_cons (s_str (by decide +kernel)) (s_cons (s_str (by decide +kernel)) (s_cons (s_str (by decide +kernel)) s_nil)))) (by rfl)) (s_callTy call_list_of list_s list_n rfl T.b_list PyProof.Rows.boot_list (s_cons (s_sl (s_var 1) (s_oSome s_int) s_oNone) s_nil)) (s_lst s_nil)) sc_Looker_deed.nd) (ss_cons (s_if (s_cmpT (op_eqA hr.units) eq_s eq_n (s_var 4) (s_str (by decide +kernel)) (nomark _)) (ss_cons (s_exp (s_meth (c := 2) (s_var 0) (T.cls.cls _) T.m_Looker_need (IH .Looker_need) hr (bi_Looker_need (FD .Looker_need)) hx nf_need (s_cons (s_and (s_isi (k := .tup) (s_ix (s_var 1) s_int) rfl T.b_isinstance rfl T.b_tuple PyProof.Rows.boot_tuple) (s_one (s_chain op_leA le_s le_n op_leA le_s le_n s_int (s_callB call_len len_s len_n rfl T.b_len PySem.boot_len (s_cons (s_ix (s_var 1) s_int) s_nil)) (s_gint T.c_MOST_SAID)))) s_nil))) (ss_one (s_set 5 (s_callTy call_list_of list_s list_n rfl T.b_list PyProof.Rows.boot_list (s_cons (s_ix (s_var 1) s_int) s_nil)) sc_Looker_deed.nd))) ss_nil) (ss_cons (s_if (s_cmpT (op_eqA hr.units) eq_s eq_n (s_var 4) (s_str (by decide +kernel)) (nomark _)) (ss_one (s_set 5 (s_lst (s_cons (s_ix (s_var 1) s_int) s_nil)) sc_Looker_deed.nd)) ss_nil) (ss_cons (s_for hp rfl (s_var 5) (pg_name (i := 6) sc_Looker_deed.nd rfl (by first | exact Or.inl rfl | exact Or.inr rfl)) tg_name (ss_one (s_exp (s_meth (c := 2) (s_var 0) (T.cls.cls _) T.m_Looker_part (IH .Looker_part) hr (bi_Looker_part (FD .Looker_part)) hx nf_part (s_cons (s_var 6) (s_cons (s_op op_addA add_s add_n (s_var 2) s_int) s_nil)))))) (ss_cons (s_if (s_cmpT (op_eqA hr.units) eq_s eq_n (s_var 4) (s_str (by decide +kernel)) (nomark _)) (ss_cons (s_exp (s_meth (c := 2) (s_var 0) (T.cls.cls _) T.m_Looker_need (IH .Looker_need) hr (bi_Looker_need (FD .Looker_need)) hx nf_need (s_cons (s_call (IH .f_is_name) hr rfl (T.g .f_is_name rfl) (FD .f_is_name).kp (bi_f_is_name (FD .f_is_name)) hx (s_cons (s_ix (s_var 1) s_int) s_nil)) s_nil))) (ss_one (s_exp (s_meth (c := 2) (s_var 0) (T.cls.cls _) T.m_Looker_block (IH .Looker_block) hr (bi_Looker_block (FD .Looker_block)) hx nf_block (s_cons (s_ix (s_var 1) s_int) (s_cons (s_op op_addA add_s add_n (s_var 2) s_int) (s_cons (s_var 3) s_nil))))))) ss_nil) (ss_one (s_if (s_cmpT (op_eqA hr.units) eq_s eq_n (s_var 4) (s_str (by decide +kernel)) (nomark _)) (ss_cons (s_exp (s_meth (c := 2) (s_var 0) (T.cls.cls _) T.m_Looker_block (IH .Looker_block) hr (bi_Looker_block (FD .Looker_block)) hx nf_block (s_cons (s_ix (s_var 1) s_int) (s_cons (s_op op_addA add_s add_n (s_var 2) s_int) (s_cons (s_var 3) s_nil))))) (ss_one (s_exp (s_meth (c := 2) (s_var 0) (T.cls.cls _) T.m_Looker_block (IH .Looker_block) hr (bi_Looker_block (FD .Looker_block)) hx nf_block (s_cons (s_ix (s_var 1) s_int) (s_cons (s_op op_addA add_s add_n (s_var 2) s_int) (s_cons (s_var 3) s_nil))))))) ss_nil)))))))))))
theorem ok_Looker_rule (T : Tx K mg w) (FD : ∀ f : Fn, FDt K f (fdo f)) {n k1 : Nat} {c c1 : Fn → List D → Mu → Res D} (IH : OkAll P w K mg base fdo n c) (IH1 : OkAll P w K mg base fdo k1 c1) (hk : k1 + 1 ≤ n) :
    FnOk P w K mg base (L2.CX P w) (n + 1) (ad K .Looker_rule) (fdo .Looker_rule) (psOf .Looker_rule) (spM K (G K) (body c c1 .Looker_rule)) := by
  refine ok_def (N := N_Looker_rule) (FD .Looker_rule) sc_Looker_rule (by decide) (by decide) (fun cdv A outer s H E hr => ?_)
  have tk : Takes (cxOf (L2.CX P w) P w K mg base N_Looker_rule "Looker.rule" (defScope st_Looker_rule) (ad K .Looker_rule) cdv A outer s H E) (fun cls d _ H => E cls d H) := takes_of rfl rfl rfl rfl
  have hx : Passes (L2.CX P w) (cxOf (L2.CX P w) P w K mg base N_Looker_rule "Looker.rule" (defScope st_Looker_rule) (ad K .Looker_rule) cdv A outer s H E) E := passes_call tk (fun _ _ _ _ h => h)
  have hp := passes_of (X := cxOf (L2.CX P w) P w K mg base N_Looker_rule "Looker.rule" (defScope st_Looker_rule) (ad K .Looker_rule) cdv A outer s H E) rfl
  have hr1 : Room (k1 + 1) _ := hr.mono hk
  exact (ss_cons (s_exp (s_meth (c := 2) (s_var 0) (T.cls.cls _) T.m_Looker_need (IH .Looker_need) hr (bi_Looker_need (FD .Looker_need)) hx nf_need (s_cons (s_and (s_isi (k := .tup) (s_var 1) rfl T.b_isinstance rfl T.b_tuple PyProof.Rows.boot_tuple) (s_and (s_cmp op_gtA gt_s gt_n (s_callB call_len len_s len_n rfl T.b_len PySem.boot_len (s_cons (s_var 1) s_nil)) s_int (nomark _)) (s_one (s_isi (k := .str) (s_ix (s_var 1) s_int) rfl T.b_isinstance rfl T.b_str PyProof.Rows.boot_str)))) s_nil))) (ss_cons (s_exp (s_meth (c := 2) (s_var 0) (T.cls.cls _) T.m_Looker_need (IH .Looker_need) hr (bi_Looker_need (FD .Looker_need)) hx nf_need (s_cons (s_cmp (op_eqA hr.units) eq_s eq_n (s_kget T.k_RULE_SIZES rfl T.g_RULE_SIZES (s_ix (s_var 1) s_int) s_int) (s_callB call_len len_s len_n rfl T.b_len PySem.boot_len (s_cons (s_var 1) s_nil)) (nomark _)) s_nil))) (ss_cons (s_for hp rfl (s_sl (s_var 1) (s_oSome s_int) (s_oSome (s_neg s_int))) (pg_name (i := 2) sc_Looker_rule.nd rfl (by first | exact Or.inl rfl | exact Or.inr rfl)) tg_name (ss_one (s_exp (s_meth (c := 2) (s_var 0) (T.cls.cls _) T.m_Looker_part (IH .Looker_part) hr (bi_Looker_part (FD .Looker_part)) hx nf_part (s_cons (s_var 2) (s_cons s_int s_nil)))))) (ss_one (s_exp (s_meth (c := 2) (s_var 0) (T.cls.cls _) T.m_Looker_block (IH .Looker_block) hr (bi_Looker_block (FD .Looker_block)) hx nf_block (s_cons (s_ix (s_var 1) (s_neg s_int)) (s_cons s_int (s_cons (s_cmp op_notInA notIn_s notIn_n (s_ix (s_var 1) s_int) (s_tup (s_cons (s_str (by decide +kernel)) (s_cons (s_str (by decide +kernel)) s_nil))) (by rfl)) s_nil)))))))))
theorem ok_Desk_init (T : Tx K mg w) (FD : ∀ f : Fn, FDt K f (fdo f)) {n k1 : Nat} {c c1 : Fn → List D → Mu → Res D} (IH : OkAll P w K mg base fdo n c) (IH1 : OkAll P w K mg base fdo k1 c1) (hk : k1 + 1 ≤ n) :
    FnOk P w K mg base (L2.CX P w) (n + 1) (ad K .Desk_init) (fdo .Desk_init) (psOf .Desk_init) (spM K (G K) (body c c1 .Desk_init)) := by
  refine ok_def (N := N_Desk_init) (FD .Desk_init) sc_Desk_init (by decide) (by decide) (fun cdv A outer s H E hr => ?_)
  have tk : Takes (cxOf (L2.CX P w) P w K mg base N_Desk_init "Desk.__init__" (defScope st_Desk_init) (ad K .Desk_init) cdv A outer s H E) (fun cls d _ H => E cls d H) := takes_of rfl rfl rfl rfl
  have hx : Passes (L2.CX P w) (cxOf (L2.CX P w) P w K mg base N_Desk_init "Desk.__init__" (defScope st_Desk_init) (ad K .Desk_init) cdv A outer s H E) E := passes_call tk (fun _ _ _ _ h => h)
  have hp := passes_of (X := cxOf (L2.CX P w) P w K mg base N_Desk_init "Desk.__init__" (defScope st_Desk_init) (ad K .Desk_init) cdv A outer s H E) rfl
  have hr1 : Room (k1 + 1) _ := hr.mono hk
  exact (ss_cons (s_exp (s_call (IH .f_need_tree) hr rfl (T.g .f_need_tree rfl) (FD .f_need_tree).kp (bi_f_need_tree (FD .f_need_tree)) hx (s_cons (s_var 1) s_nil))) (ss_cons (s_sfld T.cls (ltF rfl) rfl (s_var 0) (s_var 1)) (ss_one (s_sfld T.cls (ltF rfl) rfl (s_var 0) (s_make (c := 1) T.mk_State (IH1 .State_init) hr1 rfl T.gc_State (bi_State_init (FD .State_init)) hx (s_cons (s_callB call_len len_s len_n rfl T.b_len PySem.boot_len (s_cons (s_var 1) s_nil)) s_nil))))))
theorem ok_Desk_worth (T : Tx K mg w) (FD : ∀ f : Fn, FDt K f (fdo f)) {n k1 : Nat} {c c1 : Fn → List D → Mu → Res D} (IH : OkAll P w K mg base fdo n c) (IH1 : OkAll P w K mg base fdo k1 c1) (hk : k1 + 1 ≤ n) :
    FnOk P w K mg base (L2.CX P w) (n + 1) (ad K .Desk_worth) (fdo .Desk_worth) (psOf .Desk_worth) (spM K (G K) (body c c1 .Desk_worth)) := by
  refine ok_def (N := N_Desk_worth) (FD .Desk_worth) sc_Desk_worth (by decide) (by decide) (fun cdv A outer s H E hr => ?_)
  have tk : Takes (cxOf (L2.CX P w) P w K mg base N_Desk_worth "Desk.worth" (defScope st_Desk_worth) (ad K .Desk_worth) cdv A outer s H E) (fun cls d _ H => E cls d H) := takes_of rfl rfl rfl rfl
  have hx : Passes (L2.CX P w) (cxOf (L2.CX P w) P w K mg base N_Desk_worth "Desk.worth" (defScope st_Desk_worth) (ad K .Desk_worth) cdv A outer s H E) E := passes_call tk (fun _ _ _ _ h => h)
  have hp := passes_of (X := cxOf (L2.CX P w) P w K mg base N_Desk_worth "Desk.worth" (defScope st_Desk_worth) (ad K .Desk_worth) cdv A outer s H E) rfl
  have hr1 : Room (k1 + 1) _ := hr.mono hk
  exact (ss_cons (s_set 2 (s_ix (s_var 1) s_int) sc_Desk_worth.nd) (ss_cons (s_if (s_cmpT op_inA in_s in_n (s_var 2) (s_tup (s_cons (s_str (by decide +kernel)) (s_cons (s_str (by decide +kernel)) s_nil))) (by rfl)) (ss_one (s_ret (s_ix (s_var 1) s_int))) ss_nil) (ss_cons (s_if (s_cmpT (op_eqA hr.units) eq_s eq_n (s_var 2) (s_str (by decide +kernel)) (nomark _)) (ss_one (s_ret s_bad)) ss_nil) (ss_cons (s_if (s_cmpT op_inA in_s in_n (s_var 2) (s_tup (s_cons (s_str (by decide +kernel)) (s_cons (s_str (by decide +kernel)) s_nil))) (by rfl)) (ss_cons (s_set 3 (s_call (IH .f_text_of) hr rfl (T.g .f_text_of rfl) (FD .f_text_of).kp (bi_f_text_of (FD .f_text_of)) hx (s_cons (s_meth (c := 3) (s_var 0) (T.cls.cls _) T.m_Desk_worth (IH .Desk_worth) hr (bi_Desk_worth (FD .Desk_worth)) hx nf_worth (s_cons (s_ix (s_var 1) s_int) s_nil)) s_nil)) sc_Desk_worth.nd) (ss_cons (s_if (s_cmpT (op_eqA hr.units) eq_s eq_n (s_var 2) (s_str (by decide +kernel)) (nomark _)) (ss_one (s_ret (s_callTy call_intT intT_s intT_n rfl T.b_int PyProof.Rows.boot_int (s_cons (s_cmp op_inA in_s in_n (s_var 3) s_bad (by rfl)) s_nil)))) ss_nil) (ss_one (s_ret (s_meth (c := 1) (s_fld (T.cls) (ltF rfl) rfl (s_var 0)) (T.cls.cls _) T.m_State_entry (IH .State_entry) hr (bi_State_entry (FD .State_entry)) hx nf_entry (s_cons (s_ix (s_var 1) s_int) (s_cons (s_var 3) s_nil))))))) ss_nil) (ss_cons (s_if (s_cmpT (op_eqA hr.units) eq_s eq_n (s_callB call_len len_s len_n rfl T.b_len PySem.boot_len (s_cons (s_var 1) s_nil)) s_int (nomark _)) (ss_one (s_ret (s_meth (c := 1) (s_fld (T.cls) (ltF rfl) rfl (s_var 0)) (T.cls.cls _) T.m_State_bare (IH .State_bare) hr (bi_State_bare (FD .State_bare)) hx nf_bare (s_cons (s_var 2) s_nil)))) ss_nil) (ss_cons (s_if (s_cmpT op_inA in_s in_n (s_var 2) (s_tup (s_cons (s_str (by decide +kernel)) (s_cons (s_str (by decide +kernel)) s_nil))) (by rfl)) (ss_one (s_ret (s_meth (c := 3) (s_var 0) (T.cls.cls _) T.m_Desk_both (IH .Desk_both) hr (bi_Desk_both (FD .Desk_both)) hx nf_both (s_cons (s_var 1) s_nil)))) ss_nil) (ss_cons (s_setLc 4 (own := [("one", 5)]) rfl sc_Desk_worth.nd (s_sl (s_var 1) (s_oSome s_int) s_oNone) (blkOk_by (N := N_Desk_worth) (sc := defScope (st_Desk_worth)) (by decide +kernel)) (sw_true rfl rfl rfl (by decide +kernel)) (fun _ _ _ _ _ => pg_name (i := 5) sc_Desk_worth.nd rfl (Or.inl rfl)) tgw_name (fun _ _ _ _ _ => s_noIf) (fun _ _ _ _ _ => (s_meth (c := 3) (s_var 0) (T.cls.cls _) T.m_Desk_worth (IH .Desk_worth) hr (bi_Desk_worth (FD .Desk_worth)) passL nf_worth (s_cons (s_var 5) s_nil)))) (ss_one (s_ret (s_ifE (s_cmpT (op_eqA hr.units) eq_s eq_n (s_callB call_len len_s len_n rfl T.b_len PySem.boot_len (s_cons (s_var 4) s_nil)) s_int (nomark _)) (s_call (IH .f_paired) hr rfl (T.g .f_paired rfl) (FD .f_paired).kp (bi_f_paired (FD .f_paired)) hx (s_cons (s_var 2) (s_cons (s_ix (s_var 4) s_int) (s_cons (s_ix (s_var 4) s_int) s_nil)))) (s_meth (c := 3) (s_var 0) (T.cls.cls _) T.m_Desk_single (IH .Desk_single) hr (bi_Desk_single (FD .Desk_single)) hx nf_single (s_cons (s_var 2) (s_cons (s_var 4) s_nil)))))))))))))
theorem ok_Desk_both (T : Tx K mg w) (FD : ∀ f : Fn, FDt K f (fdo f)) {n k1 : Nat} {c c1 : Fn → List D → Mu → Res D} (IH : OkAll P w K mg base fdo n c) (IH1 : OkAll P w K mg base fdo k1 c1) (hk : k1 + 1 ≤ n) :
    FnOk P w K mg base (L2.CX P w) (n + 1) (ad K .Desk_both) (fdo .Desk_both) (psOf .Desk_both) (spM K (G K) (body c c1 .Desk_both)) := by
  refine ok_def (N := N_Desk_both) (FD .Desk_both) sc_Desk_both (by decide) (by decide) (fun cdv A outer s H E hr => ?_)
  have tk : Takes (cxOf (L2.CX P w) P w K mg base N_Desk_both "Desk.both" (defScope st_Desk_both) (ad K .Desk_both) cdv A outer s H E) (fun cls d _ H => E cls d H) := takes_of rfl rfl rfl rfl
  have hx : Passes (L2.CX P w) (cxOf (L2.CX P w) P w K mg base N_Desk_both "Desk.both" (defScope st_Desk_both) (ad K .Desk_both) cdv A outer s H E) E := passes_call tk (fun _ _ _ _ h => h)
  have hp := passes_of (X := cxOf (L2.CX P w) P w K mg base N_Desk_both "Desk.both" (defScope st_Desk_both) (ad K .Desk_both) cdv A outer s H E) rfl
  have hr1 : Room (k1 + 1) _ := hr.mono hk
  exact ss_bad
theorem ok_Desk_single (T : Tx K mg w) (FD : ∀ f : Fn, FDt K f (fdo f)) {n k1 : Nat} {c c1 : Fn → List D → Mu → Res D} (IH : OkAll P w K mg base fdo n c) (IH1 : OkAll P w K mg base fdo k1 c1) (hk : k1 + 1 ≤ n) :
    FnOk P w K mg base (L2.CX P w) (n + 1) (ad K .Desk_single) (fdo .Desk_single) (psOf .Desk_single) (spM K (G K) (body c c1 .Desk_single)) := by
  refine ok_def (N := N_Desk_single) (FD .Desk_single) sc_Desk_single (by decide) (by decide) (fun cdv A outer s H E hr => ?_)
  have tk : Takes (cxOf (L2.CX P w) P w K mg base N_Desk_single "Desk.single" (defScope st_Desk_single) (ad K .Desk_single) cdv A outer s H E) (fun cls d _ H => E cls d H) := takes_of rfl rfl rfl rfl
  have hx : Passes (L2.CX P w) (cxOf (L2.CX P w) P w K mg base N_Desk_single "Desk.single" (defScope st_Desk_single) (ad K .Desk_single) cdv A outer s H E) E := passes_call tk (fun _ _ _ _ h => h)
  have hp := passes_of (X := cxOf (L2.CX P w) P w K mg base N_Desk_single "Desk.single" (defScope st_Desk_single) (ad K .Desk_single) cdv A outer s H E) rfl
  have hr1 : Room (k1 + 1) _ := hr.mono hk
  exact (ss_cons (s_if (s_cmpT (op_eqA hr.units) eq_s eq_n (s_var 1) (s_str (by decide +kernel)) (nomark _)) (ss_one (s_ret (s_meth (c := 0) (s_fld (T.cls) (ltF rfl) rfl (s_fld (T.cls) (ltF rfl) rfl (s_var 0))) (T.cls.cls _) T.m_Line_field (IH .Line_field) hr (bi_Line_field (FD .Line_field)) hx nf_field (s_cons (s_call (IH .f_number_of) hr rfl (T.g .f_number_of rfl) (FD .f_number_of).kp (bi_f_number_of (FD .f_number_of)) hx (s_cons (s_ix (s_var 2) s_int) s_nil)) s_nil)))) ss_nil) (ss_cons (s_if (s_cmpT (op_eqA hr.units) eq_s eq_n (s_var 1) (s_str (by decide +kernel)) (nomark _)) (ss_one (s_ret (s_call (IH .f_ring) hr rfl (T.g .f_ring rfl) (FD .f_ring).kp (bi_f_ring (FD .f_ring)) hx (s_cons (s_op op_sub sub_s sub_n s_int (s_call (IH .f_number_of) hr rfl (T.g .f_number_of rfl) (FD .f_number_of).kp (bi_f_number_of (FD .f_number_of)) hx (s_cons (s_ix (s_var 2) s_int) s_nil))) s_nil)))) ss_nil) (ss_cons (s_if (s_cmpT (op_eqA hr.units) eq_s eq_n (s_var 1) (s_str (by decide +kernel)) (nomark _)) (ss_one (s_ret (s_callTy call_intT intT_s intT_n rfl T.b_int PyProof.Rows.boot_int (s_cons (s_not (s_call (IH .f_is_true) hr rfl (T.g .f_is_true rfl) (FD .f_is_true).kp (bi_f_is_true (FD .f_is_true)) hx (s_cons (s_ix (s_var 2) s_int) s_nil))) s_nil)))) ss_nil) (ss_cons (s_if (s_cmpT (op_eqA hr.units) eq_s eq_n (s_var 1) (s_str (by decide +kernel)) (nomark _)) (ss_one (s_ret (s_callB call_len len_s len_n rfl T.b_len PySem.boot_len (s_cons (s_call (IH .f_text_of) hr rfl (T.g .f_text_of rfl) (FD .f_text_of).kp (bi_f_text_of (FD .f_text_of)) hx (s_cons (s_ix (s_var 2) s_int) s_nil)) s_nil)))) ss_nil) (ss_one (s_ret (s_call (IH .f_part_of) hr rfl (T.g .f_part_of rfl) (FD .f_part_of).kp (bi_f_part_of (FD .f_part_of)) hx (s_cons (s_call (IH .f_text_of) hr rfl (T.g .f_text_of rfl) (FD .f_text_of).kp (bi_f_text_of (FD .f_text_of)) hx (s_cons (s_ix (s_var 2) s_int) s_nil)) (s_cons (s_call (IH .f_number_of) hr rfl (T.g .f_number_of rfl) (FD .f_number_of).kp (bi_f_number_of (FD .f_number_of)) hx (s_cons (s_ix (s_var 2) s_int) s_nil)) (s_cons (s_call (IH .f_number_of) hr rfl (T.g .f_number_of rfl) (FD .f_number_of).kp (bi_f_number_of (FD .f_number_of)) hx (s_cons (s_ix (s_var 2) s_int) s_nil)) s_nil))))))))))
theorem ok_Desk_block (T : Tx K mg w) (FD : ∀ f : Fn, FDt K f (fdo f)) {n k1 : Nat} {c c1 : Fn → List D → Mu → Res D} (IH : OkAll P w K mg base fdo n c) (IH1 : OkAll P w K mg base fdo k1 c1) (hk : k1 + 1 ≤ n) :
    FnOk P w K mg base (L2.CX P w) (n + 1) (ad K .Desk_block) (fdo .Desk_block) (psOf .Desk_block) (spM K (G K) (body c c1 .Desk_block)) := by
  refine ok_def (N := N_Desk_block) (FD .Desk_block) sc_Desk_block (by decide) (by decide) (fun cdv A outer s H E hr => ?_)
  have tk : Takes (cxOf (L2.CX P w) P w K mg base N_Desk_block "Desk.block" (defScope st_Desk_block) (ad K .Desk_block) cdv A outer s H E) (fun cls d _ H => E cls d H) := takes_of rfl rfl rfl rfl
  have hx : Passes (L2.CX P w) (cxOf (L2.CX P w) P w K mg base N_Desk_block "Desk.block" (defScope st_Desk_block) (ad K .Desk_block) cdv A outer s H E) E := passes_call tk (fun _ _ _ _ h => h)
  have hp := passes_of (X := cxOf (L2.CX P w) P w K mg base N_Desk_block "Desk.block" (defScope st_Desk_block) (ad K .Desk_block) cdv A outer s H E) rfl
  have hr1 : Room (k1 + 1) _ := hr.mono hk
  exact (ss_cons (s_for hp rfl (s_var 1) (pg_name (i := 2) sc_Desk_block.nd rfl (by first | exact Or.inl rfl | exact Or.inr rfl)) tg_name (ss_cons (s_set 3 (s_meth (c := 3) (s_var 0) (T.cls.cls _) T.m_Desk_deed (IH .Desk_deed) hr (bi_Desk_deed (FD .Desk_deed)) hx nf_deed (s_cons (s_var 2) s_nil)) sc_Desk_block.nd) (ss_one (s_if (s_cmpT (op_neA hr.units) ne_s ne_n (s_var 3) (s_gstr T.c_GOES (by decide +kernel)) (nomark _)) (ss_one (s_ret (s_var 3))) ss_nil)))) (ss_one (s_ret (s_gstr T.c_GOES (by decide +kernel)))))
theorem ok_Desk_deed (T : Tx K mg w) (FD : ∀ f : Fn, FDt K f (fdo f)) {n k1 : Nat} {c c1 : Fn → List D → Mu → Res D} (IH : OkAll P w K mg base fdo n c) (IH1 : OkAll P w K mg base fdo k1 c1) (hk : k1 + 1 ≤ n) :
    FnOk P w K mg base (L2.CX P w) (n + 1) (ad K .Desk_deed) (fdo .Desk_deed) (psOf .Desk_deed) (spM K (G K) (body c c1 .Desk_deed)) := by
  refine ok_def (N := N_Desk_deed) (FD .Desk_deed) sc_Desk_deed (by decide) (by decide) (fun cdv A outer s H E hr => ?_)
  have tk : Takes (cxOf (L2.CX P w) P w K mg base N_Desk_deed "Desk.deed" (defScope st_Desk_deed) (ad K .Desk_deed) cdv A outer s H E) (fun cls d _ H => E cls d H) := takes_of rfl rfl rfl rfl
  have hx : Passes (L2.CX P w) (cxOf (L2.CX P w) P w K mg base N_Desk_deed "Desk.deed" (defScope st_Desk_deed) (ad K .Desk_deed) cdv A outer s H E) E := passes_call tk (fun _ _ _ _ h => h)
  have hp := passes_of (X := cxOf (L2.CX P w) P w K mg base N_Desk_deed "Desk.deed" (defScope st_Desk_deed) (ad K .Desk_deed) cdv A outer s H E) rfl
  have hr1 : Room (k1 + 1) _ := hr.mono hk
  exact (ss_cons (s_set 2 (s_ix (s_var 1) s_int) sc_Desk_deed.nd) (ss_cons (s_if (s_cmpT op_inA in_s in_n (s_var 2) (s_tup (s_cons (s_gstr T.c_NEXT (by decide +kernel)) (s_cons (s_gstr T.c_STOP (by decide +kernel)) s_nil))) (by rfl)) (ss_one (s_ret (s_var 2))) ss_nil) (ss_cons (s_if (s_cmpT (op_eqA hr.units) eq_s eq_n (s_var 2) (s_str (by decide +kernel)) (nomark _)) (ss_one (s_putLA (s_fld (T.cls) (ltF rfl) rfl (s_fld (T.cls) (ltF rfl) rfl (s_var 0))) (s_ix (s_var 1) s_int) (s_meth (c := 3) (s_var 0) (T.cls.cls _) T.m_Desk_worth (IH .Desk_worth) hr (bi_Desk_worth (FD .Desk_worth)) hx nf_worth (s_cons (s_ix (s_var 1) s_int) s_nil)))) ss_nil) (ss_cons (s_if (s_cmpT (op_eqA hr.units) eq_s eq_n (s_var 2) (s_str (by decide +kernel)) (nomark _)) (ss_cons (s_set 3 (s_call (IH .f_text_of) hr rfl (T.g .f_text_of rfl) (FD .f_text_of).kp (bi_f_text_of (FD .f_text_of)) hx (s_cons (s_meth (c := 3) (s_var 0) (T.cls.cls _) T.m_Desk_worth (IH .Desk_worth) hr (bi_Desk_worth (FD .Desk_worth)) hx nf_worth (s_cons (s_ix (s_var 1) s_int) s_nil)) s_nil)) sc_Desk_deed.nd) (ss_one (s_exp (s_meth (c := 1) (s_fld (T.cls) (ltF rfl) rfl (s_var 0)) (T.cls.cls _) T.m_State_put (IH .State_put) hr (bi_State_put (FD .State_put)) hx nf_put (s_cons (s_ix (s_var 1) s_int) (s_cons (s_var 3) (s_cons (s_meth (c := 3) (s_var 0) (T.cls.cls _) T.m_Desk_worth (IH .Desk_worth) hr (bi_Desk_worth (FD .Desk_worth)) hx nf_worth (s_cons (s_ix (s_var 1) s_int) s_nil)) s_nil))))))) ss_nil) (ss_cons (s_if (s_cmpT (op_eqA hr.units) eq_s eq_n (s_var 2) (s_str (by decide +kernel)) (nomark _)) (ss_one (s_exp (s_meth (c := 1) (s_fld (T.cls) (ltF rfl) rfl (s_var 0)) (T.cls.cls _) T.m_State_drop (IH .State_drop) hr (bi_State_drop (FD .State_drop)) hx nf_drop (s_cons (s_ix (s_var 1) s_int) (s_cons (s_call (IH .f_text_of) hr rfl (T.g .f_text_of rfl) (FD .f_text_of).kp (bi_f_text_of (FD .f_text_of)) hx (s_cons (s_meth (c := 3) (s_var 0) (T.cls.cls _) T.m_Desk_worth (IH .Desk_worth) hr (bi_Desk_worth (FD .Desk_worth)) hx nf_worth (s_cons (s_ix (s_var 1) s_int) s_nil)) s_nil)) s_nil))))) ss_nil) (ss_cons (s_if (s_cmpT (op_eqA hr.units) eq_s eq_n (s_var 2) (s_str (by decide +kernel)) (nomark _)) (ss_one (s_exp (s_app (s_fld (T.cls) (ltF rfl) rfl (s_fld (T.cls) (ltF rfl) rfl (s_var 0))) (s_m1 PySem.F.slot_str_join PySem.F.type_str_join mt_joinA join_s join_n (s_str (by decide +kernel)) (s_lc (own := [("part", 4)]) rfl sc_Desk_deed.nd (s_ix (s_var 1) s_int) (blkOk_by (N := N_Desk_deed) (sc := defScope (st_Desk_deed)) (by decide +kernel)) (fun _ _ _ _ _ => pg_name (i := 4) sc_Desk_deed.nd rfl (Or.inl rfl)) tgw_name (fun _ _ _ _ _ => s_noIf) (fun _ _ _ _ _ => (s_call (IH .f_text_of) hr rfl (T.g .f_text_of rfl) (FD .f_text_of).kp (bi_f_text_of (FD .f_text_of)) passL (s_cons (s_meth (c := 3) (s_var 0) (T.cls.cls _) T.m_Desk_worth (IH .Desk_worth) hr (bi_Desk_worth (FD .Desk_worth)) passL nf_worth (s_cons (s_var 4) s_nil)) s_nil)))))))) ss_nil) (ss_cons (s_if (s_cmpT (op_eqA hr.units) eq_s eq_n (s_var 2) (s_str (by decide +kernel)) (nomark _)) (ss_one (s_ret (s_meth (c := 3) (s_var 0) (T.cls.cls _) T.m_Desk_block (IH .Desk_block) hr (bi_Desk_block (FD .Desk_block)) hx nf_block (s_cons (s_ifE (s_tr (s_call (IH .f_is_true) hr rfl (T.g .f_is_true rfl) (FD .f_is_true).kp (bi_f_is_true (FD .f_is_true)) hx (s_cons (s_meth (c := 3) (s_var 0) (T.cls.cls _) T.m_Desk_worth (IH .Desk_worth) hr (bi_Desk_worth (FD .Desk_worth)) hx nf_worth (s_cons (s_ix (s_var 1) s_int) s_nil)) s_nil))) (s_ix (s_var 1) s_int) (s_ix (s_var 1) s_int)) s_nil)))) ss_nil) (ss_one (s_ret (s_ifE (s_cmpT (op_eqA hr.units) eq_s eq_n (s_var 2) (s_str (by decide +kernel)) (nomark _)) (s_meth (c := 3) (s_var 0) (T.cls.cls _) T.m_Desk_walk (IH .Desk_walk) hr (bi_Desk_walk (FD .Desk_walk)) hx nf_walk (s_cons (s_var 1) s_nil)) (s_gstr T.c_GOES (by decide +kernel))))))))))))
theorem ok_Desk_walk (T : Tx K mg w) (FD : ∀ f : Fn, FDt K f (fdo f)) {n k1 : Nat} {c c1 : Fn → List D → Mu → Res D} (IH : OkAll P w K mg base fdo n c) (IH1 : OkAll P w K mg base fdo k1 c1) (hk : k1 + 1 ≤ n) :
    FnOk P w K mg base (L2.CX P w) (n + 1) (ad K .Desk_walk) (fdo .Desk_walk) (psOf .Desk_walk) (spM K (G K) (body c c1 .Desk_walk)) := by
  refine ok_def (N := N_Desk_walk) (FD .Desk_walk) sc_Desk_walk (by decide) (by decide) (fun cdv A outer s H E hr => ?_)
  have tk : Takes (cxOf (L2.CX P w) P w K mg base N_Desk_walk "Desk.walk" (defScope st_Desk_walk) (ad K .Desk_walk) cdv A outer s H E) (fun cls d _ H => E cls d H) := takes_of rfl rfl rfl rfl
  have hx : Passes (L2.CX P w) (cxOf (L2.CX P w) P w K mg base N_Desk_walk "Desk.walk" (defScope st_Desk_walk) (ad K .Desk_walk) cdv A outer s H E) E := passes_call tk (fun _ _ _ _ h => h)
  have hp := passes_of (X := cxOf (L2.CX P w) P w K mg base N_Desk_walk "Desk.walk" (defScope st_Desk_walk) (ad K .Desk_walk) cdv A outer s H E) rfl
  have hr1 : Room (k1 + 1) _ := hr.mono hk
  exact ss_bad
theorem ok_Desk_do_all (T : Tx K mg w) (FD : ∀ f : Fn, FDt K f (fdo f)) {n k1 : Nat} {c c1 : Fn → List D → Mu → Res D} (IH : OkAll P w K mg base fdo n c) (IH1 : OkAll P w K mg base fdo k1 c1) (hk : k1 + 1 ≤ n) :
    FnOk P w K mg base (L2.CX P w) (n + 1) (ad K .Desk_do_all) (fdo .Desk_do_all) (psOf .Desk_do_all) (spM K (G K) (body c c1 .Desk_do_all)) := by
  refine ok_def (N := N_Desk_do_all) (FD .Desk_do_all) sc_Desk_do_all (by decide) (by decide) (fun cdv A outer s H E hr => ?_)
  have tk : Takes (cxOf (L2.CX P w) P w K mg base N_Desk_do_all "Desk.do_all" (defScope st_Desk_do_all) (ad K .Desk_do_all) cdv A outer s H E) (fun cls d _ H => E cls d H) := takes_of rfl rfl rfl rfl
  have hx : Passes (L2.CX P w) (cxOf (L2.CX P w) P w K mg base N_Desk_do_all "Desk.do_all" (defScope st_Desk_do_all) (ad K .Desk_do_all) cdv A outer s H E) E := passes_call tk (fun _ _ _ _ h => h)
  have hp := passes_of (X := cxOf (L2.CX P w) P w K mg base N_Desk_do_all "Desk.do_all" (defScope st_Desk_do_all) (ad K .Desk_do_all) cdv A outer s H E) rfl
  have hr1 : Room (k1 + 1) _ := hr.mono hk
  exact (ss_cons (s_for hp rfl (s_fld (T.cls) (ltF rfl) rfl (s_var 0)) (pg_name (i := 2) sc_Desk_do_all.nd rfl (by first | exact Or.inl rfl | exact Or.inr rfl)) tg_name (ss_one (s_if (s_w (s_wand (s_cmpT (op_eqA hr.units) eq_s eq_n (s_ix (s_var 2) s_int) (s_var 1) (nomark _)) (s_wand1 (s_cmpT (op_eqA hr.units) eq_s eq_n (s_meth (c := 3) (s_var 0) (T.cls.cls _) T.m_Desk_block (IH .Desk_block) hr (bi_Desk_block (FD .Desk_block)) hx nf_block (s_cons (s_ix (s_var 2) s_int) s_nil)) (s_gstr T.c_STOP (by decide +kernel)) (nomark _))))) (ss_one (s_ret s_bl)) ss_nil))) (ss_one (s_ret s_bl)))
theorem ok_Desk_begin (T : Tx K mg w) (FD : ∀ f : Fn, FDt K f (fdo f)) {n k1 : Nat} {c c1 : Fn → List D → Mu → Res D} (IH : OkAll P w K mg base fdo n c) (IH1 : OkAll P w K mg base fdo k1 c1) (hk : k1 + 1 ≤ n) :
    FnOk P w K mg base (L2.CX P w) (n + 1) (ad K .Desk_begin) (fdo .Desk_begin) (psOf .Desk_begin) (spM K (G K) (body c c1 .Desk_begin)) := by
  refine ok_def (N := N_Desk_begin) (FD .Desk_begin) sc_Desk_begin (by decide) (by decide) (fun cdv A outer s H E hr => ?_)
  have tk : Takes (cxOf (L2.CX P w) P w K mg base N_Desk_begin "Desk.begin" (defScope st_Desk_begin) (ad K .Desk_begin) cdv A outer s H E) (fun cls d _ H => E cls d H) := takes_of rfl rfl rfl rfl
  have hx : Passes (L2.CX P w) (cxOf (L2.CX P w) P w K mg base N_Desk_begin "Desk.begin" (defScope st_Desk_begin) (ad K .Desk_begin) cdv A outer s H E) E := passes_call tk (fun _ _ _ _ h => h)
  have hp := passes_of (X := cxOf (L2.CX P w) P w K mg base N_Desk_begin "Desk.begin" (defScope st_Desk_begin) (ad K .Desk_begin) cdv A outer s H E) rfl
  have hr1 : Room (k1 + 1) _ := hr.mono hk
  exact (ss_cons (s_exp (s_meth (c := 1) (s_fld (T.cls) (ltF rfl) rfl (s_var 0)) (T.cls.cls _) T.m_State_need (IH .State_need) hr (bi_State_need (FD .State_need)) hx nf_need (s_cons (s_gstr T.c_FRESH (by decide +kernel)) s_nil))) (ss_cons (s_sfld T.cls (ltF rfl) rfl (s_fld (T.cls) (ltF rfl) rfl (s_var 0)) (s_gstr T.c_READING (by decide +kernel))) (ss_cons (s_sfld T.cls (ltF rfl) rfl (s_fld (T.cls) (ltF rfl) rfl (s_var 0)) (s_meth (c := 3) (s_var 0) (T.cls.cls _) T.m_Desk_do_all (IH .Desk_do_all) hr (bi_Desk_do_all (FD .Desk_do_all)) hx nf_do_all (s_cons (s_str (by decide +kernel)) s_nil))) (ss_one (s_ret (s_meth0 (c := 1) (s_fld (T.cls) (ltF rfl) rfl (s_var 0)) (T.cls.cls _) T.m_State_taken (IH .State_taken) hr (bi_State_taken (FD .State_taken)) hx nf_taken))))))
theorem ok_Desk_file (T : Tx K mg w) (FD : ∀ f : Fn, FDt K f (fdo f)) {n k1 : Nat} {c c1 : Fn → List D → Mu → Res D} (IH : OkAll P w K mg base fdo n c) (IH1 : OkAll P w K mg base fdo k1 c1) (hk : k1 + 1 ≤ n) :
    FnOk P w K mg base (L2.CX P w) (n + 1) (ad K .Desk_file) (fdo .Desk_file) (psOf .Desk_file) (spM K (G K) (body c c1 .Desk_file)) := by
  refine ok_def (N := N_Desk_file) (FD .Desk_file) sc_Desk_file (by decide) (by decide) (fun cdv A outer s H E hr => ?_)
  have tk : Takes (cxOf (L2.CX P w) P w K mg base N_Desk_file "Desk.file" (defScope st_Desk_file) (ad K .Desk_file) cdv A outer s H E) (fun cls d _ H => E cls d H) := takes_of rfl rfl rfl rfl
  have hx : Passes (L2.CX P w) (cxOf (L2.CX P w) P w K mg base N_Desk_file "Desk.file" (defScope st_Desk_file) (ad K .Desk_file) cdv A outer s H E) E := passes_call tk (fun _ _ _ _ h => h)
  have hp := passes_of (X := cxOf (L2.CX P w) P w K mg base N_Desk_file "Desk.file" (defScope st_Desk_file) (ad K .Desk_file) cdv A outer s H E) rfl
  have hr1 : Room (k1 + 1) _ := hr.mono hk
  exact ss_bad
theorem ok_Desk_line (T : Tx K mg w) (FD : ∀ f : Fn, FDt K f (fdo f)) {n k1 : Nat} {c c1 : Fn → List D → Mu → Res D} (IH : OkAll P w K mg base fdo n c) (IH1 : OkAll P w K mg base fdo k1 c1) (hk : k1 + 1 ≤ n) :
    FnOk P w K mg base (L2.CX P w) (n + 1) (ad K .Desk_line) (fdo .Desk_line) (psOf .Desk_line) (spM K (G K) (body c c1 .Desk_line)) := by
  refine ok_def (N := N_Desk_line) (FD .Desk_line) sc_Desk_line (by decide) (by decide) (fun cdv A outer s H E hr => ?_)
  have tk : Takes (cxOf (L2.CX P w) P w K mg base N_Desk_line "Desk.line" (defScope st_Desk_line) (ad K .Desk_line) cdv A outer s H E) (fun cls d _ H => E cls d H) := takes_of rfl rfl rfl rfl
  have hx : Passes (L2.CX P w) (cxOf (L2.CX P w) P w K mg base N_Desk_line "Desk.line" (defScope st_Desk_line) (ad K .Desk_line) cdv A outer s H E) E := passes_call tk (fun _ _ _ _ h => h)
  have hp := passes_of (X := cxOf (L2.CX P w) P w K mg base N_Desk_line "Desk.line" (defScope st_Desk_line) (ad K .Desk_line) cdv A outer s H E) rfl
  have hr1 : Room (k1 + 1) _ := hr.mono hk
  exact ss_bad
theorem ok_Desk_end (T : Tx K mg w) (FD : ∀ f : Fn, FDt K f (fdo f)) {n k1 : Nat} {c c1 : Fn → List D → Mu → Res D} (IH : OkAll P w K mg base fdo n c) (IH1 : OkAll P w K mg base fdo k1 c1) (hk : k1 + 1 ≤ n) :
    FnOk P w K mg base (L2.CX P w) (n + 1) (ad K .Desk_end) (fdo .Desk_end) (psOf .Desk_end) (spM K (G K) (body c c1 .Desk_end)) := by
  refine ok_def (N := N_Desk_end) (FD .Desk_end) sc_Desk_end (by decide) (by decide) (fun cdv A outer s H E hr => ?_)
  have tk : Takes (cxOf (L2.CX P w) P w K mg base N_Desk_end "Desk.end" (defScope st_Desk_end) (ad K .Desk_end) cdv A outer s H E) (fun cls d _ H => E cls d H) := takes_of rfl rfl rfl rfl
  have hx : Passes (L2.CX P w) (cxOf (L2.CX P w) P w K mg base N_Desk_end "Desk.end" (defScope st_Desk_end) (ad K .Desk_end) cdv A outer s H E) E := passes_call tk (fun _ _ _ _ h => h)
  have hp := passes_of (X := cxOf (L2.CX P w) P w K mg base N_Desk_end "Desk.end" (defScope st_Desk_end) (ad K .Desk_end) cdv A outer s H E) rfl
  have hr1 : Room (k1 + 1) _ := hr.mono hk
  exact (ss_cons (s_exp (s_meth (c := 1) (s_fld (T.cls) (ltF rfl) rfl (s_var 0)) (T.cls.cls _) T.m_State_need (IH .State_need) hr (bi_State_need (FD .State_need)) hx nf_need (s_cons (s_gstr T.c_READING (by decide +kernel)) s_nil))) (ss_cons (s_sfld T.cls (ltF rfl) rfl (s_fld (T.cls) (ltF rfl) rfl (s_var 0)) (s_gstr T.c_OVER (by decide +kernel))) (ss_cons (s_exp (s_meth (c := 3) (s_var 0) (T.cls.cls _) T.m_Desk_do_all (IH .Desk_do_all) hr (bi_Desk_do_all (FD .Desk_do_all)) hx nf_do_all (s_cons (s_str (by decide +kernel)) s_nil))) (ss_one (s_ret (s_meth0 (c := 1) (s_fld (T.cls) (ltF rfl) rfl (s_var 0)) (T.cls.cls _) T.m_State_taken (IH .State_taken) hr (bi_State_taken (FD .State_taken)) hx nf_taken))))))
theorem ok_step (T : Tx K mg w) (FD : ∀ f : Fn, FDt K f (fdo f)) {n k1 : Nat} {c c1 : Fn → List D → Mu → Res D} (IH : OkAll P w K mg base fdo n c) (IH1 : OkAll P w K mg base fdo k1 c1) (hk : k1 + 1 ≤ n) : OkAll P w K mg base fdo (n + 1) (body c c1)
  | .f_ring => ok_f_ring T FD IH IH1 hk
  | .f_is_number => ok_f_is_number T FD IH IH1 hk
  | .f_number_of => ok_f_number_of T FD IH IH1 hk
  | .f_text_of => ok_f_text_of T FD IH IH1 hk
  | .f_is_true => ok_f_is_true T FD IH IH1 hk
  | .f_cut => ok_f_cut T FD IH IH1 hk
  | .f_reckoned => ok_f_reckoned T FD IH IH1 hk
  | .f_held => ok_f_held T FD IH IH1 hk
  | .f_part_of => ok_f_part_of T FD IH IH1 hk
  | .f_within => ok_f_within T FD IH IH1 hk
  | .f_paired => ok_f_paired T FD IH IH1 hk
  | .f_lines_of => ok_f_lines_of T FD IH IH1 hk
  | .f_is_name => ok_f_is_name T FD IH IH1 hk
  | .f_size_of => ok_f_size_of T FD IH IH1 hk
  | .f_leaf_of => ok_f_leaf_of T FD IH IH1 hk
  | .f_inner_of => ok_f_inner_of T FD IH IH1 hk
  | .f_need_tree => ok_f_need_tree T FD IH IH1 hk
  | .f_run_by => ok_f_run_by T FD IH IH1 hk
  | .f_run => ok_f_run T FD IH IH1 hk
  | .f_law_start => ok_f_law_start T FD IH IH1 hk
  | .f_law_drawn => ok_f_law_drawn T FD IH IH1 hk
  | .f_law_leaf => ok_f_law_leaf T FD IH IH1 hk
  | .f_law => ok_f_law T FD IH IH1 hk
  | .Line_init => ok_Line_init T FD IH IH1 hk
  | .Line_field => ok_Line_field T FD IH IH1 hk
  | .State_init => ok_State_init T FD IH IH1 hk
  | .State_need => ok_State_need T FD IH IH1 hk
  | .State_taken => ok_State_taken T FD IH IH1 hk
  | .State_bare => ok_State_bare T FD IH IH1 hk
  | .State_entry => ok_State_entry T FD IH IH1 hk
  | .State_put => ok_State_put T FD IH IH1 hk
  | .State_drop => ok_State_drop T FD IH IH1 hk
  | .Looker_init => ok_Looker_init T FD IH IH1 hk
  | .Looker_need => ok_Looker_need T FD IH IH1 hk
  | .Looker_count => ok_Looker_count T FD IH IH1 hk
  | .Looker_part => ok_Looker_part T FD IH IH1 hk
  | .Looker_block => ok_Looker_block T FD IH IH1 hk
  | .Looker_deed => ok_Looker_deed T FD IH IH1 hk
  | .Looker_rule => ok_Looker_rule T FD IH IH1 hk
  | .Desk_init => ok_Desk_init T FD IH IH1 hk
  | .Desk_worth => ok_Desk_worth T FD IH IH1 hk
  | .Desk_both => ok_Desk_both T FD IH IH1 hk
  | .Desk_single => ok_Desk_single T FD IH IH1 hk
  | .Desk_block => ok_Desk_block T FD IH IH1 hk
  | .Desk_deed => ok_Desk_deed T FD IH IH1 hk
  | .Desk_walk => ok_Desk_walk T FD IH IH1 hk
  | .Desk_do_all => ok_Desk_do_all T FD IH IH1 hk
  | .Desk_begin => ok_Desk_begin T FD IH IH1 hk
  | .Desk_file => ok_Desk_file T FD IH IH1 hk
  | .Desk_line => ok_Desk_line T FD IH IH1 hk
  | .Desk_end => ok_Desk_end T FD IH IH1 hk
theorem ok_none {k : Nat} : OkAll P w K mg base fdo k (fun _ _ _ => .bad) := fun f => ⟨fun vs H Q E ⟨ρ, μ, ds, R, r, h⟩ => h.elim, fun A outer s H args us vs Q E hr he hb hv ⟨ρ, μ, ds, R, r, h⟩ => h.elim⟩
theorem ok_all (T : Tx K mg w) (FD : ∀ f : Fn, FDt K f (fdo f)) : ∀ n : Nat, OkAll P w K mg base fdo (n + 1) (callP n).1 ∧ OkAll P w K mg base fdo n (callP n).2
  | 0 => ⟨ok_none, ok_none⟩
  | n + 1 => ⟨ok_step T FD (ok_all T FD n).1 (ok_all T FD n).2 (Nat.le_refl _), (ok_all T FD n).1⟩
end
end Wk07

set_option Elab.async false
set_option linter.all false
set_option maxRecDepth 100000
set_option maxHeartbeats 0
namespace Wk07
open PySem PySem.W PySem.Calls PyProof.Rows L2 Lw
abbrev R : OpenRow := OpenLaw.row PySem.Challenge.rw_linewright_k07_whole_numbers_of_a_ring
abbrev qv : Program := view R.prog [64]
def names0 : List PySem.Str := ["_wall", "WHOLE", "HALF", "MOST_TEXT_worths", "FIGURES", "ring", "is_number", "number_of", "text_of", "is_true", "cut", "reckoned", "held", "part_of", "within", "paired", "GAP", "Line", "lines_of", "WrightError", "BadTree", "Ended", "FRESH", "READING", "OVER", "State", "LETTERS", "QUOTE", "MOST_LETTERS", "MOST_TEXT_signs"]
def names1 : List PySem.Str := ["MOST_RULES", "MOST_DEEDS", "MOST_SAID", "MOST_PARTS", "MOST_DEEP", "MOST_NUMBER", "PAIRS", "SIZES", "LOOKS", "KEYWORDS", "DEED_SIZES", "RULE_SIZES", "is_name", "size_of", "leaf_of", "inner_of", "Looker", "need_tree", "NEXT", "STOP", "GOES", "Desk", "run_by", "run", "_law_start", "_law_drawn", "_law_leaf"]
def names : List PySem.Str := names0 ++ names1
def fns : List He.DefD := [⟨atOf .f_ring, nmOf .f_ring, quOf .f_ring, defArgs st_f_ring, defBody st_f_ring, defScope st_f_ring, [], []⟩,
  ⟨atOf .f_is_number, nmOf .f_is_number, quOf .f_is_number, defArgs st_f_is_number, defBody st_f_is_number, defScope st_f_is_number, [], []⟩,
  ⟨atOf .f_number_of, nmOf .f_number_of, quOf .f_number_of, defArgs st_f_number_of, defBody st_f_number_of, defScope st_f_number_of, [], []⟩,
  ⟨atOf .f_text_of, nmOf .f_text_of, quOf .f_text_of, defArgs st_f_text_of, defBody st_f_text_of, defScope st_f_text_of, [], []⟩,
  ⟨atOf .f_is_true, nmOf .f_is_true, quOf .f_is_true, defArgs st_f_is_true, defBody st_f_is_true, defScope st_f_is_true, [], []⟩,
  ⟨atOf .f_cut, nmOf .f_cut, quOf .f_cut, defArgs st_f_cut, defBody st_f_cut, defScope st_f_cut, [], []⟩,
  ⟨atOf .f_reckoned, nmOf .f_reckoned, quOf .f_reckoned, defArgs st_f_reckoned, defBody st_f_reckoned, defScope st_f_reckoned, [], []⟩,
  ⟨atOf .f_held, nmOf .f_held, quOf .f_held, defArgs st_f_held, defBody st_f_held, defScope st_f_held, [], []⟩,
  ⟨atOf .f_part_of, nmOf .f_part_of, quOf .f_part_of, defArgs st_f_part_of, defBody st_f_part_of, defScope st_f_part_of, [], []⟩,
  ⟨atOf .f_within, nmOf .f_within, quOf .f_within, defArgs st_f_within, defBody st_f_within, defScope st_f_within, [], []⟩,
  ⟨atOf .f_paired, nmOf .f_paired, quOf .f_paired, defArgs st_f_paired, defBody st_f_paired, defScope st_f_paired, [], []⟩,
  ⟨atOf .f_lines_of, nmOf .f_lines_of, quOf .f_lines_of, defArgs st_f_lines_of, defBody st_f_lines_of, defScope st_f_lines_of, [], []⟩,
  ⟨atOf .f_is_name, nmOf .f_is_name, quOf .f_is_name, defArgs st_f_is_name, defBody st_f_is_name, defScope st_f_is_name, [], []⟩,
  ⟨atOf .f_size_of, nmOf .f_size_of, quOf .f_size_of, defArgs st_f_size_of, defBody st_f_size_of, defScope st_f_size_of, [], []⟩,
  ⟨atOf .f_leaf_of, nmOf .f_leaf_of, quOf .f_leaf_of, defArgs st_f_leaf_of, defBody st_f_leaf_of, defScope st_f_leaf_of, [], []⟩,
  ⟨atOf .f_inner_of, nmOf .f_inner_of, quOf .f_inner_of, defArgs st_f_inner_of, defBody st_f_inner_of, defScope st_f_inner_of, [], []⟩,
  ⟨atOf .f_need_tree, nmOf .f_need_tree, quOf .f_need_tree, defArgs st_f_need_tree, defBody st_f_need_tree, defScope st_f_need_tree, [], []⟩,
  ⟨atOf .f_run_by, nmOf .f_run_by, quOf .f_run_by, defArgs st_f_run_by, defBody st_f_run_by, defScope st_f_run_by, [], []⟩,
  ⟨atOf .f_run, nmOf .f_run, quOf .f_run, defArgs st_f_run, defBody st_f_run, defScope st_f_run, [], []⟩,
  ⟨atOf .f_law_start, nmOf .f_law_start, quOf .f_law_start, defArgs st_f_law_start, defBody st_f_law_start, defScope st_f_law_start, [], []⟩,
  ⟨atOf .f_law_drawn, nmOf .f_law_drawn, quOf .f_law_drawn, defArgs st_f_law_drawn, defBody st_f_law_drawn, defScope st_f_law_drawn, [], []⟩,
  ⟨atOf .f_law_leaf, nmOf .f_law_leaf, quOf .f_law_leaf, defArgs st_f_law_leaf, defBody st_f_law_leaf, defScope st_f_law_leaf, [], []⟩,
  ⟨atOf .f_law, nmOf .f_law, quOf .f_law, defArgs st_f_law, defBody st_f_law, defScope st_f_law, [], []⟩,
  ⟨atOf .Line_init, nmOf .Line_init, quOf .Line_init, defArgs st_Line_init, defBody st_Line_init, defScope st_Line_init, [], []⟩,
  ⟨atOf .Line_field, nmOf .Line_field, quOf .Line_field, defArgs st_Line_field, defBody st_Line_field, defScope st_Line_field, [], []⟩,
  ⟨atOf .State_init, nmOf .State_init, quOf .State_init, defArgs st_State_init, defBody st_State_init, defScope st_State_init, [], []⟩,
  ⟨atOf .State_need, nmOf .State_need, quOf .State_need, defArgs st_State_need, defBody st_State_need, defScope st_State_need, [], []⟩,
  ⟨atOf .State_taken, nmOf .State_taken, quOf .State_taken, defArgs st_State_taken, defBody st_State_taken, defScope st_State_taken, [], []⟩,
  ⟨atOf .State_bare, nmOf .State_bare, quOf .State_bare, defArgs st_State_bare, defBody st_State_bare, defScope st_State_bare, [], []⟩,
  ⟨atOf .State_entry, nmOf .State_entry, quOf .State_entry, defArgs st_State_entry, defBody st_State_entry, defScope st_State_entry, [], []⟩,
  ⟨atOf .State_put, nmOf .State_put, quOf .State_put, defArgs st_State_put, defBody st_State_put, defScope st_State_put, [], []⟩,
  ⟨atOf .State_drop, nmOf .State_drop, quOf .State_drop, defArgs st_State_drop, defBody st_State_drop, defScope st_State_drop, [], []⟩,
  ⟨atOf .Looker_init, nmOf .Looker_init, quOf .Looker_init, defArgs st_Looker_init, defBody st_Looker_init, defScope st_Looker_init, [], []⟩,
  ⟨atOf .Looker_need, nmOf .Looker_need, quOf .Looker_need, defArgs st_Looker_need, defBody st_Looker_need, defScope st_Looker_need, [], []⟩,
  ⟨atOf .Looker_count, nmOf .Looker_count, quOf .Looker_count, defArgs st_Looker_count, defBody st_Looker_count, defScope st_Looker_count, [], []⟩,
  ⟨atOf .Looker_part, nmOf .Looker_part, quOf .Looker_part, defArgs st_Looker_part, defBody st_Looker_part, defScope st_Looker_part, [], []⟩,
  ⟨atOf .Looker_block, nmOf .Looker_block, quOf .Looker_block, defArgs st_Looker_block, defBody st_Looker_block, defScope st_Looker_block, [], []⟩,
  ⟨atOf .Looker_deed, nmOf .Looker_deed, quOf .Looker_deed, defArgs st_Looker_deed, defBody st_Looker_deed, defScope st_Looker_deed, [], []⟩,
  ⟨atOf .Looker_rule, nmOf .Looker_rule, quOf .Looker_rule, defArgs st_Looker_rule, defBody st_Looker_rule, defScope st_Looker_rule, [], []⟩,
  ⟨atOf .Desk_init, nmOf .Desk_init, quOf .Desk_init, defArgs st_Desk_init, defBody st_Desk_init, defScope st_Desk_init, [], []⟩,
  ⟨atOf .Desk_worth, nmOf .Desk_worth, quOf .Desk_worth, defArgs st_Desk_worth, defBody st_Desk_worth, defScope st_Desk_worth, [], []⟩,
  ⟨atOf .Desk_both, nmOf .Desk_both, quOf .Desk_both, defArgs st_Desk_both, defBody st_Desk_both, defScope st_Desk_both, [], []⟩,
  ⟨atOf .Desk_single, nmOf .Desk_single, quOf .Desk_single, defArgs st_Desk_single, defBody st_Desk_single, defScope st_Desk_single, [], []⟩,
  ⟨atOf .Desk_block, nmOf .Desk_block, quOf .Desk_block, defArgs st_Desk_block, defBody st_Desk_block, defScope st_Desk_block, [], []⟩,
  ⟨atOf .Desk_deed, nmOf .Desk_deed, quOf .Desk_deed, defArgs st_Desk_deed, defBody st_Desk_deed, defScope st_Desk_deed, [], []⟩,
  ⟨atOf .Desk_walk, nmOf .Desk_walk, quOf .Desk_walk, defArgs st_Desk_walk, defBody st_Desk_walk, defScope st_Desk_walk, [], []⟩,
  ⟨atOf .Desk_do_all, nmOf .Desk_do_all, quOf .Desk_do_all, defArgs st_Desk_do_all, defBody st_Desk_do_all, defScope st_Desk_do_all, [], []⟩,
  ⟨atOf .Desk_begin, nmOf .Desk_begin, quOf .Desk_begin, defArgs st_Desk_begin, defBody st_Desk_begin, defScope st_Desk_begin, [], []⟩,
  ⟨atOf .Desk_file, nmOf .Desk_file, quOf .Desk_file, defArgs st_Desk_file, defBody st_Desk_file, defScope st_Desk_file, [], []⟩,
  ⟨atOf .Desk_line, nmOf .Desk_line, quOf .Desk_line, defArgs st_Desk_line, defBody st_Desk_line, defScope st_Desk_line, [], []⟩,
  ⟨atOf .Desk_end, nmOf .Desk_end, quOf .Desk_end, defArgs st_Desk_end, defBody st_Desk_end, defScope st_Desk_end, [], []⟩]
def fac0 : List He.Fa := [.glo "ring", .glo "is_number", .glo "number_of", .glo "text_of", .glo "is_true", .glo "cut", .glo "reckoned", .glo "held", .glo "part_of", .glo "within", .glo "paired", .glo "lines_of", .glo "is_name", .glo "size_of", .glo "leaf_of", .glo "inner_of", .glo "need_tree", .glo "run_by", .glo "run", .glo "_law_start", .glo "_law_drawn", .glo "_law_leaf", .glo "law", .cls "Line", .noat "Line" "whole"]
def fac1 : List He.Fa := [.noat "Line" "fields", .noat "Line" "stage", .noat "Line" "stopped", .noat "Line" "put_names", .noat "Line" "tables", .noat "Line" "turned", .noat "Line" "now_line", .noat "Line" "row", .noat "Line" "filerow", .noat "Line" "filing", .noat "Line" "said", .noat "Line" "parts", .noat "Line" "tree", .noat "Line" "state", .cls "State", .noat "State" "whole", .noat "State" "fields", .noat "State" "stage", .noat "State" "stopped", .noat "State" "put_names", .noat "State" "tables", .noat "State" "turned", .noat "State" "now_line", .noat "State" "row", .noat "State" "filerow"]
def fac2 : List He.Fa := [.noat "State" "filing", .noat "State" "said", .noat "State" "parts", .noat "State" "tree", .noat "State" "state", .cls "Looker", .noat "Looker" "whole", .noat "Looker" "fields", .noat "Looker" "stage", .noat "Looker" "stopped", .noat "Looker" "put_names", .noat "Looker" "tables", .noat "Looker" "turned", .noat "Looker" "now_line", .noat "Looker" "row", .noat "Looker" "filerow", .noat "Looker" "filing", .noat "Looker" "said", .noat "Looker" "parts", .noat "Looker" "tree", .noat "Looker" "state", .cls "Desk", .noat "Desk" "whole", .noat "Desk" "fields", .noat "Desk" "stage"]
def fac3 : List He.Fa := [.noat "Desk" "stopped", .noat "Desk" "put_names", .noat "Desk" "tables", .noat "Desk" "turned", .noat "Desk" "now_line", .noat "Desk" "row", .noat "Desk" "filerow", .noat "Desk" "filing", .noat "Desk" "said", .noat "Desk" "parts", .noat "Desk" "tree", .noat "Desk" "state", .free "int", .free "isinstance", .free "len", .free "list", .free "range", .free "str", .free "tuple", .glo "DEED_SIZES", .str "FIGURES" "0123456789", .str "FRESH" "fresh", .str "GAP" " ", .str "GOES" "goes", .int "HALF" 500000000]
def fac4 : List He.Fa := [.glo "KEYWORDS", .str "LETTERS" "abcdefghijklmnopqrstuvwxyz", .glo "LOOKS", .int "MOST_DEEDS" 20, .int "MOST_DEEP" 30, .int "MOST_LETTERS" 8, .int "MOST_NUMBER" 499999999, .int "MOST_PARTS" 300, .int "MOST_RULES" 20, .int "MOST_SAID" 6, .int "MOST_TEXT_signs" 50, .int "MOST_TEXT_worths" 200, .str "NEXT" "next", .str "OVER" "over", .glo "PAIRS", .str "QUOTE" "\"", .str "READING" "reading", .glo "RULE_SIZES", .glo "SIZES", .str "STOP" "stop", .int "WHOLE" 1000000000, .glo "Line", .mkr "Line", .meth "Line" "field", .glo "State"]
def fac5 : List He.Fa := [.mkr "State", .meth "State" "need", .meth "State" "taken", .meth "State" "bare", .meth "State" "entry", .meth "State" "put", .meth "State" "drop", .glo "Looker", .mkr "Looker", .meth "Looker" "need", .meth "Looker" "count", .meth "Looker" "part", .meth "Looker" "block", .meth "Looker" "deed", .meth "Looker" "rule", .glo "Desk", .mkr "Desk", .meth "Desk" "worth", .meth "Desk" "both", .meth "Desk" "single", .meth "Desk" "block", .meth "Desk" "deed", .meth "Desk" "walk", .meth "Desk" "do_all", .meth "Desk" "begin"]
def fac6 : List He.Fa := [.meth "Desk" "file", .meth "Desk" "line", .meth "Desk" "end", .exc "BadTree", .glo "BadTree", .exc "Ended", .glo "Ended"]
def fac : List He.Fa := fac0 ++ fac1 ++ fac2 ++ fac3 ++ fac4 ++ fac5 ++ fac6
def exl : List (PySem.W.Frag → Bool) := [fun K => ktabB K "DEED_SIZES" [("set", 3), ("put", 4), ("drop", 3), ("say", 2), ("if", 4), ("each", 4), ("next", 1), ("stop", 1)], fun K => He.tupB K "KEYWORDS" [.str "begin", .str "end", .str "to", .str "if", .str "else", .str "each", .str "in", .str "drop", .str "say", .str "next", .str "stop", .str "count", .str "row", .str "filerow", .str "file", .str "has", .str "size", .str "part", .str "within"], fun K => ktabB K "LOOKS" [("has", 1), ("size", 1), ("part", 3), ("minus", 1), ("not", 1)], fun K => He.tupB K "PAIRS" [.str "add", .str "less", .str "times", .str "over", .str "rest", .str "join", .str "below", .str "upto", .str "same", .str "unlike", .str "and", .str "or", .str "within"], fun K => ktabB K "RULE_SIZES" [("begin", 2), ("end", 2), ("always", 2), ("when", 3), ("from", 4)], fun K => ktabB K "SIZES" [("num", 0), ("text", 0), ("name", 0), ("at", 1), ("field", 1), ("count", 0), ("row", 0), ("filerow", 0), ("file", 0)]]
def exb (K : PySem.W.Frag) : Bool := exl.all fun p => p K
def tbs : List He.Tab := [(fun K => He.ga K "DEED_SIZES", ["set", "put", "drop", "say", "if", "each", "next", "stop"]), (fun K => He.ga K "LOOKS", ["has", "size", "part", "minus", "not"]), (fun K => He.ga K "RULE_SIZES", ["begin", "end", "always", "when", "from"]), (fun K => He.ga K "SIZES", ["num", "text", "name", "at", "field", "count", "row", "filerow", "file"])]
abbrev hk : PySem.W.Hook := He.hookX 5 fac fns tbs [] exb
def ob (s : PySem.W.SharedT) : He.AlX := He.obsX 5 fac fns tbs [] exb (HandSHeadRun.getT s)
theorem ob_eq (s : PySem.W.SharedT) : ob s = hk.obs s.abs := He.obsX_eq (HandSHeadRun.getT_eq s)
theorem runF (w : World) : HandSHeadRun.RunEq R qv hk ob 6000 names (w.withFollow "special-get-raises" false) := by
  intro os
  kernel_rfl
theorem runT (w : World) : HandSHeadRun.RunEq R qv hk ob 6000 names (w.withFollow "special-get-raises" true) := by
  intro os
  kernel_rfl
theorem run (w : World) : HandSHeadRun.RunEq R qv hk ob 6000 names w := byRow2 "special-get-raises" (P := fun w => HandSHeadRun.RunEq R qv hk ob 6000 names w) runF runT w
section
variable {w : World} {K : PySem.W.Frag} {mg : PySem.Str → Option Value} {h : Heap}
abbrev Says (w : World) (h : Heap) (K : PySem.W.Frag) : Prop := He.SaysX fac fns tbs [] exb w h K
theorem exs (c : Says w h K) (i : Nat) {p : PySem.W.Frag → Bool} (e : exl[i]? = some p) : p K = true := List.all_eq_true.mp (show (exl.all fun p => p K) = true from c.more) p (List.mem_of_getElem? e)
structure TwoOk (K : PySem.W.Frag) (n : PySem.Str) : Prop where
  cl : Cls K (He.ga K n)
  no : ∀ f, f < 15 → NoAttr K (He.ga K n) (fnm f)
theorem two_Line (c : Says w h K) : TwoOk K "Line" := ⟨He.cls_ok (c.t.d.fact 23 (f := .cls "Line") rfl), fun f hf => by
  match f, hf with
  | 0, _ => exact He.noat_ok (c.t.d.fact 24 (f := .noat "Line" "whole") rfl)
  | 1, _ => exact He.noat_ok (c.t.d.fact 25 (f := .noat "Line" "fields") rfl)
  | 2, _ => exact He.noat_ok (c.t.d.fact 26 (f := .noat "Line" "stage") rfl)
  | 3, _ => exact He.noat_ok (c.t.d.fact 27 (f := .noat "Line" "stopped") rfl)
  | 4, _ => exact He.noat_ok (c.t.d.fact 28 (f := .noat "Line" "put_names") rfl)
  | 5, _ => exact He.noat_ok (c.t.d.fact 29 (f := .noat "Line" "tables") rfl)
  | 6, _ => exact He.noat_ok (c.t.d.fact 30 (f := .noat "Line" "turned") rfl)
  | 7, _ => exact He.noat_ok (c.t.d.fact 31 (f := .noat "Line" "now_line") rfl)
  | 8, _ => exact He.noat_ok (c.t.d.fact 32 (f := .noat "Line" "row") rfl)
  | 9, _ => exact He.noat_ok (c.t.d.fact 33 (f := .noat "Line" "filerow") rfl)
  | 10, _ => exact He.noat_ok (c.t.d.fact 34 (f := .noat "Line" "filing") rfl)
  | 11, _ => exact He.noat_ok (c.t.d.fact 35 (f := .noat "Line" "said") rfl)
  | 12, _ => exact He.noat_ok (c.t.d.fact 36 (f := .noat "Line" "parts") rfl)
  | 13, _ => exact He.noat_ok (c.t.d.fact 37 (f := .noat "Line" "tree") rfl)
  | 14, _ => exact He.noat_ok (c.t.d.fact 38 (f := .noat "Line" "state") rfl)
  | n + 15, h => exact absurd h (by omega)⟩
theorem two_State (c : Says w h K) : TwoOk K "State" := ⟨He.cls_ok (c.t.d.fact 39 (f := .cls "State") rfl), fun f hf => by
  match f, hf with
  | 0, _ => exact He.noat_ok (c.t.d.fact 40 (f := .noat "State" "whole") rfl)
  | 1, _ => exact He.noat_ok (c.t.d.fact 41 (f := .noat "State" "fields") rfl)
  | 2, _ => exact He.noat_ok (c.t.d.fact 42 (f := .noat "State" "stage") rfl)
  | 3, _ => exact He.noat_ok (c.t.d.fact 43 (f := .noat "State" "stopped") rfl)
  | 4, _ => exact He.noat_ok (c.t.d.fact 44 (f := .noat "State" "put_names") rfl)
  | 5, _ => exact He.noat_ok (c.t.d.fact 45 (f := .noat "State" "tables") rfl)
  | 6, _ => exact He.noat_ok (c.t.d.fact 46 (f := .noat "State" "turned") rfl)
  | 7, _ => exact He.noat_ok (c.t.d.fact 47 (f := .noat "State" "now_line") rfl)
  | 8, _ => exact He.noat_ok (c.t.d.fact 48 (f := .noat "State" "row") rfl)
  | 9, _ => exact He.noat_ok (c.t.d.fact 49 (f := .noat "State" "filerow") rfl)
  | 10, _ => exact He.noat_ok (c.t.d.fact 50 (f := .noat "State" "filing") rfl)
  | 11, _ => exact He.noat_ok (c.t.d.fact 51 (f := .noat "State" "said") rfl)
  | 12, _ => exact He.noat_ok (c.t.d.fact 52 (f := .noat "State" "parts") rfl)
  | 13, _ => exact He.noat_ok (c.t.d.fact 53 (f := .noat "State" "tree") rfl)
  | 14, _ => exact He.noat_ok (c.t.d.fact 54 (f := .noat "State" "state") rfl)
  | n + 15, h => exact absurd h (by omega)⟩
theorem two_Looker (c : Says w h K) : TwoOk K "Looker" := ⟨He.cls_ok (c.t.d.fact 55 (f := .cls "Looker") rfl), fun f hf => by
  match f, hf with
  | 0, _ => exact He.noat_ok (c.t.d.fact 56 (f := .noat "Looker" "whole") rfl)
  | 1, _ => exact He.noat_ok (c.t.d.fact 57 (f := .noat "Looker" "fields") rfl)
  | 2, _ => exact He.noat_ok (c.t.d.fact 58 (f := .noat "Looker" "stage") rfl)
  | 3, _ => exact He.noat_ok (c.t.d.fact 59 (f := .noat "Looker" "stopped") rfl)
  | 4, _ => exact He.noat_ok (c.t.d.fact 60 (f := .noat "Looker" "put_names") rfl)
  | 5, _ => exact He.noat_ok (c.t.d.fact 61 (f := .noat "Looker" "tables") rfl)
  | 6, _ => exact He.noat_ok (c.t.d.fact 62 (f := .noat "Looker" "turned") rfl)
  | 7, _ => exact He.noat_ok (c.t.d.fact 63 (f := .noat "Looker" "now_line") rfl)
  | 8, _ => exact He.noat_ok (c.t.d.fact 64 (f := .noat "Looker" "row") rfl)
  | 9, _ => exact He.noat_ok (c.t.d.fact 65 (f := .noat "Looker" "filerow") rfl)
  | 10, _ => exact He.noat_ok (c.t.d.fact 66 (f := .noat "Looker" "filing") rfl)
  | 11, _ => exact He.noat_ok (c.t.d.fact 67 (f := .noat "Looker" "said") rfl)
  | 12, _ => exact He.noat_ok (c.t.d.fact 68 (f := .noat "Looker" "parts") rfl)
  | 13, _ => exact He.noat_ok (c.t.d.fact 69 (f := .noat "Looker" "tree") rfl)
  | 14, _ => exact He.noat_ok (c.t.d.fact 70 (f := .noat "Looker" "state") rfl)
  | n + 15, h => exact absurd h (by omega)⟩
theorem two_Desk (c : Says w h K) : TwoOk K "Desk" := ⟨He.cls_ok (c.t.d.fact 71 (f := .cls "Desk") rfl), fun f hf => by
  match f, hf with
  | 0, _ => exact He.noat_ok (c.t.d.fact 72 (f := .noat "Desk" "whole") rfl)
  | 1, _ => exact He.noat_ok (c.t.d.fact 73 (f := .noat "Desk" "fields") rfl)
  | 2, _ => exact He.noat_ok (c.t.d.fact 74 (f := .noat "Desk" "stage") rfl)
  | 3, _ => exact He.noat_ok (c.t.d.fact 75 (f := .noat "Desk" "stopped") rfl)
  | 4, _ => exact He.noat_ok (c.t.d.fact 76 (f := .noat "Desk" "put_names") rfl)
  | 5, _ => exact He.noat_ok (c.t.d.fact 77 (f := .noat "Desk" "tables") rfl)
  | 6, _ => exact He.noat_ok (c.t.d.fact 78 (f := .noat "Desk" "turned") rfl)
  | 7, _ => exact He.noat_ok (c.t.d.fact 79 (f := .noat "Desk" "now_line") rfl)
  | 8, _ => exact He.noat_ok (c.t.d.fact 80 (f := .noat "Desk" "row") rfl)
  | 9, _ => exact He.noat_ok (c.t.d.fact 81 (f := .noat "Desk" "filerow") rfl)
  | 10, _ => exact He.noat_ok (c.t.d.fact 82 (f := .noat "Desk" "filing") rfl)
  | 11, _ => exact He.noat_ok (c.t.d.fact 83 (f := .noat "Desk" "said") rfl)
  | 12, _ => exact He.noat_ok (c.t.d.fact 84 (f := .noat "Desk" "parts") rfl)
  | 13, _ => exact He.noat_ok (c.t.d.fact 85 (f := .noat "Desk" "tree") rfl)
  | 14, _ => exact He.noat_ok (c.t.d.fact 86 (f := .noat "Desk" "state") rfl)
  | n + 15, h => exact absurd h (by omega)⟩
theorem two_all (c : Says w h K) : ∀ k, TwoOk K (clsN k)
  | 0 => two_Line c
  | 1 => two_State c
  | 2 => two_Looker c
  | 3 => two_Desk c
  | n + 4 => two_Line c
theorem clsAll (c : Says w h K) : ClsAll K (G K) := ⟨fun k => (two_all c k).cl, fun k f h => (two_all c k).no f h⟩
theorem tx_of (X : K.In h) (Gm : h.Ns mainGlobals mg) (c : Says w h K) : Tx K mg w where
    g := fun f => by
      cases f <;> intro h <;> first | (cases h; done) | skip
      · exact He.glo_ok X Gm (c.t.d.fact 0 (f := .glo "ring") rfl)
      · exact He.glo_ok X Gm (c.t.d.fact 1 (f := .glo "is_number") rfl)
      · exact He.glo_ok X Gm (c.t.d.fact 2 (f := .glo "number_of") rfl)
      · exact He.glo_ok X Gm (c.t.d.fact 3 (f := .glo "text_of") rfl)
      · exact He.glo_ok X Gm (c.t.d.fact 4 (f := .glo "is_true") rfl)
      · exact He.glo_ok X Gm (c.t.d.fact 5 (f := .glo "cut") rfl)
      · exact He.glo_ok X Gm (c.t.d.fact 6 (f := .glo "reckoned") rfl)
      · exact He.glo_ok X Gm (c.t.d.fact 7 (f := .glo "held") rfl)
      · exact He.glo_ok X Gm (c.t.d.fact 8 (f := .glo "part_of") rfl)
      · exact He.glo_ok X Gm (c.t.d.fact 9 (f := .glo "within") rfl)
      · exact He.glo_ok X Gm (c.t.d.fact 10 (f := .glo "paired") rfl)
      · exact He.glo_ok X Gm (c.t.d.fact 11 (f := .glo "lines_of") rfl)
      · exact He.glo_ok X Gm (c.t.d.fact 12 (f := .glo "is_name") rfl)
      · exact He.glo_ok X Gm (c.t.d.fact 13 (f := .glo "size_of") rfl)
      · exact He.glo_ok X Gm (c.t.d.fact 14 (f := .glo "leaf_of") rfl)
      · exact He.glo_ok X Gm (c.t.d.fact 15 (f := .glo "inner_of") rfl)
      · exact He.glo_ok X Gm (c.t.d.fact 16 (f := .glo "need_tree") rfl)
      · exact He.glo_ok X Gm (c.t.d.fact 17 (f := .glo "run_by") rfl)
      · exact He.glo_ok X Gm (c.t.d.fact 18 (f := .glo "run") rfl)
      · exact He.glo_ok X Gm (c.t.d.fact 19 (f := .glo "_law_start") rfl)
      · exact He.glo_ok X Gm (c.t.d.fact 20 (f := .glo "_law_drawn") rfl)
      · exact He.glo_ok X Gm (c.t.d.fact 21 (f := .glo "_law_leaf") rfl)
      · exact He.glo_ok X Gm (c.t.d.fact 22 (f := .glo "law") rfl)
    cls := clsAll c
    b_int := He.free_ok X Gm (c.t.d.fact 87 (f := .free "int") rfl)
    b_isinstance := He.free_ok X Gm (c.t.d.fact 88 (f := .free "isinstance") rfl)
    b_len := He.free_ok X Gm (c.t.d.fact 89 (f := .free "len") rfl)
    b_list := He.free_ok X Gm (c.t.d.fact 90 (f := .free "list") rfl)
    b_range := He.free_ok X Gm (c.t.d.fact 91 (f := .free "range") rfl)
    b_str := He.free_ok X Gm (c.t.d.fact 92 (f := .free "str") rfl)
    b_tuple := He.free_ok X Gm (c.t.d.fact 93 (f := .free "tuple") rfl)
    g_DEED_SIZES := He.glo_ok X Gm (c.t.d.fact 94 (f := .glo "DEED_SIZES") rfl)
    k_DEED_SIZES := by
      have h := ktab_ok (exs c 0 rfl) (c.t.tab 0)
      have e : ([("set", 3), ("put", 4), ("drop", 3), ("say", 2), ("if", 4), ("each", 4), ("next", 1), ("stop", 1)] : List (PySem.Str × Int)).map (fun p => (p.1.cps.toList, p.2)) = k_DEED_SIZES := by decide +kernel
      rw [e] at h
      exact h
    c_FIGURES := He.str_ok X Gm (c.t.d.fact 95 (f := .str "FIGURES" "0123456789") rfl)
    c_FRESH := He.str_ok X Gm (c.t.d.fact 96 (f := .str "FRESH" "fresh") rfl)
    c_GAP := He.str_ok X Gm (c.t.d.fact 97 (f := .str "GAP" " ") rfl)
    c_GOES := He.str_ok X Gm (c.t.d.fact 98 (f := .str "GOES" "goes") rfl)
    c_HALF := He.int_ok X Gm (c.t.d.fact 99 (f := .int "HALF" 500000000) rfl)
    g_KEYWORDS := He.glo_ok X Gm (c.t.d.fact 100 (f := .glo "KEYWORDS") rfl)
    t_KEYWORDS := ktup_ok (vs := [.str "begin", .str "end", .str "to", .str "if", .str "else", .str "each", .str "in", .str "drop", .str "say", .str "next", .str "stop", .str "count", .str "row", .str "filerow", .str "file", .str "has", .str "size", .str "part", .str "within"]) (exs c 1 rfl) (by kernel_rfl)
    c_LETTERS := He.str_ok X Gm (c.t.d.fact 101 (f := .str "LETTERS" "abcdefghijklmnopqrstuvwxyz") rfl)
    g_LOOKS := He.glo_ok X Gm (c.t.d.fact 102 (f := .glo "LOOKS") rfl)
    k_LOOKS := by
      have h := ktab_ok (exs c 2 rfl) (c.t.tab 1)
      have e : ([("has", 1), ("size", 1), ("part", 3), ("minus", 1), ("not", 1)] : List (PySem.Str × Int)).map (fun p => (p.1.cps.toList, p.2)) = k_LOOKS := by decide +kernel
      rw [e] at h
      exact h
    c_MOST_DEEDS := He.int_ok X Gm (c.t.d.fact 103 (f := .int "MOST_DEEDS" 20) rfl)
    c_MOST_DEEP := He.int_ok X Gm (c.t.d.fact 104 (f := .int "MOST_DEEP" 30) rfl)
    c_MOST_LETTERS := He.int_ok X Gm (c.t.d.fact 105 (f := .int "MOST_LETTERS" 8) rfl)
    c_MOST_NUMBER := He.int_ok X Gm (c.t.d.fact 106 (f := .int "MOST_NUMBER" 499999999) rfl)
    c_MOST_PARTS := He.int_ok X Gm (c.t.d.fact 107 (f := .int "MOST_PARTS" 300) rfl)
    c_MOST_RULES := He.int_ok X Gm (c.t.d.fact 108 (f := .int "MOST_RULES" 20) rfl)
    c_MOST_SAID := He.int_ok X Gm (c.t.d.fact 109 (f := .int "MOST_SAID" 6) rfl)
    c_MOST_TEXT_signs := He.int_ok X Gm (c.t.d.fact 110 (f := .int "MOST_TEXT_signs" 50) rfl)
    c_MOST_TEXT_worths := He.int_ok X Gm (c.t.d.fact 111 (f := .int "MOST_TEXT_worths" 200) rfl)
    c_NEXT := He.str_ok X Gm (c.t.d.fact 112 (f := .str "NEXT" "next") rfl)
    c_OVER := He.str_ok X Gm (c.t.d.fact 113 (f := .str "OVER" "over") rfl)
    g_PAIRS := He.glo_ok X Gm (c.t.d.fact 114 (f := .glo "PAIRS") rfl)
    t_PAIRS := ktup_ok (vs := [.str "add", .str "less", .str "times", .str "over", .str "rest", .str "join", .str "below", .str "upto", .str "same", .str "unlike", .str "and", .str "or", .str "within"]) (exs c 3 rfl) (by kernel_rfl)
    c_QUOTE := He.str_ok X Gm (c.t.d.fact 115 (f := .str "QUOTE" "\"") rfl)
    c_READING := He.str_ok X Gm (c.t.d.fact 116 (f := .str "READING" "reading") rfl)
    g_RULE_SIZES := He.glo_ok X Gm (c.t.d.fact 117 (f := .glo "RULE_SIZES") rfl)
    k_RULE_SIZES := by
      have h := ktab_ok (exs c 4 rfl) (c.t.tab 2)
      have e : ([("begin", 2), ("end", 2), ("always", 2), ("when", 3), ("from", 4)] : List (PySem.Str × Int)).map (fun p => (p.1.cps.toList, p.2)) = k_RULE_SIZES := by decide +kernel
      rw [e] at h
      exact h
    g_SIZES := He.glo_ok X Gm (c.t.d.fact 118 (f := .glo "SIZES") rfl)
    k_SIZES := by
      have h := ktab_ok (exs c 5 rfl) (c.t.tab 3)
      have e : ([("num", 0), ("text", 0), ("name", 0), ("at", 1), ("field", 1), ("count", 0), ("row", 0), ("filerow", 0), ("file", 0)] : List (PySem.Str × Int)).map (fun p => (p.1.cps.toList, p.2)) = k_SIZES := by decide +kernel
      rw [e] at h
      exact h
    c_STOP := He.str_ok X Gm (c.t.d.fact 119 (f := .str "STOP" "stop") rfl)
    c_WHOLE := He.int_ok X Gm (c.t.d.fact 120 (f := .int "WHOLE" 1000000000) rfl)
    gc_Line := He.glo_ok X Gm (c.t.d.fact 121 (f := .glo "Line") rfl)
    mk_Line := He.mkr_ok (c.t.d.fact 122 (f := .mkr "Line") rfl)
    m_Line_field := He.meth_ok (c.t.d.fact 123 (f := .meth "Line" "field") rfl)
    gc_State := He.glo_ok X Gm (c.t.d.fact 124 (f := .glo "State") rfl)
    mk_State := He.mkr_ok (c.t.d.fact 125 (f := .mkr "State") rfl)
    m_State_need := He.meth_ok (c.t.d.fact 126 (f := .meth "State" "need") rfl)
    m_State_taken := He.meth_ok (c.t.d.fact 127 (f := .meth "State" "taken") rfl)
    m_State_bare := He.meth_ok (c.t.d.fact 128 (f := .meth "State" "bare") rfl)
    m_State_entry := He.meth_ok (c.t.d.fact 129 (f := .meth "State" "entry") rfl)
    m_State_put := He.meth_ok (c.t.d.fact 130 (f := .meth "State" "put") rfl)
    m_State_drop := He.meth_ok (c.t.d.fact 131 (f := .meth "State" "drop") rfl)
    gc_Looker := He.glo_ok X Gm (c.t.d.fact 132 (f := .glo "Looker") rfl)
    mk_Looker := He.mkr_ok (c.t.d.fact 133 (f := .mkr "Looker") rfl)
    m_Looker_need := He.meth_ok (c.t.d.fact 134 (f := .meth "Looker" "need") rfl)
    m_Looker_count := He.meth_ok (c.t.d.fact 135 (f := .meth "Looker" "count") rfl)
    m_Looker_part := He.meth_ok (c.t.d.fact 136 (f := .meth "Looker" "part") rfl)
    m_Looker_block := He.meth_ok (c.t.d.fact 137 (f := .meth "Looker" "block") rfl)
    m_Looker_deed := He.meth_ok (c.t.d.fact 138 (f := .meth "Looker" "deed") rfl)
    m_Looker_rule := He.meth_ok (c.t.d.fact 139 (f := .meth "Looker" "rule") rfl)
    gc_Desk := He.glo_ok X Gm (c.t.d.fact 140 (f := .glo "Desk") rfl)
    mk_Desk := He.mkr_ok (c.t.d.fact 141 (f := .mkr "Desk") rfl)
    m_Desk_worth := He.meth_ok (c.t.d.fact 142 (f := .meth "Desk" "worth") rfl)
    m_Desk_both := He.meth_ok (c.t.d.fact 143 (f := .meth "Desk" "both") rfl)
    m_Desk_single := He.meth_ok (c.t.d.fact 144 (f := .meth "Desk" "single") rfl)
    m_Desk_block := He.meth_ok (c.t.d.fact 145 (f := .meth "Desk" "block") rfl)
    m_Desk_deed := He.meth_ok (c.t.d.fact 146 (f := .meth "Desk" "deed") rfl)
    m_Desk_walk := He.meth_ok (c.t.d.fact 147 (f := .meth "Desk" "walk") rfl)
    m_Desk_do_all := He.meth_ok (c.t.d.fact 148 (f := .meth "Desk" "do_all") rfl)
    m_Desk_begin := He.meth_ok (c.t.d.fact 149 (f := .meth "Desk" "begin") rfl)
    m_Desk_file := He.meth_ok (c.t.d.fact 150 (f := .meth "Desk" "file") rfl)
    m_Desk_line := He.meth_ok (c.t.d.fact 151 (f := .meth "Desk" "line") rfl)
    m_Desk_end := He.meth_ok (c.t.d.fact 152 (f := .meth "Desk" "end") rfl)
    gx_BadTree := He.glo_ok X Gm (c.t.d.fact 154 (f := .glo "BadTree") rfl)
    x_BadTree := (He.exc_ok (c.t.d.fact 153 (f := .exc "BadTree") rfl)).1
    kx_BadTree := (He.exc_ok (c.t.d.fact 153 (f := .exc "BadTree") rfl)).2.1
    bx_BadTree := (He.exc_ok (c.t.d.fact 153 (f := .exc "BadTree") rfl)).2.2.1
    tx_BadTree := (He.exc_ok (c.t.d.fact 153 (f := .exc "BadTree") rfl)).2.2.2
    gx_Ended := He.glo_ok X Gm (c.t.d.fact 156 (f := .glo "Ended") rfl)
    x_Ended := (He.exc_ok (c.t.d.fact 155 (f := .exc "Ended") rfl)).1
    kx_Ended := (He.exc_ok (c.t.d.fact 155 (f := .exc "Ended") rfl)).2.1
    bx_Ended := (He.exc_ok (c.t.d.fact 155 (f := .exc "Ended") rfl)).2.2.1
    tx_Ended := (He.exc_ok (c.t.d.fact 155 (f := .exc "Ended") rfl)).2.2.2
end
end Wk07

set_option Elab.async false
set_option linter.all false
set_option maxRecDepth 100000
set_option maxHeartbeats 4000000
/-! Working the functions out: rows for simp, rules for loops. -/
namespace Lw
open PySem PySem.Spec PyProof.Rows L2
def getV : Option D → Mu → Res D
  | some .und, _ => .bad
  | some d, μ => .ok d μ
  | none, _ => .bad
section
variable {fr : Fr} {μ : Mu} {k : Nat} {a b : EM} {r : AM} {t u : TM} {s1 s2 : SM} {f : D → D → Mu → Res D} {h : D → Mu → Res D} {g : List D → Mu → Res D}
@[simp] theorem getV_non : getV (some .non) μ = .ok .non μ := rfl
@[simp] theorem getV_bl {x : Bool} : getV (some (.bl x)) μ = .ok (.bl x) μ := rfl
@[simp] theorem getV_int {x : Int} : getV (some (.int x)) μ = .ok (.int x) μ := rfl
@[simp] theorem getV_str {x : List Nat} : getV (some (.str x)) μ = .ok (.str x) μ := rfl
@[simp] theorem getV_tup {x : List D} : getV (some (.tup x)) μ = .ok (.tup x) μ := rfl
@[simp] theorem getV_frl {x : List D} : getV (some (.frl x)) μ = .ok (.frl x) μ := rfl
@[simp] theorem getV_ref {x : Nat} : getV (some (.ref x)) μ = .ok (.ref x) μ := rfl
theorem getV_of {d : D} (hd : d ≠ .und) : getV (some d) μ = .ok d μ := by cases d <;> first | rfl | exact absurd rfl hd
@[simp] theorem ap_eV : eV k fr μ = getV fr[k]? μ := by
  unfold eV
  split
  · next e => rw [e]; rfl
  · next d hn e => rw [e, getV_of (fun q => hn q)]
  · next e => rw [e]; rfl
@[simp] theorem ap_eC {d : D} : eC d fr μ = .ok d μ := rfl
@[simp] theorem ap_eBin : eBin f a b fr μ = bnd (a fr μ) fun x μ1 => bnd (b fr μ1) fun y μ2 => f x y μ2 := rfl
@[simp] theorem ap_eUn : eUn h a fr μ = bnd (a fr μ) fun x μ1 => h x μ1 := rfl
@[simp] theorem ap_aNil : aNil fr μ = .ok [] μ := rfl
@[simp] theorem ap_aCons : aCons a r fr μ = bnd (a fr μ) fun x μ1 => bnd (r fr μ1) fun xs μ2 => .ok (x :: xs) μ2 := rfl
@[simp] theorem ap_eTup : eTup r fr μ = bnd (r fr μ) fun xs μ1 => .ok (.tup xs) μ1 := rfl
@[simp] theorem ap_eLst : eLst r fr μ = bnd (r fr μ) fun xs μ1 => .ok (.ref μ1.length) (μ1 ++ [.lst xs]) := rfl
@[simp] theorem ap_eCall : eCall g r fr μ = bnd (r fr μ) fun xs μ1 => g xs μ1 := rfl
@[simp] theorem ap_eIf : eIf t a b fr μ = bnd (t fr μ) fun c μ1 => if c = true then a fr μ1 else b fr μ1 := rfl
def andR (o : Option Bool) (x : D) (μ : Mu) (k : Res D) : Res D := match o with
  | some true => k
  | some false => .ok x μ
  | none => .bad
def orR (o : Option Bool) (x : D) (μ : Mu) (k : Res D) : Res D := match o with
  | some true => .ok x μ
  | some false => k
  | none => .bad
@[simp] theorem andR_t {x : D} {k : Res D} : andR (some true) x μ k = k := rfl
@[simp] theorem andR_f {x : D} {k : Res D} : andR (some false) x μ k = .ok x μ := rfl
@[simp] theorem orR_t {x : D} {k : Res D} : orR (some true) x μ k = .ok x μ := rfl
@[simp] theorem orR_f {x : D} {k : Res D} : orR (some false) x μ k = k := rfl
@[simp] theorem tru_non : tru .non μ = some false := rfl
@[simp] theorem tru_bl {x : Bool} : tru (.bl x) μ = some x := rfl
@[simp] theorem tru_int {x : Int} : tru (.int x) μ = some (x != 0) := rfl
@[simp] theorem tru_tup {x : List D} : tru (.tup x) μ = some (!x.isEmpty) := rfl
@[simp] theorem ap_eAnd : eAnd a b fr μ = bnd (a fr μ) fun x μ1 => andR (tru x μ1) x μ1 (b fr μ1) := rfl
@[simp] theorem ap_eOr : eOr a b fr μ = bnd (a fr μ) fun x μ1 => orR (tru x μ1) x μ1 (b fr μ1) := rfl
def truR (o : Option Bool) (μ : Mu) : Res Bool := match o with
  | some b => .ok b μ
  | none => .bad
@[simp] theorem truR_s {x : Bool} : truR (some x) μ = .ok x μ := rfl
@[simp] theorem ap_eNot : eNot a fr μ = bnd (a fr μ) fun x μ1 => bnd (truR (tru x μ1) μ1) fun c μ2 => .ok (.bl (!c)) μ2 := by
  show bnd _ _ = bnd _ _
  congr; funext x μ1; cases tru x μ1 <;> rfl
@[simp] theorem ap_tTr : tTr a fr μ = bnd (a fr μ) fun x μ1 => truR (tru x μ1) μ1 := rfl
def blR (x : D) (μ : Mu) : Res Bool := match x with
  | .bl b => .ok b μ
  | _ => .bad
@[simp] theorem blR_b {x : Bool} : blR (.bl x) μ = .ok x μ := rfl
@[simp] theorem ap_tB : tB a fr μ = bnd (a fr μ) fun x μ1 => blR x μ1 := rfl
@[simp] theorem ap_tAnd : tAnd t u fr μ = bnd (t fr μ) fun c μ1 => if c = true then u fr μ1 else .ok false μ1 := rfl
@[simp] theorem ap_tOr : tOr t u fr μ = bnd (t fr μ) fun c μ1 => if c = true then .ok true μ1 else u fr μ1 := rfl
@[simp] theorem ap_tNot : tNot t fr μ = bnd (t fr μ) fun c μ1 => .ok (!c) μ1 := rfl
@[simp] theorem ap_tYesM : tYesM fr μ = .ok true μ := rfl
/-- what follows a statement -/
def sq (r : RS) (k : Fr → Mu → RS) : RS := match r with
  | .nx fr' μ' => k fr' μ'
  | r => r
@[simp] theorem sq_nx {k : Fr → Mu → RS} : sq (.nx fr μ) k = k fr μ := rfl
@[simp] theorem sq_ret {d : D} {k : Fr → Mu → RS} : sq (.ret d μ) k = .ret d μ := rfl
@[simp] theorem sq_exc {e : Exc} {k : Fr → Mu → RS} : sq (.exc e fr μ) k = .exc e fr μ := rfl
@[simp] theorem sq_bad {k : Fr → Mu → RS} : sq .bad k = .bad := rfl
@[simp] theorem sq_ite {c : Prop} [Decidable c] {p q : RS} {k : Fr → Mu → RS} : sq (if c then p else q) k = if c then sq p k else sq q k := by split <;> rfl
@[simp] theorem ap_sNx : sNx fr μ = .nx fr μ := rfl
@[simp] theorem ap_sSeq : sSeq s1 s2 fr μ = sq (s1 fr μ) s2 := by unfold sSeq sq; cases s1 fr μ <;> rfl
@[simp] theorem ap_sAsg : sAsg k a fr μ = bndS fr (a fr μ) fun d μ1 => .nx (fr.set k d) μ1 := rfl
@[simp] theorem ap_sExp : sExp a fr μ = bndS fr (a fr μ) fun _ μ1 => .nx fr μ1 := rfl
@[simp] theorem ap_sRet : sRet a fr μ = bndS fr (a fr μ) fun d μ1 => .ret d μ1 := rfl
@[simp] theorem ap_sRetN : sRetN fr μ = .ret .non μ := rfl
@[simp] theorem ap_sIf : sIf t s1 s2 fr μ = bndS fr (t fr μ) fun c μ1 => if c = true then s1 fr μ1 else s2 fr μ1 := rfl
@[simp] theorem ap_sBrk : sBrk fr μ = .brk fr μ := rfl
@[simp] theorem ap_sCt : sCt fr μ = .ct fr μ := rfl
@[simp] theorem ap_sRaise : sRaise k fr μ = .exc ⟨k, []⟩ fr μ := rfl
/-- a field's value -/
def fldR (f : Nat) (o : Option O) (μ : Mu) : Res D := match o with
  | some (.ins _ fs) => match fs.lookup f with
    | some d => .ok d μ
    | none => .bad
  | _ => .bad
theorem fldR_of {f c : Nat} {fs : List (Nat × D)} {d : D} {o : Option O} (h1 : o = some (.ins c fs)) (h2 : fs.lookup f = some d) : fldR f o μ = .ok d μ := by rw [h1]; show (match fs.lookup f with | some d => Res.ok d μ | none => .bad) = _; rw [h2]
def atR {α : Type} (x : D) (k : Nat → Res α) : Res α := match x with
  | .ref n => k n
  | _ => .bad
@[simp] theorem atR_r {α : Type} {n : Nat} {k : Nat → Res α} : atR (.ref n) k = k n := rfl
@[simp] theorem ap_eFld {f : Nat} : eFld f a fr μ = bnd (a fr μ) fun x μ1 => atR x fun n => fldR f μ1[n]? μ1 := rfl
def atS (x : D) (k : Nat → RS) : RS := match x with
  | .ref n => k n
  | _ => .bad
@[simp] theorem atS_r {n : Nat} {k : Nat → RS} : atS (.ref n) k = k n := rfl
def setF (f n : Nat) (d : D) (fr : Fr) (o : Option O) (μ : Mu) : RS := match o with
  | some (.ins c fs) => if fs.length < 500 then .nx fr (μ.set n (.ins c (putN f d fs))) else .bad
  | _ => .bad
@[simp] theorem ap_sFldM {f : Nat} : sFldM f a b fr μ = bndS fr (b fr μ) fun d μ1 => bndS fr (a fr μ1) fun x μ2 => atS x fun n => setF f n d fr μ2[n]? μ2 := rfl
theorem setF_of {f c n : Nat} {fs : List (Nat × D)} {d : D} {o : Option O} (h1 : o = some (.ins c fs)) (h2 : fs.length < 500) : setF f n d fr o μ = .nx fr (μ.set n (.ins c (putN f d fs))) := by rw [h1]; exact if_pos h2
@[simp] theorem setF_i {f c n : Nat} {fs : List (Nat × D)} {d : D} : setF f n d fr (some (.ins c fs)) μ = if fs.length < 500 then .nx fr (μ.set n (.ins c (putN f d fs))) else .bad := rfl
def getO (o : Option D) (μ : Mu) : Res D := match o with
  | some d => .ok d μ
  | none => .bad
@[simp] theorem getO_s {d : D} : getO (some d) μ = .ok d μ := rfl
@[simp] theorem fldR_i {f c : Nat} {fs : List (Nat × D)} : fldR f (some (.ins c fs)) μ = getO (fs.lookup f) μ := rfl
def methR (c : Nat) (o : Option O) (z : Res D) : Res D := match o with
  | some (.ins k _) => if k = c then z else .bad
  | _ => .bad
@[simp] theorem methR_i {c k : Nat} {fs : List (Nat × D)} {z : Res D} : methR c (some (.ins k fs)) z = if k = c then z else .bad := rfl
@[simp] theorem ap_eMeth {c : Nat} : eMeth c g a r fr μ = bnd (a fr μ) fun x μ1 => atR x fun n => methR c μ1[n]? (bnd (r fr μ1) fun ds μ2 => g (.ref n :: ds) μ2) := rfl
def nonR (d : D) (z : Res D) : Res D := match d with
  | .non => z
  | _ => .bad
@[simp] theorem nonR_n {z : Res D} : nonR .non z = z := rfl
@[simp] theorem ap_eMake {c : Nat} : eMake c g r fr μ = bnd (r fr μ) fun ds μ1 => bnd (g (.ref μ1.length :: ds) (μ1 ++ [.ins c []])) fun d μ2 => nonR d (.ok (.ref μ1.length) μ2) := rfl
def kgR (kvs : List (List Nat × Int)) (x y : D) (μ : Mu) : Res D := match x with
  | .str s => .ok ((kvs.lookup s).elim y .int) μ
  | _ => .bad
@[simp] theorem kgR_s {kvs : List (List Nat × Int)} {x : List Nat} {y : D} : kgR kvs (.str x) y μ = .ok ((kvs.lookup x).elim y .int) μ := rfl
@[simp] theorem ap_eKGet {kvs : List (List Nat × Int)} : eKGet kvs a b fr μ = bnd (a fr μ) fun x μ1 => bnd (b fr μ1) fun y μ2 => kgR kvs x y μ2 := rfl
@[simp] theorem ap_eDict0 : eDict0 fr μ = .ok (.ref μ.length) (μ ++ [.dic []]) := rfl
def lstR (o : Option O) (z : Res D) : Res D := match o with
  | some (.lst _) => z
  | _ => .bad
@[simp] theorem lstR_l {xs : List D} {z : Res D} : lstR (some (.lst xs)) z = z := rfl
def appR (n : Nat) (y : D) (o : Option O) (μ : Mu) : Res D := match o with
  | some (.lst xs) => if xs.length < LINE then .ok .non (μ.set n (.lst (xs ++ [y]))) else .bad
  | _ => .bad
@[simp] theorem appR_l {xs : List D} {n : Nat} {y : D} : appR n y (some (.lst xs)) μ = if xs.length < LINE then .ok .non (μ.set n (.lst (xs ++ [y]))) else .bad := rfl
@[simp] theorem ap_eApp : eApp a b fr μ = bnd (a fr μ) fun x μ1 => atR x fun n => lstR μ1[n]? (bnd (b fr μ1) fun y μ2 => appR n y μ2[n]? μ2) := rfl
/-- what a value's items are, for a loop -/
def forD (gg : D → Fr → Option Fr) (s1 : SM) (d : D) (fr : Fr) (μ1 : Mu) : RS := match d with
  | .ref n => match μ1[n]? with
    | some (.lst xs) => forM gg s1 n xs.length 0 fr μ1
    | _ => .bad
  | .tup xs => forL gg s1 xs fr μ1
  | .frl xs => forL gg s1 xs fr μ1
  | .str xs => forL gg s1 (xs.map fun c => .str [c]) fr μ1
  | _ => .bad
@[simp] theorem ap_sFor {gg : D → Fr → Option Fr} : sFor gg a s1 fr μ = bndS fr (a fr μ) fun d μ1 => forD gg s1 d fr μ1 := rfl
@[simp] theorem forD_tup {gg : D → Fr → Option Fr} {xs : List D} : forD gg s1 (.tup xs) fr μ = forL gg s1 xs fr μ := rfl
@[simp] theorem forD_frl {gg : D → Fr → Option Fr} {xs : List D} : forD gg s1 (.frl xs) fr μ = forL gg s1 xs fr μ := rfl
theorem forD_ref {gg : D → Fr → Option Fr} {xs : List D} {n : Nat} (e : μ[n]? = some (.lst xs)) : forD gg s1 (.ref n) fr μ = forM gg s1 n xs.length 0 fr μ := by
  show (match μ[n]? with | some (.lst xs) => forM gg s1 n xs.length 0 fr μ | _ => .bad) = _
  rw [e]
@[simp] theorem forL_nil {gg : D → Fr → Option Fr} : forL gg s1 [] fr μ = .nx fr μ := rfl
def frR (o : Option Fr) (k : Fr → RS) : RS := match o with
  | none => .bad
  | some fr => k fr
@[simp] theorem frR_s {k : Fr → RS} : frR (some fr) k = k fr := rfl
/-- what follows a turn -/
def turnR (r : RS) (k : Fr → Mu → RS) : RS := match r with
  | .nx fr2 μ2 => k fr2 μ2
  | .ct fr2 μ2 => k fr2 μ2
  | .brk fr2 μ2 => .nx fr2 μ2
  | r => r
@[simp] theorem turnR_nx {k : Fr → Mu → RS} : turnR (.nx fr μ) k = k fr μ := rfl
@[simp] theorem turnR_ct {k : Fr → Mu → RS} : turnR (.ct fr μ) k = k fr μ := rfl
@[simp] theorem turnR_brk {k : Fr → Mu → RS} : turnR (.brk fr μ) k = .nx fr μ := rfl
@[simp] theorem turnR_ret {d : D} {k : Fr → Mu → RS} : turnR (.ret d μ) k = .ret d μ := rfl
@[simp] theorem turnR_exc {e : Exc} {k : Fr → Mu → RS} : turnR (.exc e fr μ) k = .exc e fr μ := rfl
@[simp] theorem gN_ap {d : D} : gN k d fr = some (fr.set k d) := rfl
theorem forL_cons {gg : D → Fr → Option Fr} {x : D} {xs : List D} : forL gg s1 (x :: xs) fr μ = frR (gg x fr) fun fr1 => turnR (s1 fr1 μ) fun fr2 μ2 => forL gg s1 xs fr2 μ2 := by
  show (match gg x fr with | none => RS.bad | some fr1 => (match s1 fr1 μ with | .nx fr2 μ2 => forL gg s1 xs fr2 μ2 | .ct fr2 μ2 => forL gg s1 xs fr2 μ2 | .brk fr2 μ2 => .nx fr2 μ2 | r => r)) = _
  cases gg x fr with
  | none => rfl
  | some fr1 =>
    show (match s1 fr1 μ with | .nx fr2 μ2 => forL gg s1 xs fr2 μ2 | .ct fr2 μ2 => forL gg s1 xs fr2 μ2 | .brk fr2 μ2 => .nx fr2 μ2 | r => r) = turnR (s1 fr1 μ) _
    cases s1 fr1 μ <;> rfl
/-- a loop over items: a rule with an invariant -/
theorem forL_rule {gg : D → Fr → Option Fr} {I : List D → Fr → Mu → Prop} {xs : List D}
    (step : ∀ x r fr μ, I (x :: r) fr μ → ∃ fr1 fr2 μ2, gg x fr = some fr1 ∧ s1 fr1 μ = .nx fr2 μ2 ∧ I r fr2 μ2) (h0 : I xs fr μ) : ∃ fr' μ', forL gg s1 xs fr μ = .nx fr' μ' ∧ I [] fr' μ' := by
  induction xs generalizing fr μ with
  | nil => exact ⟨fr, μ, rfl, h0⟩
  | cons x r ih =>
    obtain ⟨fr1, fr2, μ2, e1, e2, h2⟩ := step x r fr μ h0
    obtain ⟨fr', μ', e3, h3⟩ := ih h2
    exact ⟨fr', μ', by rw [forL_cons, e1, frR_s, e2]; exact e3, h3⟩
theorem forM_rule {gg : D → Fr → Option Fr} {n : Nat} {xs : List D} {I : List D → Fr → Mu → Prop}
    (keep : ∀ r fr μ, I r fr μ → μ[n]? = some (.lst xs))
    (step : ∀ x r fr μ, I (x :: r) fr μ → ∃ fr1 fr2 μ2, gg x fr = some fr1 ∧ s1 fr1 μ = .nx fr2 μ2 ∧ I r fr2 μ2) (h0 : I xs fr μ) : ∃ fr' μ', forM gg s1 n xs.length 0 fr μ = .nx fr' μ' ∧ I [] fr' μ' := by
  have key : ∀ (r : List D) (i : Nat) (fr : Fr) (μ : Mu), I r fr μ → xs.drop i = r → ∃ fr' μ', forM gg s1 n r.length i fr μ = .nx fr' μ' ∧ I [] fr' μ' := by
    intro r
    induction r with
    | nil =>
      intro i fr μ h d
      refine ⟨fr, μ, ?_, h⟩
      show (match μ[n]? with | some (.lst xs) => (if xs.length ≤ i then RS.nx fr μ else .bad) | _ => .bad) = _
      rw [keep _ _ _ h]
      exact if_pos (List.drop_eq_nil_iff.mp d)
    | cons x r ih =>
      intro i fr μ h d
      obtain ⟨fr1, fr2, μ2, e1, e2, h2⟩ := step x r fr μ h
      have hi : xs[i]? = some x := by
        have := congrArg List.head? d
        rwa [List.head?_drop] at this
      have hd : xs.drop (i + 1) = r := by
        have := congrArg List.tail d
        rwa [List.tail_drop] at this
      obtain ⟨fr', μ', e3, h3⟩ := ih (i + 1) fr2 μ2 h2 hd
      refine ⟨fr', μ', ?_, h3⟩
      show (match μ[n]? with
        | some (.lst xs) => (match xs[i]? with
          | none => RS.bad
          | some x => (match gg x fr with
            | none => .bad
            | some fr1 => (match s1 fr1 μ with
              | .nx fr2 μ2 => forM gg s1 n r.length (i + 1) fr2 μ2
              | .ct fr2 μ2 => forM gg s1 n r.length (i + 1) fr2 μ2
              | .brk fr2 μ2 => .nx fr2 μ2
              | r => r)))
        | _ => .bad) = _
      rw [keep _ _ _ h]
      simp only [hi, e1, e2]
      exact e3
  exact key xs 0 fr μ h0 rfl
theorem forM_0 {gg : D → Fr → Option Fr} {n : Nat} (e : μ[n]? = some (.lst [])) : forM gg s1 n 0 0 fr μ = .nx fr μ := by
  unfold forM
  rw [e]
  rfl
theorem forM_1 {gg : D → Fr → Option Fr} {n : Nat} {x : D} {fr1 fr2 : Fr} {μ2 : Mu} (e : μ[n]? = some (.lst [x])) (h1 : gg x fr = some fr1) (h2 : s1 fr1 μ = .nx fr2 μ2) (e2 : μ2[n]? = some (.lst [x])) : forM gg s1 n 1 0 fr μ = .nx fr2 μ2 := by
  unfold forM
  rw [e]
  simp only [List.getElem?_cons_zero, h1, h2]
  unfold forM
  rw [e2]
  rfl
theorem forM_2 {gg : D → Fr → Option Fr} {n : Nat} {x y : D} {fr1 fr2 fr3 fr4 : Fr} {μ2 μ4 : Mu} (e : μ[n]? = some (.lst [x, y])) (h1 : gg x fr = some fr1) (h2 : s1 fr1 μ = .nx fr2 μ2) (e2 : μ2[n]? = some (.lst [x, y])) (h3 : gg y fr2 = some fr3) (h4 : s1 fr3 μ2 = .nx fr4 μ4) (e4 : μ4[n]? = some (.lst [x, y])) :
    forM gg s1 n 2 0 fr μ = .nx fr4 μ4 := by
  unfold forM
  rw [e]
  simp only [List.getElem?_cons_zero, h1, h2]
  unfold forM
  rw [e2]
  simp only [Nat.zero_add, List.getElem?_cons_succ, List.getElem?_cons_zero, h3, h4]
  unfold forM
  rw [e4]
  rfl
/-- a while loop, by a measure -/
theorem whM_rule {I : Nat → Fr → Mu → Prop} {Q : Fr → Mu → Prop} {m : Nat}
    (step : ∀ j fr μ, I j fr μ → (∃ μ1, t fr μ = .ok false μ1 ∧ Q fr μ1) ∨ ∃ i μ1 fr2 μ2, j = i + 1 ∧ t fr μ = .ok true μ1 ∧ s1 fr μ1 = .nx fr2 μ2 ∧ I i fr2 μ2) {j : Nat} (hj : j < m) (h0 : I j fr μ) : ∃ fr' μ', whM t s1 m fr μ = .nx fr' μ' ∧ Q fr' μ' := by
  induction m generalizing j fr μ with
  | zero => exact absurd hj (Nat.not_lt_zero _)
  | succ m ih =>
    rcases step j fr μ h0 with ⟨μ1, e, q⟩ | ⟨i, μ1, fr2, μ2, rfl, e1, e2, h2⟩
    · exact ⟨fr, μ1, by unfold whM; rw [e]; rfl, q⟩
    · obtain ⟨fr', μ', e3, h3⟩ := ih (Nat.lt_of_succ_lt_succ hj) h2
      refine ⟨fr', μ', ?_, h3⟩
      unfold whM
      rw [e1]
      simp only [bndS_ok, e2]
      exact e3
theorem sWhile_of {m : Nat} {r : RS} (h : whM t s1 m fr μ = r) : sWhile m t s1 fr μ = r := h
theorem seq_nx {fr' : Fr} {μ' : Mu} (h : s1 fr μ = .nx fr' μ') : sSeq s1 s2 fr μ = s2 fr' μ' := by rw [ap_sSeq, h]; rfl
theorem seq_ret {d : D} {μ' : Mu} (h : s1 fr μ = .ret d μ') : sSeq s1 s2 fr μ = .ret d μ' := by rw [ap_sSeq, h]; rfl
def forRD (gg : D → Fr → Option Fr) (s1 : SM) (ds : List D) (fr : Fr) (μ1 : Mu) : RS := match ds with
  | [.int j] => if -(2 ^ 62) ≤ j ∧ j < 2 ^ 62 then forL gg s1 (rngL 0 j.toNat) fr μ1 else .bad
  | [.int i, .int j] => if -(2 ^ 62) ≤ i ∧ i < 2 ^ 62 ∧ -(2 ^ 62) ≤ j ∧ j < 2 ^ 62 then forL gg s1 (rngL i (j - i).toNat) fr μ1 else .bad
  | _ => .bad
@[simp] theorem ap_sForR {gg : D → Fr → Option Fr} : sForR gg r s1 fr μ = bndS fr (r fr μ) fun ds μ1 => forRD gg s1 ds fr μ1 := rfl
@[simp] theorem forRD_1 {gg : D → Fr → Option Fr} {j : Int} : forRD gg s1 [.int j] fr μ = if -(2 ^ 62) ≤ j ∧ j < 2 ^ 62 then forL gg s1 (rngL 0 j.toNat) fr μ else .bad := rfl
@[simp] theorem forRD_2 {gg : D → Fr → Option Fr} {i j : Int} : forRD gg s1 [.int i, .int j] fr μ = if -(2 ^ 62) ≤ i ∧ i < 2 ^ 62 ∧ -(2 ^ 62) ≤ j ∧ j < 2 ^ 62 then forL gg s1 (rngL i (j - i).toNat) fr μ else .bad := rfl
/-! comprehensions -/
def lcD (gg : D → Fr → Option Fr) (t : TM) (b : EM) (vs : List Nat) (d : D) (fr : Fr) (μ1 : Mu) : Res D := match d with
  | .ref l => match μ1[l]? with
    | some (.lst xs) => noX (lcM gg t b l μ1.length xs.length 0 (wipF fr vs) (μ1 ++ [.lst []]))
    | _ => .bad
  | .tup xs => noX (lcL gg t b μ1.length xs (wipF fr vs) (μ1 ++ [.lst []]))
  | .frl xs => noX (lcL gg t b μ1.length xs (wipF fr vs) (μ1 ++ [.lst []]))
  | .str xs => noX (lcL gg t b μ1.length (xs.map fun c => .str [c]) (wipF fr vs) (μ1 ++ [.lst []]))
  | _ => .bad
@[simp] theorem ap_eLc {gg : D → Fr → Option Fr} {vs : List Nat} : eLc gg a t b vs fr μ = bnd (a fr μ) fun d μ1 => lcD gg t b vs d fr μ1 := rfl
@[simp] theorem lcD_tup {gg : D → Fr → Option Fr} {vs : List Nat} {xs : List D} : lcD gg t b vs (.tup xs) fr μ = noX (lcL gg t b μ.length xs (wipF fr vs) (μ ++ [.lst []])) := rfl
@[simp] theorem lcD_frl {gg : D → Fr → Option Fr} {vs : List Nat} {xs : List D} : lcD gg t b vs (.frl xs) fr μ = noX (lcL gg t b μ.length xs (wipF fr vs) (μ ++ [.lst []])) := rfl
@[simp] theorem lcD_str {gg : D → Fr → Option Fr} {vs : List Nat} {xs : List Nat} : lcD gg t b vs (.str xs) fr μ = noX (lcL gg t b μ.length (xs.map fun c => .str [c]) (wipF fr vs) (μ ++ [.lst []])) := rfl
theorem lcD_ref {gg : D → Fr → Option Fr} {vs : List Nat} {l : Nat} {xs : List D} (e : μ[l]? = some (.lst xs)) : lcD gg t b vs (.ref l) fr μ = noX (lcM gg t b l μ.length xs.length 0 (wipF fr vs) (μ ++ [.lst []])) := by
  show (match μ[l]? with | some (O.lst xs) => noX (lcM gg t b l μ.length xs.length 0 (wipF fr vs) (μ ++ [O.lst []])) | _ => .bad) = _
  rw [e]
@[simp] theorem noX_ok {d : D} : noX (.ok d μ) = .ok d μ := rfl
theorem lcL_yes {gg : D → Fr → Option Fr} {n : Nat} {x y : D} {r acc : List D} {fr1 : Fr} {μ2 : Mu} (h1 : gg x fr = some fr1) (h2 : b fr1 μ = .ok y μ2) (h3 : μ2[n]? = some (.lst acc)) (hl : acc.length < 10000000) :
    lcL gg tYesM b n (x :: r) fr μ = lcL gg tYesM b n r fr (μ2.set n (.lst (acc ++ [y]))) := by
  conv => lhs; unfold lcL
  rw [h1]
  simp only [ap_tYesM, bnd_ok, if_true, h2, lcPut, h3, hl]
theorem lcL_nil {gg : D → Fr → Option Fr} {n : Nat} : lcL gg t b n [] fr μ = .ok (.ref n) μ := rfl
/-- a comprehension over standing items: what each item gives (none: it is left out) -/
theorem lcL_rule {gg : D → Fr → Option Fr} {n : Nat} {I : List D → List D → Fr → Mu → Prop} {xs : List D}
    (step : ∀ x r acc fr μ, I (x :: r) acc fr μ → ∃ fr1, gg x fr = some fr1 ∧ ((∃ μ1, t fr1 μ = .ok false μ1 ∧ I r acc fr μ1) ∨ ∃ μ1 y μ2, t fr1 μ = .ok true μ1 ∧ b fr1 μ1 = .ok y μ2 ∧ μ2[n]? = some (.lst acc) ∧ acc.length < 10000000 ∧ I r (acc ++ [y]) fr (μ2.set n (.lst (acc ++ [y])))))
    {acc : List D} (h0 : I xs acc fr μ) : ∃ acc' μ', lcL gg t b n xs fr μ = Res.ok (D.ref n) μ' ∧ I [] acc' fr μ' := by
  induction xs generalizing acc μ with
  | nil => exact ⟨acc, μ, rfl, h0⟩
  | cons x r ih =>
    obtain ⟨fr1, e1, h⟩ := step x r acc fr μ h0
    unfold lcL
    rw [e1]
    rcases h with ⟨μ1, e, h2⟩ | ⟨μ1, y, μ2, e, e2, e3, hl, h2⟩
    · simp only [e, bnd_ok, Bool.false_eq_true, if_false]
      exact ih h2
    · simp only [e, bnd_ok, if_true, e2, lcPut, e3, hl]
      exact ih h2
end
section
variable {fr : Fr} {μ : Mu} {a b d : EM} {f g : D → D → Mu → Res D}
def chR (k : D) (μ : Mu) (z : Res D) : Res D := match k with
  | .bl true => z
  | .bl false => .ok (.bl false) μ
  | _ => .bad
@[simp] theorem chR_b {k : Bool} {z : Res D} : chR (.bl k) μ z = if k = true then z else .ok (.bl false) μ := by cases k <;> rfl
@[simp] theorem ap_eChain : eChain f g a b d fr μ = bnd (a fr μ) fun x μ1 => bnd (b fr μ1) fun y μ2 => bnd (f x y μ2) fun k μ3 => chR k μ3 (bnd (d fr μ3) fun z μ4 => g y z μ4) := rfl
end
/-! ### operators -/
section
variable {μ : Mu}
@[simp] theorem opAdd_i {i j : Int} : opAdd (.int i) (.int j) μ = .ok (.int (i + j)) μ := rfl
@[simp] theorem opAdd_s {i j : List Nat} : opAdd (.str i) (.str j) μ = if i.length + j.length ≤ LINE then .ok (.str (i ++ j)) μ else .bad := rfl
@[simp] theorem opAdd_t {i j : List D} : opAdd (.tup i) (.tup j) μ = if i.length + j.length ≤ LINE then .ok (.tup (i ++ j)) μ else .bad := rfl
theorem opAdd_l {n k : Nat} {xs ys : List D} (h1 : μ[n]? = some (.lst xs)) (h2 : μ[k]? = some (.lst ys)) (h3 : xs.length + ys.length ≤ LINE) : opAdd (.ref n) (.ref k) μ = .ok (.ref μ.length) (μ ++ [.lst (xs ++ ys)]) := by
  show (match μ[n]?, μ[k]? with | some (.lst xs), some (.lst ys) => (if xs.length + ys.length ≤ LINE then Res.ok (D.ref μ.length) (μ ++ [O.lst (xs ++ ys)]) else .bad) | _, _ => .bad) = _
  rw [h1, h2]; exact if_pos h3
@[simp] theorem opSub_i {i j : Int} : opSub (.int i) (.int j) μ = .ok (.int (i - j)) μ := rfl
@[simp] theorem opMul_i {i j : Int} : opMul (.int i) (.int j) μ = if (-(2 ^ 64) < i ∧ i < 2 ^ 64) ∨ (-(2 ^ 64) < j ∧ j < 2 ^ 64) then .ok (.int (i * j)) μ else .bad := rfl
@[simp] theorem opFdiv_i {i j : Int} : opFdiv (.int i) (.int j) μ = if j ≠ 0 ∧ j.natAbs < 1073741824 then .ok (.int (i.fdiv j)) μ else .bad := rfl
@[simp] theorem opMod_i {i j : Int} : opMod (.int i) (.int j) μ = if j ≠ 0 then .ok (.int (i.fmod j)) μ else .bad := rfl
@[simp] theorem opNeg_i {i : Int} : opNeg (.int i) μ = .ok (.int (-i)) μ := rfl
@[simp] theorem opLt_i {i j : Int} : opLt (.int i) (.int j) μ = .ok (.bl (decide (i < j))) μ := rfl
@[simp] theorem opLe_i {i j : Int} : opLe (.int i) (.int j) μ = .ok (.bl (decide (i ≤ j))) μ := rfl
@[simp] theorem opGt_i {i j : Int} : opGt (.int i) (.int j) μ = .ok (.bl (decide (j < i))) μ := rfl
@[simp] theorem opGe_i {i j : Int} : opGe (.int i) (.int j) μ = .ok (.bl (decide (j ≤ i))) μ := rfl
@[simp] theorem opLt_s {i j : List Nat} : opLt (.str i) (.str j) μ = .ok (.bl (ltN i j)) μ := rfl
@[simp] theorem opLe_s {i j : List Nat} : opLe (.str i) (.str j) μ = .ok (.bl (!ltN j i)) μ := rfl
@[simp] theorem opEq_i {i j : Int} : opEq (.int i) (.int j) μ = .ok (.bl (decide (i = j))) μ := rfl
@[simp] theorem opEq_s {i j : List Nat} : opEq (.str i) (.str j) μ = .ok (.bl (decide (i = j))) μ := rfl
@[simp] theorem opEq_is {i : Int} {j : List Nat} : opEq (.int i) (.str j) μ = .ok (.bl false) μ := rfl
@[simp] theorem opEq_si {i : Int} {j : List Nat} : opEq (.str j) (.int i) μ = .ok (.bl false) μ := rfl
@[simp] theorem opEq_b {i j : Bool} : opEq (.bl i) (.bl j) μ = .ok (.bl (i == j)) μ := rfl
@[simp] theorem opNe_i {i j : Int} : opNe (.int i) (.int j) μ = .ok (.bl (!decide (i = j))) μ := rfl
@[simp] theorem opNe_s {i j : List Nat} : opNe (.str i) (.str j) μ = .ok (.bl (!decide (i = j))) μ := rfl
@[simp] theorem opNe_is {i : Int} {j : List Nat} : opNe (.int i) (.str j) μ = .ok (.bl true) μ := rfl
@[simp] theorem opNe_si {i : Int} {j : List Nat} : opNe (.str j) (.int i) μ = .ok (.bl true) μ := rfl
theorem opEq_ll0 {n k : Nat} (h1 : μ[n]? = some (.lst [])) (h2 : μ[k]? = some (.lst [])) : opEq (.ref n) (.ref k) μ = .ok (.bl true) μ := by
  show (match pyM (.ref n) μ, pyM (.ref k) μ with | some d, some e => (if SeqAt.shaped d = true ∧ SeqAt.shaped e = true then Res.ok (D.bl (PyData.eqv d e)) μ else .bad) | _, _ => .bad) = _
  simp only [pyM, h1, h2]
  exact if_pos (by decide)
/-- membership of plain values -/
def inR (o : Option Bool) (f : Bool → Bool) (μ : Mu) : Res D := match o with
  | some b => .ok (.bl (f b)) μ
  | none => .bad
@[simp] theorem inR_s {x : Bool} {f : Bool → Bool} : inR (some x) f μ = .ok (.bl (f x)) μ := rfl
@[simp] theorem opIn_ap {x y : D} : opIn x y μ = inR (isIn x y μ) id μ := rfl
@[simp] theorem opNotIn_ap {x y : D} : opNotIn x y μ = inR (isIn x y μ) not μ := rfl
@[simp] theorem isIn_t {x : D} {ys : List D} : isIn x (.tup ys) μ = if flatD x && ys.all flatD then some (ys.any fun z => eqF z x) else none := rfl
@[simp] theorem isIn_s {c : Nat} {t : List Nat} : isIn (.str [c]) (.str t) μ = some (decide (c ∈ t)) := rfl
@[simp] theorem flatD_s {x : List Nat} : flatD (.str x) = true := rfl
@[simp] theorem flatD_i {x : Int} : flatD (.int x) = true := rfl
@[simp] theorem eqF_s {x y : List Nat} : eqF (.str x) (.str y) = (x == y) := rfl
@[simp] theorem opIx_t {xs : List D} {i : Int} : opIx (.tup xs) (.int i) μ = getO (ixD xs i) μ := rfl
@[simp] theorem opIx_f {xs : List D} {i : Int} : opIx (.frl xs) (.int i) μ = getO (ixD xs i) μ := rfl
def ixR (i : Int) (o : Option O) (μ : Mu) : Res D := match o with
  | some (.lst xs) => getO (ixD xs i) μ
  | _ => .bad
@[simp] theorem ixR_l {xs : List D} {i : Int} : ixR i (some (.lst xs)) μ = getO (ixD xs i) μ := rfl
@[simp] theorem opIx_r {n : Nat} {i : Int} : opIx (.ref n) (.int i) μ = ixR i μ[n]? μ := rfl
@[simp] theorem ixD_0 {α : Type} {xs : List α} : ixD xs 0 = xs[0]? := rfl
@[simp] theorem ixD_1 {α : Type} {xs : List α} : ixD xs 1 = xs[1]? := rfl
@[simp] theorem ixD_2 {α : Type} {xs : List α} : ixD xs 2 = xs[2]? := rfl
@[simp] theorem ixD_3 {α : Type} {xs : List α} : ixD xs 3 = xs[3]? := rfl
theorem ixD_nat {α : Type} {xs : List α} {i : Int} (h : 0 ≤ i) : ixD xs i = xs[i.toNat]? := if_pos h
def lenR (o : Option O) (μ : Mu) : Res D := match o with
  | some (.lst xs) => .ok (.int xs.length) μ
  | _ => .bad
@[simp] theorem lenR_l {xs : List D} : lenR (some (.lst xs)) μ = .ok (.int xs.length) μ := rfl
@[simp] theorem fLen_s {x : List Nat} : fLen [.str x] μ = if x.length ≤ LINE then .ok (.int x.length) μ else .bad := rfl
@[simp] theorem fLen_t {x : List D} : fLen [.tup x] μ = .ok (.int x.length) μ := rfl
@[simp] theorem fLen_f {x : List D} : fLen [.frl x] μ = .ok (.int x.length) μ := rfl
@[simp] theorem fLen_r {n : Nat} : fLen [.ref n] μ = lenR μ[n]? μ := rfl
@[simp] theorem fIntT_b {x : Bool} : fIntT [.bl x] μ = .ok (.int (if x then 1 else 0)) μ := rfl
@[simp] theorem fIntT_i {x : Int} : fIntT [.int x] μ = .ok (.int x) μ := rfl
@[simp] theorem fList_t {x : List D} : fList [.tup x] μ = .ok (.ref μ.length) (μ ++ [.lst x]) := rfl
@[simp] theorem fList_f {x : List D} : fList [.frl x] μ = .ok (.ref μ.length) (μ ++ [.lst x]) := rfl
def tupR (o : Option O) (μ : Mu) : Res D := match o with
  | some (.lst xs) => .ok (.tup xs) μ
  | _ => .bad
@[simp] theorem tupR_l {xs : List D} : tupR (some (.lst xs)) μ = .ok (.tup xs) μ := rfl
@[simp] theorem fTuple_t {x : List D} : fTuple [.tup x] μ = .ok (.tup x) μ := rfl
@[simp] theorem fTuple_r {n : Nat} : fTuple [.ref n] μ = tupR μ[n]? μ := rfl
def kdR (o : Option String) (ks : List Kd) (μ : Mu) : Res D := match o with
  | some c => .ok (.bl (ks.any fun k => isK k c)) μ
  | none => .bad
@[simp] theorem kdR_s {c : String} {ks : List Kd} : kdR (some c) ks μ = .ok (.bl (ks.any fun k => isK k c)) μ := rfl
@[simp] theorem ap_eIsi {ks : List Kd} {a : EM} {fr : Fr} : eIsi ks a fr μ = bnd (a fr μ) fun x μ1 => kdR (kdD x μ1) ks μ1 := rfl
@[simp] theorem kdD_i {x : Int} : kdD (.int x) μ = some "int" := rfl
@[simp] theorem kdD_s {x : List Nat} : kdD (.str x) μ = some "str" := rfl
@[simp] theorem kdD_t {x : List D} : kdD (.tup x) μ = some "tuple" := rfl
@[simp] theorem kdD_b {x : Bool} : kdD (.bl x) μ = some "bool" := rfl
@[simp] theorem kdD_n : kdD .non μ = some "NoneType" := rfl
@[simp] theorem isK_ii : isK .int "int" = true := rfl
@[simp] theorem isK_is : isK .int "str" = false := rfl
@[simp] theorem isK_ss : isK .str "str" = true := rfl
@[simp] theorem isK_tt : isK .tup "tuple" = true := rfl
@[simp] theorem isK_si : isK .str "int" = false := rfl
@[simp] theorem ap_oNone {fr : Fr} : oNone fr μ = .ok none μ := rfl
def someR (d : D) (μ : Mu) : Res (Option Int) := match d with
  | .int i => .ok (some i) μ
  | _ => .bad
@[simp] theorem someR_i {i : Int} : someR (.int i) μ = .ok (some i) μ := rfl
@[simp] theorem ap_oSome {a : EM} {fr : Fr} : oSome a fr μ = bnd (a fr μ) fun d μ1 => someR d μ1 := rfl
@[simp] theorem ap_eSl {a : EM} {l h : OM} {fr : Fr} : eSl a l h fr μ = bnd (a fr μ) fun x μ1 => bnd (l fr μ1) fun l μ2 => bnd (h fr μ2) fun h μ3 => slM x l h μ3 := rfl
@[simp] theorem slM_t {xs : List D} {l h : Option Int} : slM (.tup xs) l h μ = .ok (.tup (cutD xs l h)) μ := rfl
@[simp] theorem slM_st {xs : List Nat} {l h : Option Int} : slM (.str xs) l h μ = if xs.length ≤ LINE then .ok (.str (cutD xs l h)) μ else .bad := rfl
@[simp] theorem outM_nx {fr : Fr} : outM (.nx fr μ) = .ok .non μ := rfl
@[simp] theorem outM_ret {d : D} : outM (.ret d μ) = .ok d μ := rfl
@[simp] theorem outM_exc {e : Exc} {fr : Fr} : outM (.exc e fr μ) = .exc e μ := rfl
@[simp] theorem outM_ite {c : Prop} [Decidable c] {p q : RS} : outM (if c then p else q) = if c then outM p else outM q := by split <;> rfl
@[simp] theorem bnd_ite {α β : Type} {c : Prop} [Decidable c] {p q : Res α} {f : α → Mu → Res β} : bnd (if c then p else q) f = if c then bnd p f else bnd q f := by split <;> rfl
@[simp] theorem bndS_ite {α : Type} {c : Prop} [Decidable c] {fr : Fr} {p q : Res α} {f : α → Mu → RS} : bndS fr (if c then p else q) f = if c then bndS fr p f else bndS fr q f := by split <;> rfl
/-! the store: what stands behind -/
@[simp] theorem mu_len {xs : Mu} {k : Nat} : (μ ++ xs)[μ.length + k]? = xs[k]? := by
  rw [List.getElem?_append_right (by omega)]; congr 1; omega
@[simp] theorem mu_len0 {xs : Mu} : (μ ++ xs)[μ.length]? = xs[0]? := by
  rw [List.getElem?_append_right (by omega)]; congr 1; omega
end
/-- so far as a, all but a stands -/
structure Same (a : Nat → Prop) (μ μ' : Mu) : Prop where
  le : μ.length ≤ μ'.length
  eq : ∀ k, k < μ.length → ¬ a k → μ'[k]? = μ[k]?
theorem Same.refl {a : Nat → Prop} {μ : Mu} : Same a μ μ := ⟨Nat.le_refl _, fun _ _ _ => rfl⟩
theorem Same.trans {a : Nat → Prop} {μ μ1 μ2 : Mu} (h : Same a μ μ1) (h' : Same a μ1 μ2) : Same a μ μ2 :=
  ⟨Nat.le_trans h.le h'.le, fun k hk ha => (h'.eq k (Nat.lt_of_lt_of_le hk h.le) ha).trans (h.eq k hk ha)⟩
theorem Same.app {a : Nat → Prop} {μ xs : Mu} : Same a μ (μ ++ xs) := ⟨by simp, fun k hk _ => List.getElem?_append_left hk⟩
theorem Same.set {a : Nat → Prop} {μ : Mu} {n : Nat} {o : O} (h : a n) : Same a μ (μ.set n o) := ⟨by simp, fun k hk ha => List.getElem?_set_ne (fun e => by subst e; exact ha h)⟩
theorem Same.thenSet {a : Nat → Prop} {μ μ' : Mu} {L : Nat} {o : O} (h : Same a μ μ') (hL : μ.length ≤ L) : Same a μ (μ'.set L o) :=
  ⟨by rw [List.length_set]; exact h.le, fun k hk ha => by rw [List.getElem?_set_ne (by omega)]; exact h.eq k hk ha⟩
theorem Same.thenApp {a : Nat → Prop} {μ μ' xs : Mu} (h : Same a μ μ') : Same a μ (μ' ++ xs) := h.trans .app
theorem Same.mono {a b : Nat → Prop} {μ μ' : Mu} (h : Same a μ μ') (hb : ∀ k, k < μ.length → a k → b k) : Same b μ μ' := ⟨h.le, fun k hk hn => h.eq k hk (fun q => hn (hb k hk q))⟩
theorem Same.get {a : Nat → Prop} {μ μ' : Mu} {k : Nat} {o : O} (h : Same a μ μ') (e : μ[k]? = some o) (ha : ¬ a k) : μ'[k]? = some o := by
  have : k < μ.length := by
    rcases Nat.lt_or_ge k μ.length with q | q
    · exact q
    · rw [List.getElem?_eq_none q] at e; cases e
  rw [h.eq k this ha]; exact e
theorem get_lt {μ : Mu} {k : Nat} {o : O} (e : μ[k]? = some o) : k < μ.length := by
  rcases Nat.lt_or_ge k μ.length with q | q
  · exact q
  · rw [List.getElem?_eq_none q] at e; cases e
theorem set_get {μ : Mu} {k : Nat} {o o' : O} (e : μ[k]? = some o) : (μ.set k o')[k]? = some o' := by
  rw [List.getElem?_set_self (get_lt e)]
end Lw

set_option Elab.async false
set_option linter.all false
set_option maxRecDepth 100000
set_option maxHeartbeats 4000000
namespace Wk07
open PySem Lw
def rg (i : Int) : Int := (i + 500000000).fmod 1000000000 - 500000000
variable {n : Nat} {μ : Mu}
theorem sp_ring (i : Int) : call (n + 1) .f_ring [.int i] μ = .ok (.int (rg i)) μ := by
  show outM (m_f_ring (callP n).1 (callP n).2 [.int i] μ) = _
  simp [m_f_ring, rg]
theorem sp_is_number_i (i : Int) : call (n + 1) .f_is_number [.int i] μ = .ok (.bl true) μ := by
  show outM (m_f_is_number (callP n).1 (callP n).2 [.int i] μ) = _
  simp [m_f_is_number]
theorem sp_is_number_s (s : List Nat) : call (n + 1) .f_is_number [.str s] μ = .ok (.bl false) μ := by
  show outM (m_f_is_number (callP n).1 (callP n).2 [.str s] μ) = _
  simp [m_f_is_number]
theorem sp_text_of_i (i : Int) (h : i.natAbs.log2 < 1920) : call (n + 2) .f_text_of [.int i] μ = .ok (.str (intL i)) μ := by
  show outM (m_f_text_of (call (n + 1)) (callP (n + 1)).2 [.int i] μ) = _
  simp [m_f_text_of, sp_is_number_i, fStr, h]
theorem sp_text_of_s (s : List Nat) : call (n + 2) .f_text_of [.str s] μ = .ok (.str s) μ := by
  show outM (m_f_text_of (call (n + 1)) (callP (n + 1)).2 [.str s] μ) = _
  simp [m_f_text_of, sp_is_number_s]
theorem sp_number_of_i (i : Int) : call (n + 2) .f_number_of [.int i] μ = .ok (.int i) μ := by
  show outM (m_f_number_of (call (n + 1)) (callP (n + 1)).2 [.int i, .und, .und] μ) = _
  simp [m_f_number_of, sp_is_number_i]
theorem sp_cut (s : List Nat) (h : s.length ≤ LINE) : call (n + 1) .f_cut [.str s] μ = .ok (.str (s.take 200)) μ := by
  show outM (m_f_cut (call n) (callP n).2 [.str s] μ) = _
  simp [m_f_cut, h, cutD, HT.sIx]
end Wk07

set_option Elab.async false
set_option linter.all false
set_option maxRecDepth 100000
set_option maxHeartbeats 4000000
namespace Wk07
open PySem Lw PySem.NumText
variable {n : Nat} {μ : Mu}
def isFig (c : Nat) : Bool := decide (48 ≤ c ∧ c ≤ 57)
def negB (s : List Nat) : Nat := if s.take 1 = [45] then 1 else 0
def figsOf (s : List Nat) : List Nat := (s.drop (negB s)).takeWhile isFig
def numOf (s : List Nat) : Int := if figsOf s = [] then 0 else rg ((digitsVal (figsOf s) : Int) * (1 - 2 * (negB s : Int)))
theorem negB_le (s : List Nat) : negB s ≤ s.length := by
  unfold negB
  split
  · next h => cases s with
    | nil => cases h
    | cons x r => simp
  · exact Nat.zero_le _
theorem figs_all {s : List Nat} : AllDigits (figsOf s) := fun c hc => by
  have := List.all_eq_true.mp (List.all_takeWhile (p := isFig) (l := s.drop (negB s))) c hc
  simpa [isFig] using this
theorem figIn (c : Nat) : decide (c ∈ [48, 49, 50, 51, 52, 53, 54, 55, 56, 57]) = isFig c := by
  unfold isFig
  congr 1
  simp
  omega
theorem cut1 (s : List Nat) : cutD s none (some 1) = s.take 1 := by
  unfold cutD
  show (s.drop 0).take (min 1 s.length - 0) = _
  simp
theorem get_t {s : List Nat} (b k : Nat) : s[b + k]? = (s.drop b)[k]? := by rw [List.getElem?_drop]
theorem tw_lt {p : Nat → Bool} : ∀ {t : List Nat} {k : Nat}, k < (t.takeWhile p).length → ∃ c, t[k]? = some c ∧ p c = true
  | [], k, h => by simp at h
  | x :: r, k, h => by
    rw [List.takeWhile_cons] at h
    split at h
    · next hx => cases k with
      | zero => exact ⟨x, rfl, hx⟩
      | succ k => exact tw_lt (t := r) (by simpa using h)
    · simp at h
theorem tw_end {p : Nat → Bool} : ∀ {t : List Nat}, t.length = (t.takeWhile p).length ∨ ∃ c, t[(t.takeWhile p).length]? = some c ∧ p c = false
  | [] => .inl rfl
  | x :: r => by
    rw [List.takeWhile_cons]
    split
    · rcases tw_end (p := p) (t := r) with h | ⟨c, h1, h2⟩
      · exact .inl (by simp [h])
      · exact .inr ⟨c, by simpa using h1, h2⟩
    · next hx => exact .inr ⟨x, rfl, by simpa using hx⟩
theorem tw_le {p : Nat → Bool} {t : List Nat} : (t.takeWhile p).length ≤ t.length := (List.takeWhile_sublist p).length_le
theorem tw_take {p : Nat → Bool} {t : List Nat} : t.take (t.takeWhile p).length = t.takeWhile p := (List.prefix_iff_eq_take.mp (List.takeWhile_prefix p)).symm
theorem ixD_n {α : Type} {xs : List α} (k : Nat) : ixD xs (k : Int) = xs[k]? := by rw [ixD_nat (Int.natCast_nonneg k), Int.toNat_natCast]
theorem sp_number_of_s (s : List Nat) (h : s.length ≤ 600) : call (n + 2) .f_number_of [.str s] μ = .ok (.int (numOf s)) μ := by
  show outM (m_f_number_of (call (n + 1)) (callP (n + 1)).2 [.str s, .und, .und] μ) = _
  have hL : s.length ≤ LINE := Nat.le_trans h (by decide)
  have hb : negB s ≤ s.length := negB_le s
  have hf : (figsOf s).length ≤ s.length - negB s := by
    have := tw_le (p := isFig) (t := s.drop (negB s))
    rwa [List.length_drop] at this
  have hbegin : (if s.take 1 = [45] then (D.int 1) else D.int 0) = .int (negB s : Nat) := by unfold negB; split <;> rfl
  obtain ⟨fr', μ', e, hfr⟩ := whM_rule (I := fun j fr μ' => ∃ k, fr = [.str s, .int (negB s : Nat), .int ((negB s + k : Nat) : Int)] ∧ μ' = μ ∧ k + j = (figsOf s).length) (Q := fun fr μ' => fr = [.str s, .int (negB s : Nat), .int ((negB s + (figsOf s).length : Nat) : Int)] ∧ μ' = μ)
    (t := (tAnd (tB (eBin opLt (eV 2) (eCall fLen (aCons (eV 0) aNil)))) (tB (eBin opIn (eBin opIx (eV 0) (eV 2)) (eC (.str [48, 49, 50, 51, 52, 53, 54, 55, 56, 57]))))))
    (s1 := (sAsg 2 (eBin opAdd (eV 2) (eC (.int 1))))) (m := 100000) (j := (figsOf s).length) (fr := [.str s, .int (negB s : Nat), .int (negB s : Nat)]) (μ := μ) (by
      intro j fr μ' ⟨k, e1, e2, e3⟩
      subst e1 e2
      cases j with
      | zero =>
        refine .inl ⟨μ', ?_, by simp at e3; simp [e3], rfl⟩
        have e3 : k = (figsOf s).length := by omega
        subst e3
        rcases tw_end (p := isFig) (t := s.drop (negB s)) with q | ⟨c, q1, q2⟩
        · rw [List.length_drop] at q
          have : ¬ (((negB s + (figsOf s).length : Nat) : Int) < (s.length : Int)) := by unfold figsOf; omega
          simp [hL, this]
          omega
        · have q1' : s[negB s + (figsOf s).length]? = some c := by rw [get_t]; exact q1
          have : (((negB s + (figsOf s).length : Nat) : Int) < (s.length : Int)) := by
            have := (List.getElem?_eq_some_iff.mp q1').1
            omega
          have q3 : opIx (.str s) (.int ((negB s + (figsOf s).length : Nat) : Int)) μ' = .ok (.str [c]) μ' := by
            show (if s.length ≤ LINE then (match ixD s _ with | some c => Res.ok (D.str [c]) μ' | none => .bad) else .bad) = _
            rw [if_pos hL, ixD_n, q1']
          simp only [ap_tAnd, ap_tB, ap_eBin, ap_eV, ap_eCall, ap_aCons, ap_aNil, List.getElem?_cons_succ, List.getElem?_cons_zero, getV_int, getV_str, bnd_ok, fLen_s, hL, if_true, opLt_i, blR_b, this, decide_true, q3, ap_eC, opIn_ap, isIn_s, inR_s, figIn, q2, id]
      | succ j =>
        obtain ⟨c, q1, q2⟩ := tw_lt (p := isFig) (t := s.drop (negB s)) (k := k) (by show k < (figsOf s).length; omega)
        have q1' : s[negB s + k]? = some c := by rw [get_t]; exact q1
        have : (((negB s + k : Nat) : Int) < (s.length : Int)) := by
          have := (List.getElem?_eq_some_iff.mp q1').1
          omega
        have q3 : opIx (.str s) (.int ((negB s + k : Nat) : Int)) μ' = .ok (.str [c]) μ' := by
          show (if s.length ≤ LINE then (match ixD s _ with | some c => Res.ok (D.str [c]) μ' | none => .bad) else .bad) = _
          rw [if_pos hL, ixD_n, q1']
        refine .inr ⟨j, μ', [.str s, .int (negB s : Nat), .int ((negB s + (k + 1) : Nat) : Int)], μ', rfl, ?_, ?_, k + 1, rfl, rfl, by omega⟩
        · simp only [ap_tAnd, ap_tB, ap_eBin, ap_eV, ap_eCall, ap_aCons, ap_aNil, List.getElem?_cons_succ, List.getElem?_cons_zero, getV_int, getV_str, bnd_ok, fLen_s, hL, if_true, opLt_i, blR_b, this, decide_true, q3, ap_eC, opIn_ap, isIn_s, inR_s, figIn, q2, id]
        · simp only [ap_sAsg, ap_eBin, ap_eV, List.getElem?_cons_succ, List.getElem?_cons_zero, getV_int, bnd_ok, ap_eC, opAdd_i, bndS_ok, List.set_cons_succ, List.set_cons_zero]
          rfl) (by omega) ⟨0, rfl, rfl, by omega⟩
  obtain ⟨rfl, rfl⟩ := hfr
  have e1 : (sAsg 1 (eIf (tB (eBin opEq (eSl (eV 0) oNone (oSome (eC (.int 1)))) (eC (.str [45])))) (eC (.int 1)) (eC (.int 0)))) [.str s, .und, .und] μ' = .nx [.str s, .int (negB s : Nat), .und] μ' := by
    simp [hL, cut1]
    unfold negB
    split <;> simp
  have e0 : (sIf (tTr (eCall (call (n + 1) .f_is_number) (aCons (eV 0) aNil))) (sRet (eV 0)) sNx) [.str s, .und, .und] μ' = .nx [.str s, .und, .und] μ' := by simp [sp_is_number_s]
  have e2 : (sAsg 2 (eV 1)) [.str s, .int (negB s : Nat), .und] μ' = .nx [.str s, .int (negB s : Nat), .int (negB s : Nat)] μ' := by simp
  refine (congrArg outM ((seq_nx e0).trans ((seq_nx e1).trans ((seq_nx e2).trans (seq_nx (sWhile_of e)))))).trans ?_
  unfold numOf
  by_cases h0 : figsOf s = []
  · rw [if_pos h0]
    simp [h0]
  · rw [if_neg h0]
    have h1 : ¬ (((negB s + (figsOf s).length : Nat) : Int) = (negB s : Nat)) := by
      have : (figsOf s).length ≠ 0 := fun q => h0 (List.length_eq_zero_iff.mp q)
      omega
    have h2 : cutD s (some (negB s : Nat)) (some ((negB s + (figsOf s).length : Nat) : Int)) = figsOf s := by
      unfold cutD
      rw [HT.sIx_nat, HT.sIx_nat, Nat.min_eq_left hb, Nat.min_eq_left (by omega), Nat.add_sub_cancel_left]
      exact tw_take
    have h3 : intText? ⟨(figsOf s).toArray⟩ = some ((digitsVal (figsOf s) : Nat) : Int) := intText_digits (x := ⟨(figsOf s).toArray⟩) figs_all h0 (by show (figsOf s).toArray.size ≤ 4300; simp; omega)
    have h4 : (figsOf s).length ≤ 640 := by omega
    have h5 : fIntT [.str (figsOf s)] μ' = .ok (.int ((digitsVal (figsOf s) : Nat) : Int)) μ' := by
      show (if (figsOf s).length ≤ 640 then (match intText? ⟨(figsOf s).toArray⟩ with | some n => Res.ok (D.int n) μ' | none => .bad) else .bad) = _
      rw [if_pos h4, h3]
    have h6 : (-(2 ^ 64 : Int) < 1 - 2 * ((negB s : Nat) : Int) ∧ 1 - 2 * ((negB s : Nat) : Int) < 2 ^ 64) := by
      unfold negB
      split <;> decide
    generalize hF : ([.str s, .int (negB s : Nat), .int ((negB s + (figsOf s).length : Nat) : Int)] : Fr) = F
    have g0 : F[0]? = some (.str s) := by rw [← hF]; rfl
    have g1 : F[1]? = some (.int (negB s : Nat)) := by rw [← hF]; rfl
    have g2 : F[2]? = some (.int ((negB s + (figsOf s).length : Nat) : Int)) := by rw [← hF]; rfl
    have eA : (sIf (tB (eBin opEq (eV 2) (eV 1))) (sRet (eC (.int 0))) sNx) F μ' = .nx F μ' := by
      rw [ap_sIf, ap_tB, ap_eBin, ap_eV, g2, getV_int, bnd_ok, ap_eV, g1, getV_int, bnd_ok, opEq_i, decide_eq_false h1]
      rfl
    have eB1 : (eCall fIntT (aCons (eSl (eV 0) (oSome (eV 1)) (oSome (eV 2))) aNil)) F μ' = .ok (.int ((digitsVal (figsOf s) : Nat) : Int)) μ' := by
      rw [ap_eCall, ap_aCons, ap_eSl, ap_eV, g0, getV_str, bnd_ok, ap_oSome, ap_eV, g1, getV_int, bnd_ok, someR_i, bnd_ok, ap_oSome, ap_eV, g2, getV_int, bnd_ok, someR_i, bnd_ok, slM_st, if_pos hL, h2, bnd_ok, ap_aNil, bnd_ok, bnd_ok, h5]
    have eB2 : (eBin opSub (eC (.int 1)) (eBin opMul (eC (.int 2)) (eV 1))) F μ' = .ok (.int (1 - 2 * ((negB s : Nat) : Int))) μ' := by
      rw [ap_eBin, ap_eC, bnd_ok, ap_eBin, ap_eC, bnd_ok, ap_eV, g1, getV_int, bnd_ok, opMul_i, if_pos (.inl (by decide)), bnd_ok, opSub_i]
    have eB : (eBin opMul (eCall fIntT (aCons (eSl (eV 0) (oSome (eV 1)) (oSome (eV 2))) aNil)) (eBin opSub (eC (.int 1)) (eBin opMul (eC (.int 2)) (eV 1)))) F μ' = .ok (.int ((digitsVal (figsOf s) : Nat) * (1 - 2 * ((negB s : Nat) : Int)))) μ' := by
      rw [ap_eBin, eB1, bnd_ok, eB2, bnd_ok, opMul_i, if_pos (.inr h6)]
    refine (congrArg outM (seq_nx eA)).trans ?_
    rw [ap_sRet, ap_eCall, ap_aCons, eB, bnd_ok, ap_aNil, bnd_ok, bnd_ok, sp_ring, bndS_ok]
    rfl
end Wk07

set_option Elab.async false
set_option linter.all false
set_option maxRecDepth 100000
set_option maxHeartbeats 4000000
namespace Wk07
open PySem Lw PySem.NumText PyProof.Rows
variable {n : Nat} {μ : Mu}
theorem rg_eq (i : Int) : rg i = (i + 500000000) % 1000000000 - 500000000 := by
  unfold rg
  rw [Int.fmod_eq_emod_of_nonneg _ (by decide)]
theorem rg_lo (i : Int) : -500000000 ≤ rg i := by rw [rg_eq]; omega
theorem rg_hi (i : Int) : rg i < 500000000 := by rw [rg_eq]; omega
theorem rg_id {i : Int} (h1 : -500000000 ≤ i) (h2 : i < 500000000) : rg i = i := by rw [rg_eq]; omega
theorem intL_nat (m : Nat) : intL (m : Int) = (Nat.toDigits 10 m).map Char.toNat := PySem.W.KIN.signs_num m
theorem intL_all (m : Nat) : AllDigits (intL (m : Int)) := fun c hc => by
  rw [intL_nat] at hc
  obtain ⟨ch, hch, e⟩ := List.mem_map.mp hc
  have r := Nat.isDigit_of_mem_toDigits (by decide) (by decide) hch
  rw [← e]
  have r2 : ch.isDigit = true := r
  simp only [Char.isDigit, Bool.and_eq_true, decide_eq_true_eq] at r2
  exact r2
theorem intL_ne (m : Nat) : intL (m : Int) ≠ [] := by
  rw [intL_nat]
  intro e
  have h := Nat.length_toDigits_pos (b := 10) (n := m)
  rw [List.map_eq_nil_iff.mp e] at h
  exact absurd h (by decide)
theorem tw_allD {t : List Nat} (h : AllDigits t) : t.takeWhile isFig = t := by
  induction t with
  | nil => rfl
  | cons c r ih =>
    have hc : isFig c = true := by simpa [isFig] using h c (by simp)
    rw [List.takeWhile_cons, hc, if_pos rfl, ih h.tail]
theorem numOf_pos (m : Nat) : numOf (intL (m : Int)) = rg m := by
  have hn : negB (intL (m : Int)) = 0 := by
    unfold negB
    apply if_neg
    intro e
    have h := intL_all m
    cases q : intL (m : Int) with
    | nil => exact intL_ne m q
    | cons c r =>
      rw [q] at e h
      have : c = 45 := by simpa using e
      have := h c (by simp)
      omega
  have hf : figsOf (intL (m : Int)) = intL m := by
    unfold figsOf
    rw [hn]
    exact tw_allD (intL_all m)
  unfold numOf
  rw [hf, hn, if_neg (intL_ne m), intL_nat, PySem.W.KIN.val_back]
  congr 1
  simp
theorem numOf_neg (m : Nat) : numOf (45 :: intL (m : Int)) = rg (-(m : Int)) := by
  have hn : negB (45 :: intL (m : Int)) = 1 := rfl
  have hf : figsOf (45 :: intL (m : Int)) = intL m := by
    unfold figsOf
    rw [hn]
    exact tw_allD (intL_all m)
  unfold numOf
  rw [hf, hn, if_neg (intL_ne m), intL_nat, PySem.W.KIN.val_back]
  congr 1
  simp
theorem intL_len {m : Nat} (h : m < 10 ^ 10) : (intL (m : Int)).length ≤ 10 := by
  have := PySem.W.KT.len_num (n := (m : Int)) (by omega) (by omega)
  have e : (intL (m : Int)).length = (Str.ofString (toString (m : Int))).length := Array.length_toList
  rw [e]; exact this
end Wk07

set_option Elab.async false
set_option linter.all false
set_option maxRecDepth 100000
set_option maxHeartbeats 4000000
namespace Wk07
open PySem Lw PySem.NumText PyProof.Rows
variable {n : Nat} {μ : Mu}
abbrev wAdd : List Nat := [97, 100, 100]
abbrev wLess : List Nat := [108, 101, 115, 115]
abbrev wTimes : List Nat := [116, 105, 109, 101, 115]
abbrev wOver : List Nat := [111, 118, 101, 114]
abbrev wRest : List Nat := [114, 101, 115, 116]
abbrev wUnlike : List Nat := [117, 110, 108, 105, 107, 101]
abbrev wNum : List Nat := [110, 117, 109]
abbrev wText : List Nat := [116, 101, 120, 116]
abbrev wMinus : List Nat := [109, 105, 110, 117, 115]
theorem opMul_w {a b : Int} (h1 : -1000000000000 ≤ a) (h2 : a ≤ 1000000000000) : opMul (.int a) (.int b) μ = .ok (.int (a * b)) μ := by
  rw [opMul_i]
  exact if_pos (.inl ⟨by omega, by omega⟩)
theorem sp_rk_add (a b : Int) : call (n + 2) .f_reckoned [.str wAdd, .int a, .int b] μ = .ok (.int (rg (a + b))) μ := by
  show outM (m_f_reckoned (call (n + 1)) (callP (n + 1)).2 [.str wAdd, .int a, .int b] μ) = _
  simp [m_f_reckoned, sp_ring]
theorem sp_rk_less (a b : Int) : call (n + 2) .f_reckoned [.str wLess, .int a, .int b] μ = .ok (.int (rg (a - b))) μ := by
  show outM (m_f_reckoned (call (n + 1)) (callP (n + 1)).2 [.str wLess, .int a, .int b] μ) = _
  simp [m_f_reckoned, sp_ring]
theorem sp_rk_times {a : Int} (b : Int) (h1 : -1000000000000 ≤ a) (h2 : a ≤ 1000000000000) : call (n + 2) .f_reckoned [.str wTimes, .int a, .int b] μ = .ok (.int (rg (a * b))) μ := by
  show outM (m_f_reckoned (call (n + 1)) (callP (n + 1)).2 [.str wTimes, .int a, .int b] μ) = _
  simp [-opMul_i, m_f_reckoned, sp_ring, opMul_w h1 h2]
def ovr (a b : Int) : Int := if b = 0 then 0 else rg (a.fdiv b)
def rst (a b : Int) : Int := if b = 0 then 0 else rg (a.fmod b)
theorem sp_rk_over {a b : Int} (h : b.natAbs < 1073741824) : call (n + 2) .f_reckoned [.str wOver, .int a, .int b] μ = .ok (.int (ovr a b)) μ := by
  show outM (m_f_reckoned (call (n + 1)) (callP (n + 1)).2 [.str wOver, .int a, .int b] μ) = _
  by_cases h0 : b = 0
  · simp [m_f_reckoned, ovr, h0]
  · simp [m_f_reckoned, sp_ring, ovr, h0, h]
theorem sp_rk_rest {a b : Int} : call (n + 2) .f_reckoned [.str wRest, .int a, .int b] μ = .ok (.int (rst a b)) μ := by
  show outM (m_f_reckoned (call (n + 1)) (callP (n + 1)).2 [.str wRest, .int a, .int b] μ) = _
  by_cases h0 : b = 0
  · simp [m_f_reckoned, rst, h0]
  · simp [m_f_reckoned, sp_ring, rst, h0]
/-- a worth: a number of the ring, a text -/
inductive Wo : D → Prop
  | int {i : Int} (h1 : -500000000 ≤ i) (h2 : i < 500000000) : Wo (.int i)
  | str {s : List Nat} (h : s.length ≤ 200) : Wo (.str s)
def numD : D → Int
  | .int i => i
  | .str s => numOf s
  | _ => 0
theorem numOf_b (s : List Nat) : -500000000 ≤ numOf s ∧ numOf s < 500000000 := by
  unfold numOf
  split
  · exact ⟨by decide, by decide⟩
  · exact ⟨rg_lo _, rg_hi _⟩
theorem numD_b {v : D} (h : Wo v) : -500000000 ≤ numD v ∧ numD v < 500000000 := by
  cases h with
  | int h1 h2 => exact ⟨h1, h2⟩
  | str h => exact numOf_b _
theorem sp_number_of {v : D} (h : Wo v) : call (n + 2) .f_number_of [v] μ = .ok (.int (numD v)) μ := by
  cases h with
  | int h1 h2 => exact sp_number_of_i _
  | str h => exact sp_number_of_s _ (by omega)
theorem log_ok {i : Int} (h1 : -500000000 ≤ i) (h2 : i < 500000000) : i.natAbs.log2 < 1920 := by
  have h : i.natAbs < 2 ^ 30 := by omega
  by_cases h0 : i.natAbs = 0
  · rw [h0]; decide
  · have := (Nat.log2_lt h0).mpr h
    omega
def textD : D → List Nat
  | .int i => intL i
  | .str s => s
  | _ => []
theorem sp_text_of {v : D} (h : Wo v) : call (n + 2) .f_text_of [v] μ = .ok (.str (textD v)) μ := by
  cases h with
  | int h1 h2 => exact sp_text_of_i _ (log_ok h1 h2)
  | str h => exact sp_text_of_s _
theorem Wo.gv {v : D} (h : Wo v) : getV (some v) μ = .ok v μ := by cases h <;> rfl
/-- what the five words reckon -/
def arD (w : List Nat) (a b : Int) : Int := if w = wAdd then rg (a + b) else if w = wLess then rg (a - b) else if w = wTimes then rg (a * b) else if w = wOver then ovr a b else rst a b
inductive Ar : List Nat → Prop
  | add : Ar wAdd | less : Ar wLess | times : Ar wTimes | over : Ar wOver | rest : Ar wRest
theorem ovr_b (a b : Int) : -500000000 ≤ ovr a b ∧ ovr a b < 500000000 := by
  unfold ovr; split
  · exact ⟨by decide, by decide⟩
  · exact ⟨rg_lo _, rg_hi _⟩
theorem rst_b (a b : Int) : -500000000 ≤ rst a b ∧ rst a b < 500000000 := by
  unfold rst; split
  · exact ⟨by decide, by decide⟩
  · exact ⟨rg_lo _, rg_hi _⟩
theorem arD_b (w : List Nat) (a b : Int) : -500000000 ≤ arD w a b ∧ arD w a b < 500000000 := by
  unfold arD
  split
  · exact ⟨rg_lo _, rg_hi _⟩
  split
  · exact ⟨rg_lo _, rg_hi _⟩
  split
  · exact ⟨rg_lo _, rg_hi _⟩
  split
  · exact ovr_b _ _
  · exact rst_b _ _
theorem sp_reckoned {w : List Nat} (hw : Ar w) {a b : Int} (ha : -500000000 ≤ a ∧ a < 500000000) (hb : -500000000 ≤ b ∧ b < 500000000) : call (n + 2) .f_reckoned [.str w, .int a, .int b] μ = .ok (.int (arD w a b)) μ := by
  cases hw with
  | add => exact sp_rk_add a b
  | less => exact sp_rk_less a b
  | times => exact sp_rk_times b (by omega) (by omega)
  | over => exact sp_rk_over (by omega)
  | rest => exact sp_rk_rest
theorem sp_paired {w : List Nat} (hw : Ar w) {a b : D} (ha : Wo a) (hb : Wo b) : call (n + 4) .f_paired [.str w, a, b] μ = .ok (.int (arD w (numD a) (numD b))) μ := by
  show outM (m_f_paired (call (n + 3)) (callP (n + 3)).2 [.str w, a, b] μ) = _
  have h1 := sp_number_of (n := n + 1) (μ := μ) ha
  have h2 := sp_number_of (n := n + 1) (μ := μ) hb
  have h3 := sp_reckoned (n := n + 1) (μ := μ) hw (numD_b ha) (numD_b hb)
  cases hw <;> simp [m_f_paired, ha.gv, hb.gv, h1, h2, h3]
theorem sp_unlike_ii (a b : Int) : call (n + 3) .f_paired [.str wUnlike, .int a, .int b] μ = .ok (.int (if a = b then 0 else 1)) μ := by
  have h : call (n + 2) .f_held [.str wUnlike, .int a, .int b] μ = .ok (.int (if a = b then 0 else 1)) μ := by
    show outM (m_f_held (call (n + 1)) (callP (n + 1)).2 [.str wUnlike, .int a, .int b] μ) = _
    by_cases q : a = b <;> simp [m_f_held, sp_is_number_i, q]
  show outM (m_f_paired (call (n + 2)) (callP (n + 2)).2 [.str wUnlike, .int a, .int b] μ) = _
  simp [m_f_paired, h]
end Wk07

set_option Elab.async false
set_option linter.all false
set_option maxRecDepth 100000
set_option maxHeartbeats 4000000
namespace Wk07
open PySem Lw PySem.NumText PyProof.Rows
inductive Pw : List Nat → Prop
  | add : Pw wAdd | less : Pw wLess | times : Pw wTimes | over : Pw wOver | rest : Pw wRest | unlike : Pw wUnlike | minus : Pw wMinus
theorem Ar.pw {w : List Nat} (h : Ar w) : Pw w := by cases h <;> constructor
inductive Wv : Nat → D → D → Prop
  | num (k : Nat) {i : Int} (h1 : -500000000 ≤ i) (h2 : i < 500000000) : Wv k (.tup [.str wNum, .int i]) (.int i)
  | text (k : Nat) {s : List Nat} (h : s.length ≤ 200) : Wv k (.tup [.str wText, .str s]) (.str s)
  | pair {k : Nat} {w : List Nat} {a b va vb : D} (hw : Ar w) (ha : Wv k a va) (hb : Wv k b vb) : Wv (k + 1) (.tup [.str w, a, b]) (.int (arD w (numD va) (numD vb)))
  | minus {k : Nat} {a va : D} (ha : Wv k a va) : Wv (k + 1) (.tup [.str wMinus, a]) (.int (rg (0 - numD va)))
  | unlike {k : Nat} {a b : D} {x y : Int} (ha : Wv k a (.int x)) (hb : Wv k b (.int y)) : Wv (k + 1) (.tup [.str wUnlike, a, b]) (.int (if x = y then 0 else 1))
theorem Wv.wo {k : Nat} {p v : D} (h : Wv k p v) : Wo v := by
  cases h with
  | num k h1 h2 => exact .int h1 h2
  | text k h => exact .str h
  | pair hw ha hb => exact .int (arD_b _ _ _).1 (arD_b _ _ _).2
  | minus ha => exact .int (rg_lo _) (rg_hi _)
  | unlike ha hb => split <;> exact .int (by decide) (by decide)
section
variable {n : Nat} {μ : Mu} {c c1 : Fn → List D → Mu → Res D}
abbrev S6 (c : Fn → List D → Mu → Res D) : SM := sAsg 4 (eLc (gN 5) (eSl (eV 1) (oSome (eC (.int 1))) oNone) tYesM (eMeth 3 (c .Desk_worth) (eV 0) (aCons (eV 5) aNil)) [5])
abbrev S7 (c : Fn → List D → Mu → Res D) : SM := sRet (eIf (tB (eBin opEq (eCall fLen (aCons (eV 4) aNil)) (eC (.int 2)))) (eCall (c .f_paired) (aCons (eV 2) (aCons (eBin opIx (eV 4) (eC (.int 0))) (aCons (eBin opIx (eV 4) (eC (.int 1))) aNil)))) (eMeth 3 (c .Desk_single) (eV 0) (aCons (eV 2) (aCons (eV 4) aNil))))
theorem fall {w : List Nat} {s : Nat} {r : List D} (hw : Pw w) (hr : r ≠ []) : m_Desk_worth c c1 [.ref s, .tup (.str w :: r), .und, .und, .und, .und] μ = sSeq (S6 c) (S7 c) [.ref s, .tup (.str w :: r), .str w, .und, .und, .und] μ := by
  have e : ∀ (s1 s2 s3 s4 s5 s6 t : SM) (fr fr' : Fr), s1 fr μ = .nx fr' μ → s2 fr' μ = .nx fr' μ → s3 fr' μ = .nx fr' μ → s4 fr' μ = .nx fr' μ → s5 fr' μ = .nx fr' μ → s6 fr' μ = .nx fr' μ → sSeq s1 (sSeq s2 (sSeq s3 (sSeq s4 (sSeq s5 (sSeq s6 t))))) fr μ = t fr' μ :=
    fun s1 s2 s3 s4 s5 s6 t fr fr' h1 h2 h3 h4 h5 h6 => (seq_nx h1).trans ((seq_nx h2).trans ((seq_nx h3).trans ((seq_nx h4).trans ((seq_nx h5).trans (seq_nx h6)))))
  unfold m_Desk_worth
  refine e _ _ _ _ _ _ _ _ _ ?_ ?_ ?_ ?_ ?_ ?_
  · simp
  · cases hw <;> simp
  · cases hw <;> simp
  · cases hw <;> simp
  · have : ¬ ((r.length : Int) + 1 = 1) := by
      intro q
      exact hr (List.length_eq_zero_iff.mp (by omega))
    simp [this]
  · cases hw <;> simp
theorem lc_one {s : Nat} {w : List Nat} {a va : D} {μ1 : Mu} (hva : Wo va) (ha : a ≠ .und) {fs : List (Nat × D)} (h0 : μ[s]? = some (.ins 3 fs)) (e1 : c .Desk_worth [.ref s, a] (μ ++ [.lst []]) = .ok va μ1) (s1 : Same (fun _ => False) (μ ++ [.lst []]) μ1) :
    S6 c [.ref s, .tup [.str w, a], .str w, .und, .und, .und] μ = .nx [.ref s, .tup [.str w, a], .str w, .und, .ref μ.length, .und] (μ1.set μ.length (.lst [va])) := by
  have h1 : (μ ++ [O.lst []])[s]? = some (.ins 3 fs) := by rw [List.getElem?_append_left (get_lt h0)]; exact h0
  have hL : μ1[μ.length]? = some (.lst []) := s1.get (by simp) (fun q => q)
  have hc : cutD [D.str w, a] (some 1) none = [a] := rfl
  simp only [S6, ap_sAsg, ap_eLc, ap_eSl, ap_eV, List.getElem?_cons_succ, List.getElem?_cons_zero, getV_tup, bnd_ok, ap_oSome, ap_eC, someR_i, ap_oNone, slM_t, hc, lcD_tup, wipF, List.set_cons_succ, List.set_cons_zero]
  rw [lcL_yes (y := va) (acc := []) (fr1 := [.ref s, .tup [.str w, a], .str w, .und, .und, a]) rfl (by simp [h1, getV_of ha, e1]) hL (by decide), lcL_nil]
  rfl
theorem lc_two {s : Nat} {w : List Nat} {a va b vb : D} {μ1 μ2 : Mu} (hva : Wo va) (ha : a ≠ .und) (hvb : Wo vb) (hb : b ≠ .und) {fs : List (Nat × D)} (h0 : μ[s]? = some (.ins 3 fs)) (e1 : c .Desk_worth [.ref s, a] (μ ++ [.lst []]) = .ok va μ1) (s1 : Same (fun _ => False) (μ ++ [.lst []]) μ1)
    (e2 : c .Desk_worth [.ref s, b] (μ1.set μ.length (.lst [va])) = .ok vb μ2) (s2 : Same (fun _ => False) (μ1.set μ.length (.lst [va])) μ2) :
    S6 c [.ref s, .tup [.str w, a, b], .str w, .und, .und, .und] μ = .nx [.ref s, .tup [.str w, a, b], .str w, .und, .ref μ.length, .und] (μ2.set μ.length (.lst [va, vb])) := by
  have h1 : (μ ++ [O.lst []])[s]? = some (.ins 3 fs) := by rw [List.getElem?_append_left (get_lt h0)]; exact h0
  have hL : μ1[μ.length]? = some (.lst []) := s1.get (by simp) (fun q => q)
  have h2 : (μ1.set μ.length (O.lst [va]))[s]? = some (.ins 3 fs) := by
    rw [List.getElem?_set_ne (by have := get_lt h0; omega)]
    exact s1.get h1 (fun q => q)
  have hL2 : μ2[μ.length]? = some (.lst [va]) := s2.get (set_get hL) (fun q => q)
  have hc : cutD [D.str w, a, b] (some 1) none = [a, b] := rfl
  simp only [S6, ap_sAsg, ap_eLc, ap_eSl, ap_eV, List.getElem?_cons_succ, List.getElem?_cons_zero, getV_tup, bnd_ok, ap_oSome, ap_eC, someR_i, ap_oNone, slM_t, hc, lcD_tup, wipF, List.set_cons_succ, List.set_cons_zero]
  rw [lcL_yes (y := va) (acc := []) (fr1 := [.ref s, .tup [.str w, a, b], .str w, .und, .und, a]) rfl (by simp [h1, getV_of ha, e1]) hL (by decide)]
  rw [lcL_yes (y := vb) (acc := [va]) (fr1 := [.ref s, .tup [.str w, a, b], .str w, .und, .und, b]) rfl (by simp [h2, getV_of hb, e2]) hL2 (by simp), lcL_nil]
  rfl
end
theorem Wv.tupd {k : Nat} {p v : D} (h : Wv k p v) : p ≠ .und := by cases h <;> exact fun q => nomatch q
theorem sp_single_minus {n s : Nat} {va : D} {μ : Mu} {l : Nat} (hv : Wo va) (hl : μ[l]? = some (.lst [va])) : call (n + 3) .Desk_single [.ref s, .str wMinus, .ref l] μ = .ok (.int (rg (0 - numD va))) μ := by
  show outM (m_Desk_single (call (n + 2)) (callP (n + 2)).2 [.ref s, .str wMinus, .ref l] μ) = _
  have h1 := sp_number_of (n := n) (μ := μ) hv
  simp [m_Desk_single, hl, h1, sp_ring]
theorem sp_worth {k : Nat} {p v : D} (h : Wv k p v) : ∀ (n : Nat) (μ : Mu) (s : Nat) (fs : List (Nat × D)), μ[s]? = some (.ins 3 fs) → ∃ μ', call (n + k + 6) .Desk_worth [.ref s, p] μ = .ok v μ' ∧ Same (fun _ => False) μ μ' := by
  induction h with
  | num k h1 h2 =>
    intro n μ s fs h0
    refine ⟨μ, ?_, .refl⟩
    show outM (m_Desk_worth (call (n + k + 5)) (callP (n + k + 5)).2 [.ref s, .tup [.str wNum, .int _], .und, .und, .und, .und] μ) = _
    simp [m_Desk_worth]
  | text k h =>
    intro n μ s fs h0
    refine ⟨μ, ?_, .refl⟩
    show outM (m_Desk_worth (call (n + k + 5)) (callP (n + k + 5)).2 [.ref s, .tup [.str wText, .str _], .und, .und, .und, .und] μ) = _
    simp [m_Desk_worth]
  | @pair k w a b va vb hw ha hb iha ihb =>
    intro n μ s fs h0
    have h1 : (μ ++ [O.lst []])[s]? = some (.ins 3 fs) := by rw [List.getElem?_append_left (get_lt h0)]; exact h0
    obtain ⟨μ1, e1, s1⟩ := iha n (μ ++ [.lst []]) s fs h1
    have hL : μ1[μ.length]? = some (.lst []) := s1.get (by simp) (fun q => q)
    have h2 : (μ1.set μ.length (O.lst [va]))[s]? = some (.ins 3 fs) := by
      rw [List.getElem?_set_ne (by have := get_lt h0; omega)]
      exact s1.get h1 (fun q => q)
    obtain ⟨μ2, e2, s2⟩ := ihb n (μ1.set μ.length (.lst [va])) s fs h2
    have hL2 : μ2[μ.length]? = some (.lst [va]) := s2.get (set_get hL) (fun q => q)
    refine ⟨μ2.set μ.length (.lst [va, vb]), ?_, ?_⟩
    · show outM (m_Desk_worth (call (n + k + 6)) (callP (n + k + 6)).2 [.ref s, .tup [.str w, a, b], .und, .und, .und, .und] μ) = _
      rw [fall hw.pw (by simp), seq_nx (lc_two ha.wo ha.tupd hb.wo hb.tupd h0 e1 s1 e2 s2)]
      have h3 := sp_paired (n := n + k + 2) (μ := μ2.set μ.length (.lst [va, vb])) hw ha.wo hb.wo
      have hL3 : (μ2.set μ.length (O.lst [va, vb]))[μ.length]? = some (.lst [va, vb]) := set_get hL2
      simp [S7, hL3, h3]
    · exact (((Same.app.trans s1).thenSet (Nat.le_refl _)).trans s2).thenSet (Nat.le_refl _)
  | @minus k a va ha iha =>
    intro n μ s fs h0
    have h1 : (μ ++ [O.lst []])[s]? = some (.ins 3 fs) := by rw [List.getElem?_append_left (get_lt h0)]; exact h0
    obtain ⟨μ1, e1, s1⟩ := iha n (μ ++ [.lst []]) s fs h1
    have hL : μ1[μ.length]? = some (.lst []) := s1.get (by simp) (fun q => q)
    have h2 : (μ1.set μ.length (O.lst [va]))[s]? = some (.ins 3 fs) := by
      rw [List.getElem?_set_ne (by have := get_lt h0; omega)]
      exact s1.get h1 (fun q => q)
    refine ⟨μ1.set μ.length (.lst [va]), ?_, ?_⟩
    · show outM (m_Desk_worth (call (n + k + 6)) (callP (n + k + 6)).2 [.ref s, .tup [.str wMinus, a], .und, .und, .und, .und] μ) = _
      rw [fall .minus (by simp), seq_nx (lc_one ha.wo ha.tupd h0 e1 s1)]
      have hL3 : (μ1.set μ.length (O.lst [va]))[μ.length]? = some (.lst [va]) := set_get hL
      have h3 := sp_single_minus (n := n + k + 3) (s := s) ha.wo hL3
      simp [S7, hL3, h2, h3]
    · exact (Same.app.trans s1).thenSet (Nat.le_refl _)
  | @unlike k a b x y ha hb iha ihb =>
    intro n μ s fs h0
    have h1 : (μ ++ [O.lst []])[s]? = some (.ins 3 fs) := by rw [List.getElem?_append_left (get_lt h0)]; exact h0
    obtain ⟨μ1, e1, s1⟩ := iha n (μ ++ [.lst []]) s fs h1
    have hL : μ1[μ.length]? = some (.lst []) := s1.get (by simp) (fun q => q)
    have h2 : (μ1.set μ.length (O.lst [.int x]))[s]? = some (.ins 3 fs) := by
      rw [List.getElem?_set_ne (by have := get_lt h0; omega)]
      exact s1.get h1 (fun q => q)
    obtain ⟨μ2, e2, s2⟩ := ihb n (μ1.set μ.length (.lst [.int x])) s fs h2
    have hL2 : μ2[μ.length]? = some (.lst [.int x]) := s2.get (set_get hL) (fun q => q)
    refine ⟨μ2.set μ.length (.lst [.int x, .int y]), ?_, ?_⟩
    · show outM (m_Desk_worth (call (n + k + 6)) (callP (n + k + 6)).2 [.ref s, .tup [.str wUnlike, a, b], .und, .und, .und, .und] μ) = _
      rw [fall .unlike (by simp), seq_nx (lc_two ha.wo ha.tupd hb.wo hb.tupd h0 e1 s1 e2 s2)]
      have h3 := sp_unlike_ii (n := n + k + 3) (μ := μ2.set μ.length (.lst [.int x, .int y])) x y
      have hL3 : (μ2.set μ.length (O.lst [.int x, .int y]))[μ.length]? = some (.lst [.int x, .int y]) := set_get hL2
      simp [S7, hL3, h3]
    · exact (((Same.app.trans s1).thenSet (Nat.le_refl _)).trans s2).thenSet (Nat.le_refl _)
end Wk07

set_option Elab.async false
set_option linter.all false
set_option maxRecDepth 100000
set_option maxHeartbeats 4000000
namespace Wk07
open PySem Lw PySem.NumText PyProof.Rows
inductive GP : Nat → D → Nat → Prop
  | num {d : Nat} {i : Int} (hd : d ≤ 30) (h1 : 0 ≤ i) (h2 : i ≤ 499999999) : GP d (.tup [.str wNum, .int i]) 1
  | text {d : Nat} {s : List Nat} (hd : d ≤ 30) (h1 : s.length ≤ 50) (h2 : ∀ c ∈ s, 32 ≤ c ∧ c ≤ 126 ∧ c ≠ 34) : GP d (.tup [.str wText, .str s]) 1
  | pair {d : Nat} {w : List Nat} {a b : D} {m l : Nat} (hw : Pw w) (hm : w ≠ wMinus) (hd : d ≤ 30) (ha : GP (d + 1) a m) (hb : GP (d + 1) b l) : GP d (.tup [.str w, a, b]) (m + l + 1)
  | minus {d : Nat} {a : D} {m : Nat} (hd : d ≤ 30) (ha : GP (d + 1) a m) : GP d (.tup [.str wMinus, a]) (m + 1)
abbrev lk (c : Int) : O := .ins 2 [(12, .int c)]
section
variable {n : Nat} {μ : Mu} {s : Nat} {c : Int}
theorem sp_need (h : μ[s]? = some (lk c)) : call (n + 1) .Looker_need [.ref s, .bl true] μ = .ok .non μ := by
  show outM (m_Looker_need (call n) (callP n).2 [.ref s, .bl true] μ) = _
  simp [m_Looker_need]
theorem sp_count {w : List Nat} {r : List D} {d : Nat} (h : μ[s]? = some (lk c)) (hc : c + 1 ≤ 300) (hd : d ≤ 30) : call (n + 2) .Looker_count [.ref s, .tup (.str w :: r), .int d] μ = .ok .non (μ.set s (lk (c + 1))) := by
  show outM (m_Looker_count (call (n + 1)) (callP (n + 1)).2 [.ref s, .tup (.str w :: r), .int d] μ) = _
  have h1 : (μ.set s (lk (c + 1)))[s]? = some (lk (c + 1)) := set_get h
  have e1 : (sFldM 12 (eV 0) (eBin opAdd (eFld 12 (eV 0)) (eC (.int 1)))) [.ref s, .tup (.str w :: r), .int d] μ = .nx [.ref s, .tup (.str w :: r), .int d] (μ.set s (lk (c + 1))) := by
    simp [h, putN]
  have h3 := sp_need (n := n) h1
  have hl : (0 : Int) < (r.length : Int) + 1 := by omega
  have hd' : (d : Int) ≤ 30 := by omega
  unfold m_Looker_count
  rw [seq_nx e1]
  simp [h1, h3, hl, hc, hd']
theorem sp_size_pair {w : List Nat} (hw : Pw w) (hm : w ≠ wMinus) : call (n + 1) .f_size_of [.str w] μ = .ok (.int 2) μ := by
  show outM (m_f_size_of (call n) (callP n).2 [.str w] μ) = _
  cases hw <;> first | exact absurd rfl hm | simp [m_f_size_of, k_PAIRS]
theorem sp_size_minus : call (n + 1) .f_size_of [.str wMinus] μ = .ok (.int 1) μ := by
  show outM (m_f_size_of (call n) (callP n).2 [.str wMinus] μ) = _
  simp [m_f_size_of, k_PAIRS, k_LOOKS, k_SIZES, List.lookup]
theorem sp_size_num : call (n + 1) .f_size_of [.str wNum] μ = .ok (.int 0) μ := by
  show outM (m_f_size_of (call n) (callP n).2 [.str wNum] μ) = _
  simp [m_f_size_of, k_PAIRS, k_LOOKS, k_SIZES, List.lookup]
theorem sp_size_text : call (n + 1) .f_size_of [.str wText] μ = .ok (.int 0) μ := by
  show outM (m_f_size_of (call n) (callP n).2 [.str wText] μ) = _
  simp [m_f_size_of, k_PAIRS, k_LOOKS, k_SIZES, List.lookup]
theorem sp_leaf_num {i : Int} (h1 : 0 ≤ i) (h2 : i ≤ 499999999) : call (n + 1) .f_leaf_of [.tup [.str wNum, .int i]] μ = .ok (.bl true) μ := by
  show outM (m_f_leaf_of (call n) (callP n).2 [.tup [.str wNum, .int i], .und, .und] μ) = _
  simp [m_f_leaf_of, h1, h2]
theorem sp_leaf_pair {w : List Nat} {a b : D} (hw : Pw w) (hm : w ≠ wMinus) : call (n + 2) .f_leaf_of [.tup [.str w, a, b]] μ = .ok (.bl true) μ := by
  show outM (m_f_leaf_of (call (n + 1)) (callP (n + 1)).2 [.tup [.str w, a, b], .und, .und] μ) = _
  have h := sp_size_pair (n := n) (μ := μ) hw hm
  cases hw <;> first | exact absurd rfl hm | simp [m_f_leaf_of, h]
theorem sp_leaf_minus {a : D} : call (n + 2) .f_leaf_of [.tup [.str wMinus, a]] μ = .ok (.bl true) μ := by
  show outM (m_f_leaf_of (call (n + 1)) (callP (n + 1)).2 [.tup [.str wMinus, a], .und, .und] μ) = _
  have h := sp_size_minus (n := n) (μ := μ)
  simp [m_f_leaf_of, h]
theorem ltN1 (a b : Nat) : ltN [a] [b] = decide (a < b) := by
  unfold ltN
  congr 1
  rw [List.cons_lt_cons_iff]
  simp
theorem sp_leaf_text {t : List Nat} (h1 : t.length ≤ 50) (h2 : ∀ c ∈ t, 32 ≤ c ∧ c ≤ 126 ∧ c ≠ 34) : call (n + 1) .f_leaf_of [.tup [.str wText, .str t]] μ = .ok (.bl true) (μ ++ [.lst [], .lst []]) := by
  show outM (m_f_leaf_of (call n) (callP n).2 [.tup [.str wText, .str t], .und, .und] μ) = _
  have hL : t.length ≤ LINE := Nat.le_trans h1 (by decide)
  obtain ⟨acc, μ', e, q1, q2⟩ := lcL_rule (gg := gN 2) (n := μ.length) (xs := t.map fun c => .str [c]) (fr := [.tup [.str wText, .str t], .bl true, .und]) (μ := μ ++ [.lst []]) (acc := [])
    (t := (tOr (tNot (tB (eChain opLe opLe (eC (.str [32])) (eV 2) (eC (.str [126]))))) (tB (eBin opEq (eV 2) (eC (.str [34])))))) (b := eV 2)
    (I := fun r acc fr μ' => (fr = [.tup [.str wText, .str t], .bl true, .und] ∧ μ' = μ ++ [.lst []] ∧ acc = []) ∧ ∀ x ∈ r, ∃ c, x = .str [c] ∧ 32 ≤ c ∧ c ≤ 126 ∧ c ≠ 34)
    (fun x r acc fr μ' ⟨⟨e1, e2, e3⟩, hr⟩ => by
      subst e1 e2 e3
      obtain ⟨c, rfl, c1, c2, c3⟩ := hr x (by simp)
      refine ⟨[.tup [.str wText, .str t], .bl true, .str [c]], rfl, .inl ⟨_, ?_, ⟨rfl, rfl, rfl⟩, fun y hy => hr y (List.mem_cons_of_mem _ hy)⟩⟩
      have k1 : ¬ c < 32 := by omega
      have k2 : ¬ 126 < c := by omega
      simp [ltN1, k1, k2, c3])
    ⟨⟨rfl, rfl, rfl⟩, fun x hx => by
      obtain ⟨c, hc, rfl⟩ := List.mem_map.mp hx
      exact ⟨c, rfl, h2 c hc⟩⟩
  obtain ⟨_, e2, _⟩ := q1
  subst e2
  have hlen : (t.length : Int) ≤ 50 := by omega
  have eL : (eLc (gN 2) (eBin opIx (eV 0) (eC (.int 1))) (tOr (tNot (tB (eChain opLe opLe (eC (.str [32])) (eV 2) (eC (.str [126]))))) (tB (eBin opEq (eV 2) (eC (.str [34]))))) (eV 2) [2]) [.tup [.str wText, .str t], .bl true, .und] μ = .ok (.ref μ.length) (μ ++ [.lst []]) := by
    simp only [ap_eLc, ap_eBin, ap_eV, ap_eC, List.getElem?_cons_zero, getV_tup, bnd_ok, opIx_t, ixD_1, List.getElem?_cons_succ, getO_s, lcD_str, wipF, List.set_cons_succ, List.set_cons_zero]
    rw [e]; rfl
  have eq : opEq (.ref μ.length) (.ref (μ.length + 1)) (μ ++ [.lst [], .lst []]) = .ok (.bl true) (μ ++ [.lst [], .lst []]) := opEq_ll0 (by simp) (by simp)
  unfold m_f_leaf_of
  refine (congrArg outM ((seq_nx (fr' := [.tup [.str wText, .str t], .und, .und]) (μ' := μ) ?_).trans (seq_ret (d := .bl true) (μ' := μ ++ [.lst [], .lst []]) ?_))).trans rfl
  · simp
  · rw [ap_sIf]
    have e3 : (tB (eBin opEq (eBin opIx (eV 0) (eC (.int 0))) (eC (.str [116, 101, 120, 116])))) [.tup [.str wText, .str t], .und, .und] μ = .ok true μ := by simp
    rw [e3, bndS_ok, if_pos rfl, seq_nx (fr' := [.tup [.str wText, .str t], .bl true, .und]) (μ' := μ) (by simp [hL, hlen])]
    rw [ap_sRet, ap_eAnd, ap_eV]
    show bndS _ (bnd (Res.ok (D.bl true) μ) _) _ = _
    rw [bnd_ok, tru_bl, andR_t, ap_eBin, eL, bnd_ok, ap_eLst, ap_aNil, bnd_ok, bnd_ok]
    have e4 : (μ ++ [O.lst []]).length = μ.length + 1 := by simp
    have e5 : μ ++ [O.lst []] ++ [O.lst []] = μ ++ [O.lst [], O.lst []] := by simp
    rw [e4, e5, eq]
    rfl
theorem sp_inner_0 {w : List Nat} {x : D} (h : ∀ n μ, call (n + 1) .f_size_of [.str w] μ = .ok (.int 0) μ) : call (n + 2) .f_inner_of [.tup [.str w, x]] μ = .ok (.ref μ.length) (μ ++ [.lst []]) := by
  show outM (m_f_inner_of (call (n + 1)) (callP (n + 1)).2 [.tup [.str w, x], .und] μ) = _
  simp [m_f_inner_of, h]
theorem sp_inner_1 {a : D} : call (n + 2) .f_inner_of [.tup [.str wMinus, a]] μ = .ok (.ref μ.length) (μ ++ [.lst [a]]) := by
  show outM (m_f_inner_of (call (n + 1)) (callP (n + 1)).2 [.tup [.str wMinus, a], .und] μ) = _
  have hc : cutD [D.str wMinus, a] (some 1) none = [a] := rfl
  simp [m_f_inner_of, sp_size_minus, hc]
theorem sp_inner_2 {w : List Nat} {a b : D} (hw : Pw w) (hm : w ≠ wMinus) : call (n + 2) .f_inner_of [.tup [.str w, a, b]] μ = .ok (.ref μ.length) (μ ++ [.lst [a, b]]) := by
  show outM (m_f_inner_of (call (n + 1)) (callP (n + 1)).2 [.tup [.str w, a, b], .und] μ) = _
  have hc : cutD [D.str w, a, b] (some 1) none = [a, b] := rfl
  simp [m_f_inner_of, sp_size_pair hw hm, hc]
end
end Wk07

set_option Elab.async false
set_option linter.all false
set_option maxRecDepth 100000
set_option maxHeartbeats 4000000
namespace Wk07
open PySem Lw PySem.NumText PyProof.Rows
section
variable {N : Nat} {μ μ2 : Mu} {s d : Nat} {c k : Int} {c1 : Fn → List D → Mu → Res D}
abbrev PB (c : Fn → List D → Mu → Res D) : SM := sExp (eMeth 2 (c .Looker_part) (eV 0) (aCons (eV 3) (aCons (eBin opAdd (eV 2) (eC (.int 1))) aNil)))
theorem part_go {w : List Nat} {r kids : List D} (h : μ[s]? = some (lk c)) (hc : c + 1 ≤ 300) (hd : d ≤ 30) (hz : call (N + 2) .f_size_of [.str w] (μ.set s (lk (c + 1))) = .ok (.int k) (μ.set s (lk (c + 1)))) (hk : 0 ≤ k)
    (hf : call (N + 2) .f_leaf_of [.tup (.str w :: r)] (μ.set s (lk (c + 1))) = .ok (.bl true) μ2) (hs : μ2[s]? = some (lk (c + 1))) (hi : call (N + 2) .f_inner_of [.tup (.str w :: r)] μ2 = .ok (.ref μ2.length) (μ2 ++ [.lst kids])) :
    m_Looker_part (call (N + 2)) c1 [.ref s, .tup (.str w :: r), .int d, .und] μ = forM (gN 3) (PB (call (N + 2))) μ2.length kids.length 0 [.ref s, .tup (.str w :: r), .int d, .und] (μ2 ++ [.lst kids]) := by
  have h1 : (μ.set s (lk (c + 1)))[s]? = some (lk (c + 1)) := set_get h
  have h2 := sp_count (n := N) (w := w) (r := r) h hc hd
  have h3 := sp_need (n := N + 1) hs
  have h4 : (μ2 ++ [O.lst kids])[μ2.length]? = some (.lst kids) := by simp
  unfold m_Looker_part
  rw [seq_nx (fr' := [.ref s, .tup (.str w :: r), .int d, .und]) (μ' := μ.set s (lk (c + 1))) (by simp [h, h2])]
  rw [seq_nx (fr' := [.ref s, .tup (.str w :: r), .int d, .und]) (μ' := μ2) (by simp [h1, hz, hk, hf, h3])]
  rw [ap_sFor]
  have e1 : (eCall (call (N + 2) .f_inner_of) (aCons (eV 1) aNil)) [.ref s, .tup (.str w :: r), .int d, .und] μ2 = .ok (.ref μ2.length) (μ2 ++ [.lst kids]) := by simp [hi]
  rw [e1, bndS_ok, forD_ref h4]
end
theorem GP.ne {d : Nat} {p : D} {m : Nat} (h : GP d p m) : p ≠ .und := by cases h <;> exact fun q => nomatch q
theorem GP.dle {d : Nat} {p : D} {m : Nat} (h : GP d p m) : d ≤ 30 := by cases h <;> assumption
theorem GP.pos {d : Nat} {p : D} {m : Nat} (h : GP d p m) : 1 ≤ m := by cases h <;> omega
theorem sp_part {d : Nat} {p : D} {m : Nat} (h : GP d p m) : ∀ (n : Nat) (μ : Mu) (s : Nat) (c : Int), μ[s]? = some (lk c) → c + m ≤ 300 →
    ∃ μ', call (n + (31 - d) + 3) .Looker_part [.ref s, p, .int d] μ = .ok .non μ' ∧ μ'[s]? = some (lk (c + m)) ∧ Same (fun k => k = s) μ μ' := by
  induction h with
  | @num d i hd h1 h2 =>
    intro n μ s c h0 hm
    have hs : Same (fun k => k = s) μ (μ.set s (lk (c + 1))) := Same.set rfl
    refine ⟨μ.set s (lk (c + 1)) ++ [.lst []], ?_, ?_, hs.thenApp⟩
    · show outM (m_Looker_part (call (n + (31 - d) + 2)) (callP (n + (31 - d) + 2)).2 [.ref s, .tup [.str wNum, .int i], .int d, .und] μ) = _
      rw [part_go h0 (by omega) hd sp_size_num (by decide) (sp_leaf_num h1 h2) (set_get h0) (sp_inner_0 fun n μ => sp_size_num), List.length_nil, forM_0 (by simp)]
      rfl
    · rw [List.getElem?_append_left (by simp; exact get_lt h0)]; exact set_get h0
  | @text d t hd h1 h2 =>
    intro n μ s c h0 hm
    have hs : Same (fun k => k = s) μ (μ.set s (lk (c + 1))) := Same.set rfl
    have hg : (μ.set s (lk (c + 1)) ++ [O.lst [], O.lst []])[s]? = some (lk (c + 1)) := by
      rw [List.getElem?_append_left (by simp; exact get_lt h0)]; exact set_get h0
    refine ⟨μ.set s (lk (c + 1)) ++ [.lst [], .lst []] ++ [.lst []], ?_, ?_, hs.thenApp.thenApp⟩
    · show outM (m_Looker_part (call (n + (31 - d) + 2)) (callP (n + (31 - d) + 2)).2 [.ref s, .tup [.str wText, .str t], .int d, .und] μ) = _
      rw [part_go h0 (by omega) hd sp_size_text (by decide) (sp_leaf_text h1 h2) hg (sp_inner_0 fun n μ => sp_size_text), List.length_nil, forM_0 (by simp)]
      rfl
    · rw [List.getElem?_append_left (get_lt hg)]; exact hg
  | @minus d a m hd ha iha =>
    intro n μ s c h0 hm
    have hd1 := ha.dle
    have hs : Same (fun k => k = s) μ (μ.set s (lk (c + 1)) ++ [.lst [a]]) := by
      have hs0 : Same (fun k => k = s) μ (μ.set s (lk (c + 1))) := Same.set rfl
      exact hs0.thenApp
    have hg : (μ.set s (lk (c + 1)) ++ [O.lst [a]])[s]? = some (lk (c + 1)) := by
      rw [List.getElem?_append_left (by simp; exact get_lt h0)]; exact set_get h0
    obtain ⟨μ1, e1, g1, s1⟩ := iha n _ s (c + 1) hg (by omega)
    have hL : (μ.set s (lk (c + 1)) ++ [O.lst [a]])[(μ.set s (lk (c + 1))).length]? = some (.lst [a]) := by simp
    have hne : (μ.set s (lk (c + 1))).length ≠ s := by have := get_lt h0; simp; omega
    have eN : n + (31 - d) + 2 = n + (31 - (d + 1)) + 3 := by omega
    refine ⟨μ1, ?_, ?_, hs.trans s1⟩
    · show outM (m_Looker_part (call (n + (31 - d) + 2)) (callP (n + (31 - d) + 2)).2 [.ref s, .tup [.str wMinus, a], .int d, .und] μ) = _
      rw [part_go h0 (by omega) hd sp_size_minus (by decide) sp_leaf_minus (set_get h0) sp_inner_1]
      rw [eN]
      have e2 : (PB (call (n + (31 - (d + 1)) + 3))) [.ref s, .tup [.str wMinus, a], .int d, a] (μ.set s (lk (c + 1)) ++ [.lst [a]]) = .nx [.ref s, .tup [.str wMinus, a], .int d, a] μ1 := by
        have e1' := e1
        rw [Int.natCast_add] at e1'
        simp only [PB, ap_sExp, ap_eMeth, ap_eV, List.getElem?_cons_zero, getV_ref, bnd_ok, atR_r, hg, methR_i, if_true, ap_aCons, List.getElem?_cons_succ, getV_of ha.ne, ap_eBin, getV_int, ap_eC, opAdd_i, ap_aNil]
        rw [show ((d : Int) + 1) = (d : Int) + ((1 : Nat) : Int) from rfl, e1']
        rfl
      rw [show ([a] : List D).length = 1 from rfl, forM_1 hL rfl e2 (s1.get hL hne)]
      rfl
    · rw [g1]; congr 2; simp; omega
  | @pair d w a b m l hw hm hd ha hb iha ihb =>
    intro n μ s c h0 hml
    have hd1 := ha.dle
    have hs : Same (fun k => k = s) μ (μ.set s (lk (c + 1)) ++ [.lst [a, b]]) := by
      have hs0 : Same (fun k => k = s) μ (μ.set s (lk (c + 1))) := Same.set rfl
      exact hs0.thenApp
    have hg : (μ.set s (lk (c + 1)) ++ [O.lst [a, b]])[s]? = some (lk (c + 1)) := by
      rw [List.getElem?_append_left (by simp; exact get_lt h0)]; exact set_get h0
    obtain ⟨μ1, e1, g1, s1⟩ := iha n _ s (c + 1) hg (by omega)
    obtain ⟨μ3, e3, g3, s3⟩ := ihb n μ1 s _ g1 (by omega)
    have hL : (μ.set s (lk (c + 1)) ++ [O.lst [a, b]])[(μ.set s (lk (c + 1))).length]? = some (.lst [a, b]) := by simp
    have hne : (μ.set s (lk (c + 1))).length ≠ s := by have := get_lt h0; simp; omega
    have eN : n + (31 - d) + 2 = n + (31 - (d + 1)) + 3 := by omega
    have hL1 := s1.get hL hne
    refine ⟨μ3, ?_, ?_, (hs.trans s1).trans s3⟩
    · show outM (m_Looker_part (call (n + (31 - d) + 2)) (callP (n + (31 - d) + 2)).2 [.ref s, .tup [.str w, a, b], .int d, .und] μ) = _
      rw [part_go h0 (by omega) hd (sp_size_pair hw hm) (by decide) (sp_leaf_pair hw hm) (set_get h0) (sp_inner_2 hw hm)]
      rw [eN]
      have e2 : (PB (call (n + (31 - (d + 1)) + 3))) [.ref s, .tup [.str w, a, b], .int d, a] (μ.set s (lk (c + 1)) ++ [.lst [a, b]]) = .nx [.ref s, .tup [.str w, a, b], .int d, a] μ1 := by
        have e1' := e1
        rw [Int.natCast_add] at e1'
        simp only [PB, ap_sExp, ap_eMeth, ap_eV, List.getElem?_cons_zero, getV_ref, bnd_ok, atR_r, hg, methR_i, if_true, ap_aCons, List.getElem?_cons_succ, getV_of ha.ne, ap_eBin, getV_int, ap_eC, opAdd_i, ap_aNil]
        rw [show ((d : Int) + 1) = (d : Int) + ((1 : Nat) : Int) from rfl, e1']
        rfl
      have e4 : (PB (call (n + (31 - (d + 1)) + 3))) [.ref s, .tup [.str w, a, b], .int d, b] μ1 = .nx [.ref s, .tup [.str w, a, b], .int d, b] μ3 := by
        have e3' := e3
        rw [Int.natCast_add] at e3'
        simp only [PB, ap_sExp, ap_eMeth, ap_eV, List.getElem?_cons_zero, getV_ref, bnd_ok, atR_r, g1, methR_i, if_true, ap_aCons, List.getElem?_cons_succ, getV_of hb.ne, ap_eBin, getV_int, ap_eC, opAdd_i, ap_aNil]
        rw [show ((d : Int) + 1) = (d : Int) + ((1 : Nat) : Int) from rfl, e3']
        rfl
      rw [show ([a, b] : List D).length = 2 from rfl, forM_2 hL rfl e2 hL1 rfl e4 (s3.get hL1 hne)]
      rfl
    · rw [g3]; congr 2; simp; omega
end Wk07

set_option Elab.async false
set_option linter.all false
set_option maxRecDepth 100000
set_option maxHeartbeats 4000000
namespace Wk07
open PySem Lw PySem.NumText PyProof.Rows
abbrev wSay : List Nat := [115, 97, 121]
abbrev wIf : List Nat := [105, 102]
abbrev wBegin : List Nat := [98, 101, 103, 105, 110]
section
variable {N : Nat} {μ μ2 : Mu} {s d : Nat} {c k : Int} {c1 : Fn → List D → Mu → Res D}
def DeedOk (d : Nat) (x : D) (m : Nat) : Prop := ∀ (n : Nat) (μ : Mu) (s : Nat) (c : Int) (mn : Bool), μ[s]? = some (lk c) → c + (m : Int) ≤ 300 →
    ∃ μ', call (n + 2 * (31 - d) + 3) .Looker_deed [.ref s, x, .int d, .bl mn] μ = .ok .non μ' ∧ μ'[s]? = some (lk (c + (m : Int))) ∧ Same (fun k => k = s) μ μ'
def BlockOk (d : Nat) (x : D) (m : Nat) : Prop := ∀ (n : Nat) (μ : Mu) (s : Nat) (c : Int) (mn : Bool), μ[s]? = some (lk c) → c + (m : Int) ≤ 300 →
    ∃ μ', call (n + 2 * (31 - d) + 4) .Looker_block [.ref s, x, .int d, .bl mn] μ = .ok .non μ' ∧ μ'[s]? = some (lk (c + (m : Int))) ∧ Same (fun k => k = s) μ μ'
theorem deed_say {a b : D} {m l : Nat} (hd : d ≤ 30) (ha : GP (d + 1) a m) (hb : GP (d + 1) b l) : DeedOk d (.tup [.str wSay, .tup [a, b]]) (m + l + 1) := by
  intro n μ s c mn h0 hc
  have hd1 := ha.dle
  have eN : n + 2 * (31 - d) + 2 = n + (31 - d) + (31 - (d + 1)) + 3 := by omega
  have hs0 : Same (fun k => k = s) μ (μ.set s (lk (c + 1)) ++ [.lst []] ++ [.lst [a, b]]) := by
    have hs1 : Same (fun k => k = s) μ (μ.set s (lk (c + 1))) := Same.set rfl
    exact hs1.thenApp.thenApp
  have g0 : (μ.set s (lk (c + 1)))[s]? = some (lk (c + 1)) := set_get h0
  have g1 : (μ.set s (lk (c + 1)) ++ [O.lst []])[s]? = some (lk (c + 1)) := by rw [List.getElem?_append_left (get_lt g0)]; exact g0
  have g2 : (μ.set s (lk (c + 1)) ++ [O.lst []] ++ [O.lst [a, b]])[s]? = some (lk (c + 1)) := by rw [List.getElem?_append_left (get_lt g1)]; exact g1
  generalize hμ2 : (μ.set s (lk (c + 1)) ++ [O.lst []] : Mu) = μ2 at *
  have hL : (μ2 ++ [O.lst [a, b]])[μ2.length]? = some (.lst [a, b]) := by simp
  have hne : μ2.length ≠ s := by have := get_lt g1; omega
  obtain ⟨μ3, e3, g3, s3⟩ := sp_part ha (n + (31 - d)) _ s (c + 1) g2 (by omega)
  obtain ⟨μ4, e4, g4, s4⟩ := sp_part hb (n + (31 - d)) _ s _ g3 (by omega)
  have hL3 := s3.get hL hne
  have hL4 := s4.get hL3 hne
  rw [Int.natCast_add] at e3 e4
  refine ⟨μ4, ?_, ?_, (hs0.trans s3).trans s4⟩
  · show outM (m_Looker_deed (call (n + 2 * (31 - d) + 2)) (callP (n + 2 * (31 - d) + 2)).2 [.ref s, .tup [.str wSay, .tup [a, b]], .int d, .bl mn, .und, .und, .und] μ) = _
    have h2 := sp_count (n := n + 2 * (31 - d)) (w := wSay) (r := [.tup [a, b]]) h0 (by omega) hd
    have h3 := sp_need (n := n + 2 * (31 - d) + 1) g0
    have h4 := sp_need (n := n + 2 * (31 - d) + 1) g1
    unfold m_Looker_deed
    rw [seq_nx (fr' := [.ref s, .tup [.str wSay, .tup [a, b]], .int d, .bl mn, .und, .und, .und]) (μ' := μ.set s (lk (c + 1))) (by simp [h0, h2])]
    rw [seq_nx (fr' := [.ref s, .tup [.str wSay, .tup [a, b]], .int d, .bl mn, .str wSay, .und, .und]) (μ' := μ.set s (lk (c + 1))) (by simp)]
    rw [seq_nx (fr' := [.ref s, .tup [.str wSay, .tup [a, b]], .int d, .bl mn, .str wSay, .und, .und]) (μ' := μ.set s (lk (c + 1))) (by simp [g0, h3, k_DEED_SIZES, List.lookup])]
    rw [seq_nx (fr' := [.ref s, .tup [.str wSay, .tup [a, b]], .int d, .bl mn, .str wSay, .und, .und]) (μ' := μ.set s (lk (c + 1))) (by simp)]
    rw [seq_nx (fr' := [.ref s, .tup [.str wSay, .tup [a, b]], .int d, .bl mn, .str wSay, .ref (μ.set s (lk (c + 1))).length, .und]) (μ' := μ2) (by simp [← hμ2])]
    rw [seq_nx (fr' := [.ref s, .tup [.str wSay, .tup [a, b]], .int d, .bl mn, .str wSay, .ref μ2.length, .und]) (μ' := μ2 ++ [.lst [a, b]]) (by simp [g1, h4])]
    rw [seq_nx (fr' := [.ref s, .tup [.str wSay, .tup [a, b]], .int d, .bl mn, .str wSay, .ref μ2.length, .und]) (μ' := μ2 ++ [.lst [a, b]]) (by simp)]
    have e5 : sFor (gN 6) (eV 5) (sExp (eMeth 2 (call (n + 2 * (31 - d) + 2) .Looker_part) (eV 0) (aCons (eV 6) (aCons (eBin opAdd (eV 2) (eC (.int 1))) aNil)))) [.ref s, .tup [.str wSay, .tup [a, b]], .int d, .bl mn, .str wSay, .ref μ2.length, .und] (μ2 ++ [.lst [a, b]])
        = .nx [.ref s, .tup [.str wSay, .tup [a, b]], .int d, .bl mn, .str wSay, .ref μ2.length, b] μ4 := by
      rw [ap_sFor, ap_eV]
      show bndS _ (Res.ok (D.ref μ2.length) _) _ = _
      rw [bndS_ok, forD_ref hL, show ([a, b] : List D).length = 2 from rfl, eN]
      refine forM_2 (fr2 := [.ref s, .tup [.str wSay, .tup [a, b]], .int d, .bl mn, .str wSay, .ref μ2.length, a]) (μ2 := μ3) hL rfl ?_ hL3 rfl ?_ hL4
      · simp only [ap_sExp, ap_eMeth, ap_eV, List.set_cons_succ, List.set_cons_zero, List.getElem?_cons_zero, getV_ref, bnd_ok, atR_r, g2, methR_i, if_true, ap_aCons, List.getElem?_cons_succ, getV_of ha.ne, ap_eBin, getV_int, ap_eC, opAdd_i, ap_aNil]
        rw [show ((d : Int) + 1) = (d : Int) + ((1 : Nat) : Int) from rfl, e3]
        rfl
      · simp only [ap_sExp, ap_eMeth, ap_eV, List.set_cons_succ, List.set_cons_zero, List.getElem?_cons_zero, getV_ref, bnd_ok, atR_r, g3, methR_i, if_true, ap_aCons, List.getElem?_cons_succ, getV_of hb.ne, ap_eBin, getV_int, ap_eC, opAdd_i, ap_aNil]
        rw [show ((d : Int) + 1) = (d : Int) + ((1 : Nat) : Int) from rfl, e4]
        rfl
    rw [seq_nx e5]
    simp
  · rw [g4]; congr 2; simp; omega
end
end Wk07

set_option Elab.async false
set_option linter.all false
set_option maxRecDepth 100000
set_option maxHeartbeats 4000000
namespace Wk07
open PySem Lw PySem.NumText PyProof.Rows
inductive Dl (d : Nat) : List D → Nat → Prop
  | nil : Dl d [] 0
  | cons {x : D} {r : List D} {m l : Nat} (hx : DeedOk d x m) (hn : x ≠ .und) (hr : Dl d r l) : Dl d (x :: r) (m + l)
theorem block_ok {d : Nat} {xs : List D} {m : Nat} (h : Dl d xs m) (hl : xs.length ≤ 20) : BlockOk d (.tup xs) m := by
  intro n μ s c mn h0 hc
  have key : ∀ {xs : List D} {m : Nat}, Dl d xs m → ∀ (T x0 : D) (μ : Mu) (c : Int), μ[s]? = some (lk c) → c + (m : Int) ≤ 300 →
      ∃ μ' x', forL (gN 4) (sExp (eMeth 2 (call (n + 2 * (31 - d) + 3) .Looker_deed) (eV 0) (aCons (eV 4) (aCons (eV 2) (aCons (eV 3) aNil))))) xs [.ref s, T, .int d, .bl mn, x0] μ = .nx [.ref s, T, .int d, .bl mn, x'] μ' ∧ μ'[s]? = some (lk (c + (m : Int))) ∧ Same (fun k => k = s) μ μ' := by
    intro xs m h
    induction h with
    | nil => intro T x0 μ c h0 hc; exact ⟨μ, x0, rfl, by simpa using h0, .refl⟩
    | @cons x r m l hx hn hr ih =>
      intro T x0 μ c h0 hc
      obtain ⟨μ1, e1, g1, s1⟩ := hx n μ s c mn h0 (by omega)
      obtain ⟨μ2, x', e2, g2, s2⟩ := ih T x μ1 _ g1 (by omega)
      refine ⟨μ2, x', ?_, ?_, s1.trans s2⟩
      · have e3 : (sExp (eMeth 2 (call (n + 2 * (31 - d) + 3) .Looker_deed) (eV 0) (aCons (eV 4) (aCons (eV 2) (aCons (eV 3) aNil))))) [.ref s, T, .int d, .bl mn, x] μ = .nx [.ref s, T, .int d, .bl mn, x] μ1 := by
          simp [h0, getV_of hn, e1]
        rw [forL_cons, gN_ap, frR_s]
        simp only [List.set_cons_succ, List.set_cons_zero]
        rw [e3, turnR_nx]
        exact e2
      · rw [g2]; congr 2; simp; omega
  obtain ⟨μ', x', e, g, s1⟩ := key h (.tup xs) .und μ c h0 hc
  refine ⟨μ', ?_, g, s1⟩
  show outM (m_Looker_block (call (n + 2 * (31 - d) + 3)) (callP (n + 2 * (31 - d) + 3)).2 [.ref s, .tup xs, .int d, .bl mn, .und] μ) = _
  have h3 := sp_need (n := n + 2 * (31 - d) + 2) h0
  have hl' : (xs.length : Int) ≤ 20 := by omega
  unfold m_Looker_block
  rw [seq_nx (fr' := [.ref s, .tup xs, .int d, .bl mn, .und]) (μ' := μ) (by simp [h0, h3, hl'])]
  rw [ap_sFor, ap_eV]
  show outM (bndS _ (Res.ok (D.tup xs) μ) _) = _
  rw [bndS_ok, forD_tup, e]
  rfl
theorem deed_if {d : Nat} {q t e : D} {m l k : Nat} (hd : d ≤ 29) (hq : GP (d + 1) q m) (ht : BlockOk (d + 1) t l) (he : BlockOk (d + 1) e k) (nt : t ≠ .und) (ne : e ≠ .und) : DeedOk d (.tup [.str wIf, q, t, e]) (m + l + k + 1) := by
  intro n μ s c mn h0 hc
  have eN : n + 2 * (31 - d) + 2 = n + (31 - d) + (31 - (d + 1)) + 3 := by omega
  have eM : n + 2 * (31 - d) + 2 = n + 2 * (31 - (d + 1)) + 4 := by omega
  have hs0 : Same (fun k => k = s) μ (μ.set s (lk (c + 1)) ++ [.lst []] ++ [.lst [q]]) := by
    have hs1 : Same (fun k => k = s) μ (μ.set s (lk (c + 1))) := Same.set rfl
    exact hs1.thenApp.thenApp
  have g0 : (μ.set s (lk (c + 1)))[s]? = some (lk (c + 1)) := set_get h0
  have g1 : (μ.set s (lk (c + 1)) ++ [O.lst []])[s]? = some (lk (c + 1)) := by rw [List.getElem?_append_left (get_lt g0)]; exact g0
  have g2 : (μ.set s (lk (c + 1)) ++ [O.lst []] ++ [O.lst [q]])[s]? = some (lk (c + 1)) := by rw [List.getElem?_append_left (get_lt g1)]; exact g1
  generalize hμ2 : (μ.set s (lk (c + 1)) ++ [O.lst []] : Mu) = μ2 at *
  have hL : (μ2 ++ [O.lst [q]])[μ2.length]? = some (.lst [q]) := by simp
  have hne : μ2.length ≠ s := by have := get_lt g1; omega
  obtain ⟨μ3, e3, g3, s3⟩ := sp_part hq (n + (31 - d)) _ s (c + 1) g2 (by omega)
  obtain ⟨μ4, e4, g4, s4⟩ := ht n μ3 s _ mn g3 (by omega)
  obtain ⟨μ5, e5, g5, s5⟩ := he n μ4 s _ mn g4 (by omega)
  have hL3 := s3.get hL hne
  rw [Int.natCast_add] at e3 e4 e5
  rw [← eM] at e4 e5
  rw [← eN] at e3
  refine ⟨μ5, ?_, ?_, ((hs0.trans s3).trans s4).trans s5⟩
  · show outM (m_Looker_deed (call (n + 2 * (31 - d) + 2)) (callP (n + 2 * (31 - d) + 2)).2 [.ref s, .tup [.str wIf, q, t, e], .int d, .bl mn, .und, .und, .und] μ) = _
    have h2 := sp_count (n := n + 2 * (31 - d)) (w := wIf) (r := [q, t, e]) h0 (by omega) (by omega : d ≤ 30)
    have h3 := sp_need (n := n + 2 * (31 - d) + 1) g0
    unfold m_Looker_deed
    rw [seq_nx (fr' := [.ref s, .tup [.str wIf, q, t, e], .int d, .bl mn, .und, .und, .und]) (μ' := μ.set s (lk (c + 1))) (by simp [h0, h2])]
    rw [seq_nx (fr' := [.ref s, .tup [.str wIf, q, t, e], .int d, .bl mn, .str wIf, .und, .und]) (μ' := μ.set s (lk (c + 1))) (by simp)]
    rw [seq_nx (fr' := [.ref s, .tup [.str wIf, q, t, e], .int d, .bl mn, .str wIf, .und, .und]) (μ' := μ.set s (lk (c + 1))) (by simp [g0, h3, k_DEED_SIZES, List.lookup])]
    rw [seq_nx (fr' := [.ref s, .tup [.str wIf, q, t, e], .int d, .bl mn, .str wIf, .und, .und]) (μ' := μ.set s (lk (c + 1))) (by simp)]
    rw [seq_nx (fr' := [.ref s, .tup [.str wIf, q, t, e], .int d, .bl mn, .str wIf, .ref (μ.set s (lk (c + 1))).length, .und]) (μ' := μ2) (by simp [← hμ2])]
    rw [seq_nx (fr' := [.ref s, .tup [.str wIf, q, t, e], .int d, .bl mn, .str wIf, .ref (μ.set s (lk (c + 1))).length, .und]) (μ' := μ2) (by simp)]
    rw [seq_nx (fr' := [.ref s, .tup [.str wIf, q, t, e], .int d, .bl mn, .str wIf, .ref μ2.length, .und]) (μ' := μ2 ++ [.lst [q]]) (by simp [getV_of hq.ne])]
    have e6 : sFor (gN 6) (eV 5) (sExp (eMeth 2 (call (n + 2 * (31 - d) + 2) .Looker_part) (eV 0) (aCons (eV 6) (aCons (eBin opAdd (eV 2) (eC (.int 1))) aNil)))) [.ref s, .tup [.str wIf, q, t, e], .int d, .bl mn, .str wIf, .ref μ2.length, .und] (μ2 ++ [.lst [q]])
        = .nx [.ref s, .tup [.str wIf, q, t, e], .int d, .bl mn, .str wIf, .ref μ2.length, q] μ3 := by
      rw [ap_sFor, ap_eV]
      show bndS _ (Res.ok (D.ref μ2.length) _) _ = _
      rw [bndS_ok, forD_ref hL, show ([q] : List D).length = 1 from rfl]
      refine forM_1 (μ2 := μ3) hL rfl ?_ hL3
      simp only [ap_sExp, ap_eMeth, ap_eV, List.set_cons_succ, List.set_cons_zero, List.getElem?_cons_zero, getV_ref, bnd_ok, atR_r, g2, methR_i, if_true, ap_aCons, List.getElem?_cons_succ, getV_of hq.ne, ap_eBin, getV_int, ap_eC, opAdd_i, ap_aNil]
      rw [show ((d : Int) + 1) = (d : Int) + ((1 : Nat) : Int) from rfl, e3]
      rfl
    rw [seq_nx e6]
    rw [seq_nx (fr' := [.ref s, .tup [.str wIf, q, t, e], .int d, .bl mn, .str wIf, .ref μ2.length, q]) (μ' := μ3) (by simp)]
    have one : ((1 : Nat) : Int) = 1 := rfl
    rw [one] at e4 e5
    simp [g3, g4, e4, e5]
  · rw [g5]; congr 2; simp; omega
end Wk07

set_option Elab.async false
set_option linter.all false
set_option maxRecDepth 100000
set_option maxHeartbeats 4000000
namespace Wk07
open PySem Lw PySem.NumText PyProof.Rows
theorem app_get {μ xs : Mu} {k : Nat} {o : O} (h : μ[k]? = some o) : (μ ++ xs)[k]? = some o := by rw [List.getElem?_append_left (get_lt h)]; exact h
theorem fld_step {e : EM} {d : D} {fr : Fr} {μ μ1 : Mu} {f a c : Nat} {fs : List (Nat × D)} (he : e fr μ = .ok d μ1) (hfr : fr[0]? = some (.ref a)) (h : μ1[a]? = some (.ins c fs)) (hl : fs.length < 500) :
    sFldM f (eV 0) e fr μ = .nx fr (μ1.set a (.ins c (putN f d fs))) := by
  rw [ap_sFldM, he, bndS_ok, ap_eV, hfr, getV_ref, bndS_ok, atS_r, setF_of h hl]
section
variable {n : Nat} {μ : Mu} {s : Nat} {c : Int}
theorem sp_rule {deeds : D} {m : Nat} (hb : BlockOk 1 deeds m) (hn : deeds ≠ .und) (h0 : μ[s]? = some (lk c)) (hc : c + (m : Int) ≤ 300) :
    ∃ μ', call (n + 65) .Looker_rule [.ref s, .tup [.str wBegin, deeds]] μ = .ok .non μ' ∧ Same (fun k => k = s) μ μ' := by
  obtain ⟨μ1, e1, g1, s1⟩ := hb n μ s c false h0 hc
  refine ⟨μ1, ?_, s1⟩
  show outM (m_Looker_rule (call (n + 64)) (callP (n + 64)).2 [.ref s, .tup [.str wBegin, deeds], .und] μ) = _
  have h3 := sp_need (n := n + 63) h0
  have hc : cutD [D.str wBegin, deeds] (some 1) (some (-1)) = [] := rfl
  have hi : ixD [D.str wBegin, deeds] (-1) = some deeds := rfl
  have e1' : call (n + 64) .Looker_block [.ref s, deeds, .int 1, .bl false] μ = .ok .non μ1 := e1
  unfold m_Looker_rule
  rw [seq_nx (fr' := [.ref s, .tup [.str wBegin, deeds], .und]) (μ' := μ) (by simp [h0, h3])]
  rw [seq_nx (fr' := [.ref s, .tup [.str wBegin, deeds], .und]) (μ' := μ) (by simp [h0, h3, k_RULE_SIZES, List.lookup])]
  rw [seq_nx (fr' := [.ref s, .tup [.str wBegin, deeds], .und]) (μ' := μ) (by simp [hc])]
  simp [h0, hi, e1']
theorem sp_lk_init (h : μ[s]? = some (.ins 2 [])) : call (n + 1) .Looker_init [.ref s] μ = .ok .non (μ.set s (lk 0)) := by
  show outM (m_Looker_init (call n) (callP n).2 [.ref s] μ) = _
  simp [m_Looker_init, h, putN]
theorem sp_need_tree {deeds : D} {m : Nat} (hb : BlockOk 1 deeds m) (hn : deeds ≠ .und) (hm : m ≤ 300) :
    ∃ μ', call (n + 66) .f_need_tree [.tup [.tup [.str wBegin, deeds]]] μ = .ok .non μ' ∧ Same (fun _ => False) μ μ' := by
  have h0 : (μ ++ [O.ins 2 []])[μ.length]? = some (.ins 2 []) := by simp
  have h1 := sp_lk_init (n := n + 63) h0
  have h2 : ((μ ++ [O.ins 2 []]).set μ.length (lk 0))[μ.length]? = some (lk 0) := set_get h0
  have s0 : Same (fun _ => False) μ ((μ ++ [O.ins 2 []]).set μ.length (lk 0)) := Same.app.thenSet (Nat.le_refl _)
  obtain ⟨μ1, e1, s1⟩ := sp_rule (n := n) hb hn h2 (by omega)
  have h3 := sp_need (n := n + 64) h2
  refine ⟨μ1, ?_, ⟨Nat.le_trans s0.le s1.le, fun k hk _ => (s1.eq k (Nat.lt_of_lt_of_le hk s0.le) (by omega)).trans (s0.eq k hk (fun q => q))⟩⟩
  show outM (m_f_need_tree (call (n + 65)) (call (n + 64)) [.tup [.tup [.str wBegin, deeds]], .und, .und] μ) = _
  unfold m_f_need_tree
  rw [seq_nx (fr' := [.tup [.tup [.str wBegin, deeds]], .ref μ.length, .und]) (μ' := (μ ++ [O.ins 2 []]).set μ.length (lk 0)) (by simp only [ap_sAsg, ap_eMake, ap_aNil, bnd_ok, h1, nonR_n, bndS_ok]; rfl)]
  rw [seq_nx (fr' := [.tup [.tup [.str wBegin, deeds]], .ref μ.length, .und]) (μ' := (μ ++ [O.ins 2 []]).set μ.length (lk 0)) (by
    generalize (μ ++ [O.ins 2 []]).set μ.length (lk 0) = M at *
    simp [h2, h3])]
  generalize (μ ++ [O.ins 2 []]).set μ.length (lk 0) = M at *
  simp [forL_cons, h2, e1]
end
end Wk07

set_option Elab.async false
set_option linter.all false
set_option maxRecDepth 100000
set_option maxHeartbeats 4000000
namespace Wk07
open PySem Lw PySem.NumText PyProof.Rows
abbrev sFresh : List Nat := [102, 114, 101, 115, 104]
abbrev sReading : List Nat := [114, 101, 97, 100, 105, 110, 103]
abbrev sOver : List Nat := [111, 118, 101, 114]
section
variable {n : Nat} {μ : Mu} {a : Nat}
theorem sp_line_init (h : μ[a]? = some (.ins 0 [])) : ∃ μ', call (n + 2) .Line_init [.ref a, .str []] μ = .ok .non μ' ∧ Same (fun k => k = a) μ μ' := by
  have h1 := sp_cut (n := n) (μ := μ) [] (by decide)
  have g1 : (μ.set a (O.ins 0 [(0, .str [])]))[a]? = some (.ins 0 [(0, .str [])]) := set_get h
  have s1 : Same (fun k => k = a) μ (μ.set a (O.ins 0 [(0, .str [])])) := Same.set rfl
  generalize hM : μ.set a (O.ins 0 [(0, .str [])]) = M at *
  have e1 : (sFldM 0 (eV 0) (eCall (call (n + 1) .f_cut) (aCons (eV 1) aNil))) [.ref a, .str [], .und] μ = .nx [.ref a, .str [], .und] M := by
    rw [fld_step (μ1 := μ) (d := .str []) (fs := []) (c := 0) (a := a) (by simp [h1]) rfl h (by decide)]
    rw [← hM]; rfl
  have g2 : (M ++ [O.lst [.str []]])[M.length]? = some (.lst [.str []]) := by simp
  have g3 : (M ++ [O.lst [.str []]] ++ [O.lst []])[M.length]? = some (.lst [.str []]) := app_get g2
  have e2 : (eLc (gN 2) (eM1 mSplit (eFld 0 (eV 0)) (eC (.str [32]))) (tB (eBin opNe (eV 2) (eC (.str [])))) (eV 2) [2]) [.ref a, .str [], .und] M = .ok (.ref (M.length + 1)) (M ++ [.lst [.str []]] ++ [.lst []]) := by
    have e3 : (eM1 mSplit (eFld 0 (eV 0)) (eC (.str [32]))) [.ref a, .str [], .und] M = .ok (.ref M.length) (M ++ [.lst [.str []]]) := by
      show bnd ((eFld 0 (eV 0)) [.ref a, .str [], .und] M) _ = _
      have : (eFld 0 (eV 0)) [.ref a, .str [], .und] M = .ok (.str []) M := by simp [g1]
      rw [this]
      rfl
    rw [ap_eLc, e3, bnd_ok, lcD_ref g2, show ([D.str []] : List D).length = 1 from rfl]
    unfold lcM
    rw [g3]
    simp only [List.getElem?_cons_zero, wipF, List.set_cons_succ, List.set_cons_zero, gN_ap, ap_tB, ap_eBin, ap_eV, List.getElem?_cons_succ, getV_str, bnd_ok, ap_eC, opNe_s, decide_true, Bool.not_true, blR_b, Bool.false_eq_true, if_false]
    unfold lcM
    rw [g3]
    simp
  refine ⟨(M ++ [O.lst [.str []]] ++ [O.lst []]).set a (.ins 0 [(0, .str []), (1, .ref (M.length + 1))]), ?_, (s1.thenApp.thenApp).trans (Same.set rfl)⟩
  show outM (m_Line_init (call (n + 1)) (callP (n + 1)).2 [.ref a, .str [], .und] μ) = _
  unfold m_Line_init
  rw [seq_nx e1, fld_step e2 rfl (app_get (app_get g1)) (by decide)]
  rfl
def stF (stage : List Nat) (stopped : Bool) (v4 v5 v6 v7 : D) (r : Nat) : List (Nat × D) := [(2, .str stage), (3, .bl stopped), (4, v4), (5, v5), (6, v6), (7, v7), (8, .int 0), (9, .int 0), (10, .int 0), (11, .ref r)]
theorem setS {M : Mu} {b : Nat} {o : O} {P : Nat → Prop} (h : Same (fun k => k = a) μ M) : Same (fun k => k = a) μ (M.set a o) := h.trans (Same.set rfl)
theorem sp_state_init (h : μ[a]? = some (.ins 1 [])) : ∃ μ' v4 v5 v6 v7 r, call (n + 4) .State_init [.ref a, .int 1] μ = .ok .non μ' ∧ Same (fun k => k = a) μ μ' ∧ μ'[a]? = some (.ins 1 (stF sFresh false v4 v5 v6 v7 r)) ∧ μ'[r]? = some (.lst []) ∧ μ.length ≤ r := by
  let F : Fr := [.ref a, .int 1]
  have st : ∀ {s1 s2 : SM} {M M' : Mu}, s1 F M = .nx F M' → ∀ {R : Res D}, outM (s2 F M') = R → outM (sSeq s1 s2 F M) = R := fun h1 R h2 => by rw [seq_nx h1]; exact h2
  have hF : F[0]? = some (.ref a) := rfl
  -- stage, stopped
  obtain ⟨A1, hA1⟩ : ∃ A1, A1 = μ.set a (O.ins 1 [(2, .str sFresh)]) := ⟨_, rfl⟩
  have g1 : A1[a]? = some (.ins 1 [(2, .str sFresh)]) := hA1 ▸ set_get h
  have k1 : Same (fun k => k = a) μ A1 := hA1 ▸ setS (b := 0) (P := fun _ => True) .refl
  have e1 : sFldM 2 (eV 0) (eC (.str sFresh)) F μ = .nx F A1 := by rw [fld_step (ap_eC) hF h (by decide), hA1]; rfl
  obtain ⟨A2, hA2⟩ : ∃ A2, A2 = A1.set a (O.ins 1 [(2, .str sFresh), (3, .bl false)]) := ⟨_, rfl⟩
  have g2 : A2[a]? = some (.ins 1 [(2, .str sFresh), (3, .bl false)]) := hA2 ▸ set_get g1
  have k2 : Same (fun k => k = a) μ A2 := hA2 ▸ setS (b := 0) (P := fun _ => True) k1
  have e2 : sFldM 3 (eV 0) (eC (.bl false)) F A1 = .nx F A2 := by rw [fld_step (ap_eC) hF g1 (by simp), hA2]; rfl
  -- two dicts
  obtain ⟨v4, hv4⟩ : ∃ v4 : D, v4 = .ref A2.length := ⟨_, rfl⟩
  obtain ⟨A3, hA3⟩ : ∃ A3, A3 = (A2 ++ [O.dic []]).set a (O.ins 1 [(2, .str sFresh), (3, .bl false), (4, v4)]) := ⟨_, rfl⟩
  have g3 : A3[a]? = some (.ins 1 [(2, .str sFresh), (3, .bl false), (4, v4)]) := hA3 ▸ set_get (app_get g2)
  have k3 : Same (fun k => k = a) μ A3 := hA3 ▸ setS (b := 0) (P := fun _ => True) k2.thenApp
  have e3 : sFldM 4 (eV 0) eDict0 F A2 = .nx F A3 := by rw [fld_step (ap_eDict0) hF (app_get g2) (by simp), hA3, hv4]; rfl
  obtain ⟨v5, hv5⟩ : ∃ v5 : D, v5 = .ref A3.length := ⟨_, rfl⟩
  obtain ⟨A4, hA4⟩ : ∃ A4, A4 = (A3 ++ [O.dic []]).set a (O.ins 1 [(2, .str sFresh), (3, .bl false), (4, v4), (5, v5)]) := ⟨_, rfl⟩
  have g4 : A4[a]? = some (.ins 1 [(2, .str sFresh), (3, .bl false), (4, v4), (5, v5)]) := hA4 ▸ set_get (app_get g3)
  have k4 : Same (fun k => k = a) μ A4 := hA4 ▸ setS (b := 0) (P := fun _ => True) k3.thenApp
  have e4 : sFldM 5 (eV 0) eDict0 F A3 = .nx F A4 := by rw [fld_step (ap_eDict0) hF (app_get g3) (by simp), hA4, hv5]; rfl
  -- turned
  obtain ⟨v6, hv6⟩ : ∃ v6 : D, v6 = .ref (A4.length + 1) := ⟨_, rfl⟩
  obtain ⟨A5, hA5⟩ : ∃ A5, A5 = (A4 ++ [O.lst [.bl false]] ++ [O.lst [.bl false]]).set a (O.ins 1 [(2, .str sFresh), (3, .bl false), (4, v4), (5, v5), (6, v6)]) := ⟨_, rfl⟩
  have g5 : A5[a]? = some (.ins 1 [(2, .str sFresh), (3, .bl false), (4, v4), (5, v5), (6, v6)]) := hA5 ▸ set_get (app_get (app_get g4))
  have k5 : Same (fun k => k = a) μ A5 := hA5 ▸ setS (b := 0) (P := fun _ => True) k4.thenApp.thenApp
  have x5 : (eBin opMul (eLst (aCons (eC (.bl false)) aNil)) (eV 1)) F A4 = .ok v6 (A4 ++ [O.lst [.bl false]] ++ [O.lst [.bl false]]) := by
    have q : (A4 ++ [O.lst [.bl false]])[A4.length]? = some (.lst [.bl false]) := by simp
    have w : opMul (.ref A4.length) (.int 1) (A4 ++ [O.lst [.bl false]]) = .ok v6 (A4 ++ [O.lst [.bl false]] ++ [O.lst [.bl false]]) := by
      show (match (A4 ++ [O.lst [.bl false]])[A4.length]? with
        | some (.lst xs) => (if -(2 ^ 63) ≤ (1 : Int) ∧ (1 : Int) < 2 ^ 63 ∧ xs.length * (1 : Int).toNat ≤ LINE then Res.ok (D.ref (A4 ++ [O.lst [.bl false]]).length) (A4 ++ [O.lst [.bl false]] ++ [O.lst (List.replicate (1 : Int).toNat xs).flatten]) else .bad)
        | _ => .bad) = _
      rw [q, hv6]
      simp only []
      rw [if_pos ⟨by decide, by decide, by decide⟩]
      simp
    rw [ap_eBin, ap_eLst, ap_aCons, ap_eC, bnd_ok, ap_aNil, bnd_ok, bnd_ok, bnd_ok, ap_eV]
    exact w
  have e5 : sFldM 6 (eV 0) (eBin opMul (eLst (aCons (eC (.bl false)) aNil)) (eV 1)) F A4 = .nx F A5 := by rw [fld_step x5 hF (app_get (app_get g4)) (by simp), hA5]; rfl
  -- now_line
  have q6 : (A5 ++ [O.ins 0 []])[A5.length]? = some (.ins 0 []) := by simp
  obtain ⟨B, eB, kB⟩ := sp_line_init (n := n) q6
  have gB : B[a]? = some (.ins 1 [(2, .str sFresh), (3, .bl false), (4, v4), (5, v5), (6, v6)]) := kB.get (app_get g5) (by have := get_lt g5; omega)
  have kB' : Same (fun k => k = a) μ B := ⟨Nat.le_trans k5.le (Nat.le_trans (by simp) kB.le), fun k hk hn => by
    rw [kB.eq k (by simp; have := k5.le; omega) (by have := k5.le; omega), List.getElem?_append_left (Nat.lt_of_lt_of_le hk k5.le)]
    exact k5.eq k hk hn⟩
  obtain ⟨v7, hv7⟩ : ∃ v7 : D, v7 = .ref A5.length := ⟨_, rfl⟩
  obtain ⟨A6, hA6⟩ : ∃ A6, A6 = B.set a (O.ins 1 [(2, .str sFresh), (3, .bl false), (4, v4), (5, v5), (6, v6), (7, v7)]) := ⟨_, rfl⟩
  have g6 : A6[a]? = some (.ins 1 [(2, .str sFresh), (3, .bl false), (4, v4), (5, v5), (6, v6), (7, v7)]) := hA6 ▸ set_get gB
  have k6 : Same (fun k => k = a) μ A6 := hA6 ▸ setS (b := 0) (P := fun _ => True) kB'
  have x6 : (eMake 0 (call (n + 2) .Line_init) (aCons (eC (.str [])) aNil)) F A5 = .ok v7 B := by
    rw [ap_eMake, ap_aCons, ap_eC, bnd_ok, ap_aNil, bnd_ok, bnd_ok, eB, bnd_ok, nonR_n, hv7]
  have e6 : sFldM 7 (eV 0) (eMake 0 (call (n + 2) .Line_init) (aCons (eC (.str [])) aNil)) F A5 = .nx F A6 := by rw [fld_step x6 hF gB (by simp), hA6]; rfl
  -- three numbers
  obtain ⟨A7, hA7⟩ : ∃ A7, A7 = A6.set a (O.ins 1 [(2, .str sFresh), (3, .bl false), (4, v4), (5, v5), (6, v6), (7, v7), (8, .int 0)]) := ⟨_, rfl⟩
  have g7 : A7[a]? = some (.ins 1 [(2, .str sFresh), (3, .bl false), (4, v4), (5, v5), (6, v6), (7, v7), (8, .int 0)]) := hA7 ▸ set_get g6
  have k7 : Same (fun k => k = a) μ A7 := hA7 ▸ setS (b := 0) (P := fun _ => True) k6
  have e7 : sFldM 8 (eV 0) (eC (.int 0)) F A6 = .nx F A7 := by rw [fld_step (ap_eC) hF g6 (by simp), hA7]; rfl
  obtain ⟨A8, hA8⟩ : ∃ A8, A8 = A7.set a (O.ins 1 [(2, .str sFresh), (3, .bl false), (4, v4), (5, v5), (6, v6), (7, v7), (8, .int 0), (9, .int 0)]) := ⟨_, rfl⟩
  have g8 : A8[a]? = some (.ins 1 [(2, .str sFresh), (3, .bl false), (4, v4), (5, v5), (6, v6), (7, v7), (8, .int 0), (9, .int 0)]) := hA8 ▸ set_get g7
  have k8 : Same (fun k => k = a) μ A8 := hA8 ▸ setS (b := 0) (P := fun _ => True) k7
  have e8 : sFldM 9 (eV 0) (eC (.int 0)) F A7 = .nx F A8 := by rw [fld_step (ap_eC) hF g7 (by simp), hA8]; rfl
  obtain ⟨A9, hA9⟩ : ∃ A9, A9 = A8.set a (O.ins 1 [(2, .str sFresh), (3, .bl false), (4, v4), (5, v5), (6, v6), (7, v7), (8, .int 0), (9, .int 0), (10, .int 0)]) := ⟨_, rfl⟩
  have g9 : A9[a]? = some (.ins 1 [(2, .str sFresh), (3, .bl false), (4, v4), (5, v5), (6, v6), (7, v7), (8, .int 0), (9, .int 0), (10, .int 0)]) := hA9 ▸ set_get g8
  have k9 : Same (fun k => k = a) μ A9 := hA9 ▸ setS (b := 0) (P := fun _ => True) k8
  have e9 : sFldM 10 (eV 0) (eC (.int 0)) F A8 = .nx F A9 := by rw [fld_step (ap_eC) hF g8 (by simp), hA9]; rfl
  -- said
  have x10 : (eLst aNil) F A9 = .ok (.ref A9.length) (A9 ++ [.lst []]) := rfl
  have e10 : sFldM 11 (eV 0) (eLst aNil) F A9 = .nx F ((A9 ++ [O.lst []]).set a (O.ins 1 (stF sFresh false v4 v5 v6 v7 A9.length))) := by rw [fld_step x10 hF (app_get g9) (by simp)]; rfl
  refine ⟨(A9 ++ [O.lst []]).set a (O.ins 1 (stF sFresh false v4 v5 v6 v7 A9.length)), v4, v5, v6, v7, A9.length, ?_, setS (b := 0) (P := fun _ => True) k9.thenApp, set_get (app_get g9), ?_, k9.le⟩
  · show outM (m_State_init (call (n + 3)) (call (n + 2)) F μ) = _
    unfold m_State_init
    refine st e1 (st e2 (st e3 (st e4 (st e5 (st e6 (st e7 (st e8 (st e9 ?_))))))))
    rw [e10]; rfl
  · rw [List.getElem?_set_ne (by have := get_lt g9; omega)]
    simp
end
end Wk07

set_option Elab.async false
set_option linter.all false
set_option maxRecDepth 100000
set_option maxHeartbeats 4000000
namespace Wk07
open PySem Lw PySem.NumText PyProof.Rows
abbrev sGoes : List Nat := [103, 111, 101, 115]
structure DS (μ : Mu) (s st r : Nat) (tree : D) (stage : List Nat) (stopped : Bool) (ts : List (List Nat)) : Prop where
  ds : μ[s]? = some (.ins 3 [(13, tree), (14, .ref st)])
  ss : ∃ v4 v5 v6 v7, μ[st]? = some (.ins 1 (stF stage stopped v4 v5 v6 v7 r))
  sr : μ[r]? = some (.lst (ts.map .str))
section
variable {n : Nat} {μ : Mu} {s st r : Nat} {tree : D} {stage : List Nat} {stopped : Bool} {ts : List (List Nat)}
theorem DS.ne1 (h : DS μ s st r tree stage stopped ts) : s ≠ r := fun e => by
  have h1 := h.ds; have h2 := h.sr; rw [e, h2] at h1; exact nomatch h1
theorem DS.ne2 (h : DS μ s st r tree stage stopped ts) : st ≠ r := fun e => by
  obtain ⟨_, _, _, _, h1⟩ := h.ss; have h2 := h.sr; rw [e, h2] at h1; exact nomatch h1
theorem DS.ne3 (h : DS μ s st r tree stage stopped ts) : s ≠ st := fun e => by
  obtain ⟨_, _, _, _, h1⟩ := h.ss; have h2 := h.ds; rw [e, h1] at h2; injection h2 with h2; injection h2 with h2; exact absurd h2 (by decide)
theorem DS.same {μ' : Mu} (h : DS μ s st r tree stage stopped ts) (k : Same (fun _ => False) μ μ') : DS μ' s st r tree stage stopped ts :=
  ⟨k.get h.ds (fun q => q), let ⟨a, b, c, d, e⟩ := h.ss; ⟨a, b, c, d, k.get e (fun q => q)⟩, k.get h.sr (fun q => q)⟩
theorem DS.said (h : DS μ s st r tree stage stopped ts) : (eFld 11 (eFld 14 (eV 0))) (.ref s :: []) μ = .ok (.ref r) μ := by
  obtain ⟨a, b, c, d, e⟩ := h.ss
  simp [h.ds, List.lookup, e, stF]
theorem DS.push {x : List Nat} (h : DS μ s st r tree stage stopped ts) : DS (μ.set r (.lst ((ts ++ [x]).map .str))) s st r tree stage stopped (ts ++ [x]) :=
  ⟨by rw [List.getElem?_set_ne h.ne1.symm]; exact h.ds, let ⟨a, b, c, d, e⟩ := h.ss; ⟨a, b, c, d, by rw [List.getElem?_set_ne h.ne2.symm]; exact e⟩, set_get h.sr⟩
end
def RunOk (K : Nat) (x : D) (ts' : List (List Nat)) : Prop := ∀ (n : Nat) (μ : Mu) (s st r : Nat) (tree : D) (stage : List Nat) (stopped : Bool) (ts : List (List Nat)), DS μ s st r tree stage stopped ts → ts.length + ts'.length ≤ 1000 →
    ∃ μ', call (n + K) .Desk_deed [.ref s, x] μ = .ok (.str sGoes) μ' ∧ DS μ' s st r tree stage stopped (ts ++ ts') ∧ Same (fun k => k = r) μ μ'
theorem textD_len {v : D} (h : Wo v) : (textD v).length ≤ 2000 := by
  cases h with
  | int h1 h2 =>
    have e : ∀ i : Int, (intL i).length = (Str.ofString (toString i)).length := fun i => Array.length_toList
    show (intL _).length ≤ 2000
    rw [e]
    exact Nat.le_trans (int_text_len_1921 (log_ok h1 h2)) (by decide)
  | str h => exact Nat.le_trans h (by decide)
section
variable {n : Nat} {μ : Mu} {s st r : Nat} {tree : D} {stage : List Nat} {stopped : Bool} {ts : List (List Nat)}
theorem run_say {a b va vb : D} (ha : Wv 5 a va) (hb : Wv 5 b vb) : RunOk 20 (.tup [.str wSay, .tup [a, b]]) [textD va ++ (32 :: textD vb)] := by
  intro n μ s st r tree stage stopped ts h hl
  have h1 : (μ ++ [O.lst []])[s]? = some (.ins 3 [(13, tree), (14, .ref st)]) := app_get h.ds
  obtain ⟨μ1, e1, s1⟩ := sp_worth ha (n + 8) (μ ++ [.lst []]) s _ h1
  have hL : μ1[μ.length]? = some (.lst []) := s1.get (by simp) (fun q => q)
  have h2 : (μ1.set μ.length (O.lst [.str (textD va)]))[s]? = some (.ins 3 [(13, tree), (14, .ref st)]) := by
    rw [List.getElem?_set_ne (by have := get_lt h.ds; omega)]
    exact s1.get h1 (fun q => q)
  obtain ⟨μ2, e2, s2⟩ := sp_worth hb (n + 8) (μ1.set μ.length (.lst [.str (textD va)])) s _ h2
  have hL2 : μ2[μ.length]? = some (.lst [.str (textD va)]) := s2.get (set_get hL) (fun q => q)
  have t1 := sp_text_of (n := n + 17) (μ := μ1) ha.wo
  have t2 := sp_text_of (n := n + 17) (μ := μ2) hb.wo
  obtain ⟨μ3, hμ3⟩ : ∃ m, m = μ2.set μ.length (O.lst [.str (textD va), .str (textD vb)]) := ⟨_, rfl⟩
  have hL3 : μ3[μ.length]? = some (.lst [.str (textD va), .str (textD vb)]) := hμ3 ▸ set_get hL2
  have k3 : Same (fun _ => False) μ μ3 := hμ3 ▸ (((Same.app.trans s1).thenSet (Nat.le_refl _)).trans s2).thenSet (Nat.le_refl _)
  have d3 := h.same k3
  have hc : ([.ref s, .tup [.str wSay, .tup [a, b]], .str wSay, .und, .und] : Fr)[0]? = some (.ref s) := rfl
  let F : Fr := [.ref s, .tup [.str wSay, .tup [a, b]], .str wSay, .und, .und]
  have x1 : (eLc (gN 4) (eBin opIx (eV 1) (eC (.int 1))) tYesM (eCall (call (n + 19) .f_text_of) (aCons (eMeth 3 (call (n + 19) .Desk_worth) (eV 0) (aCons (eV 4) aNil)) aNil)) [4]) F μ = .ok (.ref μ.length) μ3 := by
    have q0 : (eBin opIx (eV 1) (eC (.int 1))) F μ = .ok (.tup [a, b]) μ := by simp [F]
    rw [ap_eLc, q0, bnd_ok, lcD_tup]
    rw [lcL_yes (y := .str (textD va)) (acc := []) (fr1 := [.ref s, .tup [.str wSay, .tup [a, b]], .str wSay, .und, a]) (μ2 := μ1) rfl (by
      simp only [ap_eCall, ap_aCons, ap_eMeth, ap_eV, List.getElem?_cons_zero, List.getElem?_cons_succ, getV_ref, bnd_ok, atR_r, h1, methR_i, if_true, getV_of ha.tupd, ap_aNil]
      rw [show n + 19 = n + 8 + 5 + 6 from rfl, e1]
      exact t1) hL (by decide)]
    rw [lcL_yes (y := .str (textD vb)) (acc := [.str (textD va)]) (fr1 := [.ref s, .tup [.str wSay, .tup [a, b]], .str wSay, .und, b]) (μ2 := μ2) rfl (by
      simp only [ap_eCall, ap_aCons, ap_eMeth, ap_eV, List.getElem?_cons_zero, List.getElem?_cons_succ, getV_ref, bnd_ok, atR_r, List.nil_append, h2, methR_i, if_true, getV_of hb.tupd, ap_aNil]
      rw [show n + 19 = n + 8 + 5 + 6 from rfl, e2]
      exact t2) hL2 (by simp), lcL_nil, hμ3]
    rfl
  have x2 : (eM1 mJoin (eC (.str [32])) (eLc (gN 4) (eBin opIx (eV 1) (eC (.int 1))) tYesM (eCall (call (n + 19) .f_text_of) (aCons (eMeth 3 (call (n + 19) .Desk_worth) (eV 0) (aCons (eV 4) aNil)) aNil)) [4])) F μ = .ok (.str (textD va ++ (32 :: textD vb))) μ3 := by
    show bnd (Res.ok (D.str [32]) μ) _ = _
    rw [bnd_ok]
    show bnd ((eLc _ _ _ _ _) F μ) _ = _
    rw [x1, bnd_ok]
    have q1 : (seqM (.ref μ.length) μ3).bind strsD = some [textD va, textD vb] := by
      show (match μ3[μ.length]? with | some (.lst xs) => some xs | _ => none).bind strsD = _
      rw [hL3]; rfl
    show (match (seqM (.ref μ.length) μ3).bind strsD with | some ts => (if ((ts : List (List Nat)).map (fun x => List.length x)).sum + ts.length * [32].length ≤ LINE then Res.ok (D.str (TL.joinL [32] ts)) μ3 else .bad) | none => .bad) = _
    rw [q1]
    have l1 := textD_len ha.wo
    have l2 := textD_len hb.wo
    have l3 : ([textD va, textD vb].map (fun x => List.length x)).sum + [textD va, textD vb].length * [32].length ≤ LINE := by
      have : LINE = 10000000 := rfl
      simp
      omega
    simp only [if_pos l3]
    rfl
  have x3 : (sExp (eApp (eFld 11 (eFld 14 (eV 0))) (eM1 mJoin (eC (.str [32])) (eLc (gN 4) (eBin opIx (eV 1) (eC (.int 1))) tYesM (eCall (call (n + 19) .f_text_of) (aCons (eMeth 3 (call (n + 19) .Desk_worth) (eV 0) (aCons (eV 4) aNil)) aNil)) [4])))) F μ
      = .nx F (μ3.set r (.lst ((ts ++ [textD va ++ (32 :: textD vb)]).map .str))) := by
    have q2 : (eFld 11 (eFld 14 (eV 0))) F μ = .ok (.ref r) μ := h.said
    have q3 : ts.length < LINE := by
      have : LINE = 10000000 := rfl
      simp at hl
      omega
    rw [ap_sExp, ap_eApp, q2, bnd_ok, atR_r, h.sr, lstR_l, x2, bnd_ok, d3.sr, appR_l, if_pos (by simpa using q3), bndS_ok]
    simp
  refine ⟨_, ?_, d3.push, (k3.mono fun _ _ q => q.elim).trans (Same.set rfl)⟩
  show outM (m_Desk_deed (call (n + 19)) (callP (n + 19)).2 [.ref s, .tup [.str wSay, .tup [a, b]], .und, .und, .und] μ) = _
  unfold m_Desk_deed
  rw [seq_nx (fr' := F) (μ' := μ) (by simp [F])]
  rw [seq_nx (fr' := F) (μ' := μ) (by simp [F])]
  rw [seq_nx (fr' := F) (μ' := μ) (by simp [F])]
  rw [seq_nx (fr' := F) (μ' := μ) (by simp [F])]
  rw [seq_nx (fr' := F) (μ' := μ) (by simp [F])]
  rw [seq_nx (fr' := F) (μ' := μ3.set r (.lst ((ts ++ [textD va ++ (32 :: textD vb)]).map .str))) (by
    rw [ap_sIf]
    have : (tB (eBin opEq (eV 2) (eC (.str [115, 97, 121])))) F μ = .ok true μ := by simp [F]
    rw [this, bndS_ok, if_pos rfl]
    exact x3)]
  rw [seq_nx (fr' := F) (μ' := μ3.set r (.lst ((ts ++ [textD va ++ (32 :: textD vb)]).map .str))) (by simp [F])]
  simp [F]
end
end Wk07

set_option Elab.async false
set_option linter.all false
set_option maxRecDepth 100000
set_option maxHeartbeats 4000000
namespace Wk07
open PySem Lw PySem.NumText PyProof.Rows
def BlockRun (K : Nat) (x : D) (ts' : List (List Nat)) : Prop := ∀ (n : Nat) (μ : Mu) (s st r : Nat) (tree : D) (stage : List Nat) (stopped : Bool) (ts : List (List Nat)), DS μ s st r tree stage stopped ts → ts.length + ts'.length ≤ 1000 →
    ∃ μ', call (n + K) .Desk_block [.ref s, x] μ = .ok (.str sGoes) μ' ∧ DS μ' s st r tree stage stopped (ts ++ ts') ∧ Same (fun k => k = r) μ μ'
inductive Rl (K : Nat) : List D → List (List Nat) → Prop
  | nil : Rl K [] []
  | cons {x : D} {r : List D} {t t' : List (List Nat)} (hx : RunOk K x t) (hn : x ≠ .und) (hr : Rl K r t') : Rl K (x :: r) (t ++ t')
theorem RunOk.up {K j : Nat} {x : D} {t : List (List Nat)} (h : RunOk K x t) : RunOk (K + j) x t := by
  intro n μ s st r tree stage stopped ts h0 hl
  obtain ⟨μ', e, r1⟩ := h (n + j) μ s st r tree stage stopped ts h0 hl
  exact ⟨μ', by rw [show n + (K + j) = n + j + K by omega]; exact e, r1⟩
theorem block_run {K : Nat} {xs : List D} {t : List (List Nat)} (h : Rl K xs t) : BlockRun (K + 1) (.tup xs) t := by
  intro n μ s st r tree stage stopped ts h0 hl
  have key : ∀ {xs : List D} {t : List (List Nat)}, Rl K xs t → ∀ (T x0 y0 : D) (μ : Mu) (ts : List (List Nat)), DS μ s st r tree stage stopped ts → ts.length + t.length ≤ 1000 →
      ∃ μ' x' y', forL (gN 2) (sSeq (sAsg 3 (eMeth 3 (call (n + K) .Desk_deed) (eV 0) (aCons (eV 2) aNil))) (sIf (tB (eBin opNe (eV 3) (eC (.str [103, 111, 101, 115])))) (sRet (eV 3)) sNx)) xs [.ref s, T, x0, y0] μ = .nx [.ref s, T, x', y'] μ' ∧ DS μ' s st r tree stage stopped (ts ++ t) ∧ Same (fun k => k = r) μ μ' := by
    intro xs t h
    induction h with
    | nil => intro T x0 y0 μ ts h0 hl; exact ⟨μ, x0, y0, rfl, by simpa using h0, .refl⟩
    | @cons x r' t t' hx hn hr ih =>
      intro T x0 y0 μ ts h0 hl
      simp only [List.length_append] at hl
      obtain ⟨μ1, e1, d1, s1⟩ := hx n μ s st r tree stage stopped ts h0 (by omega)
      obtain ⟨μ2, x', y', e2, d2, s2⟩ := ih T x (.str sGoes) μ1 (ts ++ t) d1 (by simp; omega)
      refine ⟨μ2, x', y', ?_, by rw [← List.append_assoc]; exact d2, s1.trans s2⟩
      have e3 : (sSeq (sAsg 3 (eMeth 3 (call (n + K) .Desk_deed) (eV 0) (aCons (eV 2) aNil))) (sIf (tB (eBin opNe (eV 3) (eC (.str [103, 111, 101, 115])))) (sRet (eV 3)) sNx)) [.ref s, T, x, y0] μ = .nx [.ref s, T, x, .str sGoes] μ1 := by
        rw [seq_nx (fr' := [.ref s, T, x, .str sGoes]) (μ' := μ1) (by simp [h0.ds, getV_of hn, e1])]
        simp
      rw [forL_cons, gN_ap, frR_s]
      simp only [List.set_cons_succ, List.set_cons_zero]
      rw [e3, turnR_nx]
      exact e2
  obtain ⟨μ', x', y', e, d, s1⟩ := key h (.tup xs) .und .und μ ts h0 hl
  refine ⟨μ', ?_, d, s1⟩
  show outM (m_Desk_block (call (n + K)) (callP (n + K)).2 [.ref s, .tup xs, .und, .und] μ) = _
  unfold m_Desk_block
  rw [seq_nx (fr' := [.ref s, .tup xs, x', y']) (μ' := μ') (by
    rw [ap_sFor, ap_eV]
    show bndS _ (Res.ok (D.tup xs) μ) _ = _
    rw [bndS_ok, forD_tup]
    exact e)]
  simp
section
variable {n : Nat} {μ : Mu} {s st r : Nat} {tree : D} {stage : List Nat} {stopped : Bool} {ts : List (List Nat)}
theorem sp_is_true_i (i : Int) : call (n + 2) .f_is_true [.int i] μ = .ok (.bl (!decide (i = 0))) μ := by
  show outM (m_f_is_true (call (n + 1)) (callP (n + 1)).2 [.int i] μ) = _
  simp [m_f_is_true, sp_is_number_i]
theorem run_if {q t e : D} {z : Int} {x y : List (List Nat)} (hq : Wv 5 q (.int z)) (ht : BlockRun 21 t x) (he : BlockRun 21 e y) (nt : t ≠ .und) (ne : e ≠ .und) : RunOk 22 (.tup [.str wIf, q, t, e]) (if z = 0 then y else x) := by
  intro n μ s st r tree stage stopped ts h hl
  obtain ⟨μ1, e1, s1⟩ := sp_worth hq (n + 10) μ s _ h.ds
  have d1 := h.same s1
  have e1' : call (n + 21) .Desk_worth [.ref s, q] μ = .ok (.int z) μ1 := e1
  have e2 := sp_is_true_i (n := n + 19) (μ := μ1) z
  have e2' : call (n + 21) .f_is_true [.int z] μ1 = .ok (.bl (!decide (z = 0))) μ1 := e2
  have fin : ∀ {w : D} {l : List (List Nat)} (hw : BlockRun 21 w l), ts.length + l.length ≤ 1000 → w = (if z = 0 then e else t) → ∃ μ', call (n + 22) .Desk_deed [.ref s, .tup [.str wIf, q, t, e]] μ = .ok (.str sGoes) μ' ∧ DS μ' s st r tree stage stopped (ts ++ l) ∧ Same (fun k => k = r) μ μ' := by
    intro w l hw hl hwe
    obtain ⟨μ2, e3, d2, s2⟩ := hw n μ1 s st r tree stage stopped ts d1 hl
    refine ⟨μ2, ?_, d2, (s1.mono fun _ _ q => q.elim).trans s2⟩
    show outM (m_Desk_deed (call (n + 21)) (callP (n + 21)).2 [.ref s, .tup [.str wIf, q, t, e], .und, .und, .und] μ) = _
    let F : Fr := [.ref s, .tup [.str wIf, q, t, e], .str wIf, .und, .und]
    unfold m_Desk_deed
    rw [seq_nx (fr' := F) (μ' := μ) (by simp [F])]
    rw [seq_nx (fr' := F) (μ' := μ) (by simp [F])]
    rw [seq_nx (fr' := F) (μ' := μ) (by simp [F])]
    rw [seq_nx (fr' := F) (μ' := μ) (by simp [F])]
    rw [seq_nx (fr' := F) (μ' := μ) (by simp [F])]
    rw [seq_nx (fr' := F) (μ' := μ) (by simp [F])]
    rw [seq_ret (d := .str sGoes) (μ' := μ2) (by
      by_cases hz : z = 0
      · rw [if_pos hz] at hwe
        subst hwe
        have e4 : call (n + 21) .f_is_true [.int z] μ1 = .ok (.bl false) μ1 := by rw [e2', hz]; rfl
        simp [F, h.ds, e1', e4, e3, getV_of ne]
      · rw [if_neg hz] at hwe
        subst hwe
        have e4 : call (n + 21) .f_is_true [.int z] μ1 = .ok (.bl true) μ1 := by rw [e2', decide_eq_false hz]; rfl
        simp [F, h.ds, e1', e4, e3, getV_of nt])]
    rfl
  by_cases hz : z = 0
  · rw [if_pos hz] at hl ⊢
    exact fin he hl (if_pos hz).symm
  · rw [if_neg hz] at hl ⊢
    exact fin ht hl (if_neg hz).symm
end
end Wk07

set_option Elab.async false
set_option linter.all false
set_option maxRecDepth 100000
set_option maxHeartbeats 4000000
namespace Wk07
open PySem Lw PySem.NumText PyProof.Rows
abbrev sEnd : List Nat := [101, 110, 100]
section
variable {n : Nat} {μ : Mu} {s st r : Nat} {tree : D} {stage : List Nat} {stopped : Bool} {ts : List (List Nat)}
theorem DS.set_stage (h : DS μ s st r tree stage stopped ts) (stage' : List Nat) : ∃ o, sFldM 2 (eFld 14 (eV 0)) (eC (.str stage')) [.ref s] μ = .nx [.ref s] (μ.set st o) ∧ DS (μ.set st o) s st r tree stage' stopped ts := by
  obtain ⟨a, b, c, d, e⟩ := h.ss
  refine ⟨.ins 1 (stF stage' stopped a b c d r), ?_, ?_⟩
  · simp [h.ds, List.lookup, e, stF, putN]
  · exact ⟨by rw [List.getElem?_set_ne h.ne3.symm]; exact h.ds, ⟨a, b, c, d, set_get e⟩, by rw [List.getElem?_set_ne h.ne2]; exact h.sr⟩
theorem DS.put_stopped (h : DS μ s st r tree stage stopped ts) (v : Bool) : ∃ o, setF 3 st (.bl v) [.ref s] μ[st]? μ = .nx [.ref s] (μ.set st o) ∧ DS (μ.set st o) s st r tree stage v ts := by
  obtain ⟨a, b, c, d, e⟩ := h.ss
  refine ⟨.ins 1 (stF stage v a b c d r), ?_, ?_⟩
  · rw [e]; rfl
  · exact ⟨by rw [List.getElem?_set_ne h.ne3.symm]; exact h.ds, ⟨a, b, c, d, set_get e⟩, by rw [List.getElem?_set_ne h.ne2]; exact h.sr⟩
theorem sp_st_need (h : DS μ s st r tree stage stopped ts) : call (n + 1) .State_need [.ref st, .str stage] μ = .ok .non μ := by
  obtain ⟨a, b, c, d, e⟩ := h.ss
  show outM (m_State_need (call n) (callP n).2 [.ref st, .str stage] μ) = _
  simp [m_State_need, e, stF, List.lookup]
theorem sp_taken (h : DS μ s st r tree stage stopped ts) : ∃ μ' r', call (n + 1) .State_taken [.ref st] μ = .ok (.ref r) μ' ∧ DS μ' s st r' tree stage stopped [] ∧ μ'[r]? = some (.lst (ts.map .str)) ∧ Same (fun k => k = st) μ μ' := by
  obtain ⟨a, b, c, d, e⟩ := h.ss
  have hn := get_lt e
  have hs := get_lt h.ds
  have hr := get_lt h.sr
  have e1 : (μ ++ [O.lst []])[st]? = some (.ins 1 (stF stage stopped a b c d r)) := app_get e
  refine ⟨(μ ++ [O.lst []]).set st (.ins 1 (stF stage stopped a b c d μ.length)), μ.length, ?_, ⟨?_, ⟨a, b, c, d, set_get e1⟩, ?_⟩, ?_, Same.app.trans (Same.set rfl)⟩
  · show outM (m_State_taken (call n) (callP n).2 [.ref st, .und] μ) = _
    unfold m_State_taken
    rw [seq_nx (fr' := [.ref st, .ref r]) (μ' := μ) (by simp [e, stF, List.lookup])]
    rw [seq_nx (fr' := [.ref st, .ref r]) (μ' := (μ ++ [O.lst []]).set st (.ins 1 (stF stage stopped a b c d μ.length))) (by
      have x : (eLst aNil) [.ref st, .ref r] μ = .ok (.ref μ.length) (μ ++ [.lst []]) := rfl
      rw [fld_step x rfl e1 (by simp [stF])]
      rfl)]
    simp
  · rw [List.getElem?_set_ne h.ne3.symm]; exact app_get h.ds
  · rw [List.getElem?_set_ne (by omega)]; simp
  · rw [List.getElem?_set_ne h.ne2]; exact app_get h.sr
theorem sp_do_begin {deeds : D} {t : List (List Nat)} (hb : BlockRun 23 deeds t) (hn : deeds ≠ .und) (h : DS μ s st r (.tup [.tup [.str wBegin, deeds]]) stage stopped ts) (hl : ts.length + t.length ≤ 1000) :
    ∃ μ', call (n + 24) .Desk_do_all [.ref s, .str wBegin] μ = .ok (.bl false) μ' ∧ DS μ' s st r (.tup [.tup [.str wBegin, deeds]]) stage stopped (ts ++ t) ∧ Same (fun k => k = r) μ μ' := by
  obtain ⟨μ1, e1, d1, s1⟩ := hb n μ s st r _ stage stopped ts h hl
  refine ⟨μ1, ?_, d1, s1⟩
  show outM (m_Desk_do_all (call (n + 23)) (callP (n + 23)).2 [.ref s, .str wBegin, .und] μ) = _
  unfold m_Desk_do_all
  rw [seq_nx (fr' := [.ref s, .str wBegin, .tup [.str wBegin, deeds]]) (μ' := μ1) (by
    rw [ap_sFor]
    have x : (eFld 13 (eV 0)) [.ref s, .str wBegin, .und] μ = .ok (.tup [.tup [.str wBegin, deeds]]) μ := by simp [h.ds, List.lookup]
    rw [x, bndS_ok, forD_tup, forL_cons, gN_ap, frR_s]
    have y : (sIf (tAnd (tB (eBin opEq (eBin opIx (eV 2) (eC (.int 0))) (eV 1))) (tB (eBin opEq (eMeth 3 (call (n + 23) .Desk_block) (eV 0) (aCons (eBin opIx (eV 2) (eC (.int 1))) aNil)) (eC (.str [115, 116, 111, 112]))))) (sRet (eC (.bl true))) sNx) [.ref s, .str wBegin, .tup [.str wBegin, deeds]] μ = .nx [.ref s, .str wBegin, .tup [.str wBegin, deeds]] μ1 := by
      simp [h.ds, e1]
    simp only [List.set_cons_succ, List.set_cons_zero]
    rw [y, turnR_nx]
    rfl)]
  simp
theorem sp_do_end {deeds : D} (h : DS μ s st r (.tup [.tup [.str wBegin, deeds]]) stage stopped ts) :
    call (n + 24) .Desk_do_all [.ref s, .str sEnd] μ = .ok (.bl false) μ := by
  show outM (m_Desk_do_all (call (n + 23)) (callP (n + 23)).2 [.ref s, .str sEnd, .und] μ) = _
  unfold m_Desk_do_all
  rw [seq_nx (fr' := [.ref s, .str sEnd, .tup [.str wBegin, deeds]]) (μ' := μ) (by
    rw [ap_sFor]
    have x : (eFld 13 (eV 0)) [.ref s, .str sEnd, .und] μ = .ok (.tup [.tup [.str wBegin, deeds]]) μ := by simp [h.ds, List.lookup]
    rw [x, bndS_ok, forD_tup, forL_cons, gN_ap, frR_s]
    simp [forL_cons])]
  simp
end
end Wk07

set_option Elab.async false
set_option linter.all false
set_option maxRecDepth 100000
set_option maxHeartbeats 4000000
namespace Wk07
open PySem Lw PySem.NumText PyProof.Rows
section
variable {n : Nat} {μ : Mu} {s st r : Nat} {tree : D} {stage : List Nat} {stopped : Bool} {ts : List (List Nat)}
theorem DS.fld14 (h : DS μ s st r tree stage stopped ts) : (eFld 14 (eV 0)) [.ref s] μ = .ok (.ref st) μ := by simp [h.ds, List.lookup]
theorem DS.isSt (h : DS μ s st r tree stage stopped ts) (z : Res D) : methR 1 μ[st]? z = z := by
  obtain ⟨a, b, c, d, e⟩ := h.ss
  rw [e]; rfl
theorem sp_begin {deeds : D} {t : List (List Nat)} (hb : BlockRun 23 deeds t) (hn : deeds ≠ .und) (h : DS μ s st r (.tup [.tup [.str wBegin, deeds]]) sFresh false []) (hl : t.length ≤ 1000) :
    ∃ μ' r', call (n + 25) .Desk_begin [.ref s] μ = .ok (.ref r) μ' ∧ DS μ' s st r' (.tup [.tup [.str wBegin, deeds]]) sReading false [] ∧ μ'[r]? = some (.lst (t.map .str)) ∧ Same (fun k => k = st ∨ k = r) μ μ' := by
  obtain ⟨o, e2, d2⟩ := h.set_stage sReading
  obtain ⟨M2, hM2⟩ : ∃ m, m = μ.set st o := ⟨_, rfl⟩
  rw [← hM2] at e2 d2
  have k2 : Same (fun k => k = st ∨ k = r) μ M2 := hM2 ▸ Same.set (.inl rfl)
  obtain ⟨M3, e3, d3, k3⟩ := sp_do_begin (n := n) hb hn d2 (by simpa using hl)
  obtain ⟨o4, e4, d4⟩ := d3.put_stopped false
  obtain ⟨μ5, r', e5, d5, g5, k5⟩ := sp_taken (n := n + 23) d4
  refine ⟨μ5, r', ?_, d5, by simpa using g5, ?_⟩
  · show outM (m_Desk_begin (call (n + 24)) (callP (n + 24)).2 [.ref s] μ) = _
    unfold m_Desk_begin
    have n1 := sp_st_need (n := n + 23) h
    rw [seq_nx (fr' := [.ref s]) (μ' := μ) (by
      rw [ap_sExp, ap_eMeth, h.fld14, bnd_ok, atR_r, h.isSt, ap_aCons, ap_eC, bnd_ok, ap_aNil, bnd_ok, bnd_ok, n1]; rfl)]
    rw [seq_nx e2]
    rw [seq_nx (fr' := [.ref s]) (μ' := M3.set st o4) (by
      rw [ap_sFldM]
      have x : (eMeth 3 (call (n + 24) .Desk_do_all) (eV 0) (aCons (eC (.str [98, 101, 103, 105, 110])) aNil)) [.ref s] M2 = .ok (.bl false) M3 := by simp [d2.ds, e3]
      rw [x, bndS_ok, d3.fld14, bndS_ok, atS_r, e4])]
    rw [ap_sRet, ap_eMeth, d4.fld14, bnd_ok, atR_r, d4.isSt, ap_aNil, bnd_ok, e5]
    rfl
  · exact ((k2.trans (k3.mono fun _ _ q => .inr q)).trans (Same.set (.inl rfl))).trans (k5.mono fun _ _ q => .inl q)
theorem sp_end {deeds : D} (h : DS μ s st r (.tup [.tup [.str wBegin, deeds]]) sReading false []) :
    ∃ μ', call (n + 25) .Desk_end [.ref s] μ = .ok (.ref r) μ' ∧ μ'[r]? = some (.lst []) ∧ Same (fun k => k = st) μ μ' := by
  obtain ⟨o, e2, d2⟩ := h.set_stage sOver
  obtain ⟨M2, hM2⟩ : ∃ m, m = μ.set st o := ⟨_, rfl⟩
  rw [← hM2] at e2 d2
  have k2 : Same (fun k => k = st) μ M2 := hM2 ▸ Same.set rfl
  have e3 := sp_do_end (n := n) d2
  obtain ⟨μ5, r', e5, d5, g5, k5⟩ := sp_taken (n := n + 23) d2
  refine ⟨μ5, ?_, g5, k2.trans k5⟩
  show outM (m_Desk_end (call (n + 24)) (callP (n + 24)).2 [.ref s] μ) = _
  unfold m_Desk_end
  have n1 := sp_st_need (n := n + 23) h
  rw [seq_nx (fr' := [.ref s]) (μ' := μ) (by
    rw [ap_sExp, ap_eMeth, h.fld14, bnd_ok, atR_r, h.isSt, ap_aCons, ap_eC, bnd_ok, ap_aNil, bnd_ok, bnd_ok, n1]; rfl)]
  rw [seq_nx e2]
  rw [seq_nx (fr' := [.ref s]) (μ' := M2) (by simp [d2.ds, e3])]
  rw [ap_sRet, ap_eMeth, d2.fld14, bnd_ok, atR_r, d2.isSt, ap_aNil, bnd_ok, e5]
  rfl
theorem sp_desk_init {deeds : D} {m : Nat} (hb : BlockOk 1 deeds m) (hn : deeds ≠ .und) (hm : m ≤ 300) (h : μ[s]? = some (.ins 3 [])) :
    ∃ μ' st r, call (n + 67) .Desk_init [.ref s, .tup [.tup [.str wBegin, deeds]]] μ = .ok .non μ' ∧ DS μ' s st r (.tup [.tup [.str wBegin, deeds]]) sFresh false [] ∧ Same (fun k => k = s) μ μ' ∧ μ.length ≤ st ∧ μ.length ≤ r := by
  obtain ⟨T, hT⟩ : ∃ T : D, T = .tup [.tup [.str wBegin, deeds]] := ⟨_, rfl⟩
  obtain ⟨M1, e1, k1⟩ := sp_need_tree (n := n) (μ := μ) hb hn hm
  rw [← hT] at e1 ⊢
  have tl : fLen [T] = fun μ => Res.ok (.int 1) μ := by rw [hT]; rfl
  have tv : ∀ μ, getV (some T) μ = .ok T μ := fun μ => by rw [hT]; rfl
  have g1 : M1[s]? = some (.ins 3 []) := k1.get h (fun q => q)
  obtain ⟨M2, hM2⟩ : ∃ m, m = M1.set s (O.ins 3 [(13, T)]) := ⟨_, rfl⟩
  have g2 : M2[s]? = some (.ins 3 [(13, T)]) := hM2 ▸ set_get g1
  have k2 : Same (fun k => k = s) μ M2 := hM2 ▸ (k1.mono fun _ _ q => q.elim).trans (Same.set rfl)
  have q3 : (M2 ++ [O.ins 1 []])[M2.length]? = some (.ins 1 []) := by simp
  obtain ⟨M3, v4, v5, v6, v7, r, e3, k3, g3, gr, hr⟩ := sp_state_init (n := n + 61) q3
  have g3s : M3[s]? = some (.ins 3 [(13, T)]) := k3.get (app_get g2) (by have := get_lt g2; omega)
  have k3' : Same (fun k => k = s) μ M3 := ⟨Nat.le_trans k2.le (Nat.le_trans (by simp) k3.le), fun k hk hn => by
    rw [k3.eq k (by simp; have := k2.le; omega) (by have := k2.le; omega), List.getElem?_append_left (Nat.lt_of_lt_of_le hk k2.le)]
    exact k2.eq k hk hn⟩
  have hs := get_lt g2
  simp at hr
  refine ⟨M3.set s (O.ins 3 [(13, T), (14, .ref M2.length)]), M2.length, r, ?_, ⟨set_get g3s, ⟨v4, v5, v6, v7, ?_⟩, ?_⟩, k3'.trans (Same.set rfl), k2.le, by have := k2.le; omega⟩
  · show outM (m_Desk_init (call (n + 66)) (call (n + 65)) [.ref s, T] μ) = _
    unfold m_Desk_init
    rw [seq_nx (fr' := [.ref s, T]) (μ' := M1) (by simp [tv, e1])]
    rw [seq_nx (fr' := [.ref s, T]) (μ' := M2) (by
      rw [fld_step (d := T) (μ1 := M1) (by simp [tv]) rfl g1 (by decide), hM2]; rfl)]
    have x : (eMake 1 (call (n + 65) .State_init) (aCons (eCall fLen (aCons (eV 1) aNil)) aNil)) [.ref s, T] M2 = .ok (.ref M2.length) M3 := by
      rw [ap_eMake]
      have y : (aCons (eCall fLen (aCons (eV 1) aNil)) aNil) [.ref s, T] M2 = .ok [.int 1] M2 := by simp [tv, tl]
      rw [y, bnd_ok]
      rw [show n + 65 = n + 61 + 4 from rfl, e3]
      rfl
    rw [fld_step x rfl g3s (by simp)]
    rfl
  · rw [List.getElem?_set_ne (by omega)]; exact g3
  · rw [List.getElem?_set_ne (by omega)]; simpa using gr
end
end Wk07

set_option Elab.async false
set_option linter.all false
set_option maxRecDepth 100000
set_option maxHeartbeats 4000000
namespace Wk07
open PySem Lw PySem.NumText PyProof.Rows
section
variable {n : Nat} {μ : Mu}
theorem sp_run {deeds : D} {m : Nat} {t : List (List Nat)} {fl : Nat} (hb : BlockOk 1 deeds m) (hr : BlockRun 23 deeds t) (hn : deeds ≠ .und) (hm : m ≤ 300) (hl : t.length ≤ 1000) (hf : μ[fl]? = some (.lst [])) :
    ∃ μ' q, call (n + 70) .f_run [.tup [.tup [.str wBegin, deeds]], .ref fl] μ = .ok (.ref q) μ' ∧ μ'[q]? = some (.lst (t.map .str)) ∧ Same (fun _ => False) μ μ' := by
  obtain ⟨T, hT⟩ : ∃ T : D, T = .tup [.tup [.str wBegin, deeds]] := ⟨_, rfl⟩
  have tv : ∀ μ, getV (some T) μ = .ok T μ := fun μ => by rw [hT]; rfl
  have h0 : (μ ++ [O.ins 3 []])[μ.length]? = some (.ins 3 []) := by simp
  obtain ⟨M1, st, r, e1, d1, k1, hst, hrr⟩ := sp_desk_init (n := n + 1) hb hn hm h0
  simp at hst hrr
  have hflt := get_lt hf
  have f1 : M1[fl]? = some (.lst []) := k1.get (app_get hf) (by omega)
  obtain ⟨M2, r2, e2, d2, g2, k2⟩ := sp_begin (n := n + 43) hr hn d1 hl
  have f2 : M2[fl]? = some (.lst []) := k2.get f1 (by omega)
  obtain ⟨M3, e3, g3, k3⟩ := sp_end (n := n + 43) d2
  have hrst : r ≠ st := d1.ne2.symm
  have g23 : M3[r]? = some (.lst (t.map .str)) := k3.get g2 hrst
  have kf : Same (fun _ => False) μ M3 := ⟨Nat.le_trans (Nat.le_trans (by simp) k1.le) (Nat.le_trans k2.le k3.le), fun k hk _ => by
    have l1 := k1.le
    have l2 := k2.le
    simp at l1
    rw [k3.eq k (by omega) (by omega), k2.eq k (by omega) (by omega), k1.eq k (by simp; omega) (by omega), List.getElem?_append_left hk]⟩
  rw [← hT] at e1
  have eb : call (n + 69) .f_run_by [.ref μ.length, .ref fl] M1 = .ok (.ref M3.length) (M3 ++ [.lst (t.map .str)]) := by
    show outM (m_f_run_by (call (n + 68)) (callP (n + 68)).2 [.ref μ.length, .ref fl, .und, .und, .und] M1) = _
    unfold m_f_run_by
    rw [seq_nx (fr' := [.ref μ.length, .ref fl, .ref r, .und, .und]) (μ' := M2) (by simp [d1.ds, e2])]
    rw [seq_nx (fr' := [.ref μ.length, .ref fl, .ref r, .und, .und]) (μ' := M2) (by
      rw [ap_sFor, ap_eV]
      show bndS _ (Res.ok (D.ref fl) M2) _ = _
      rw [bndS_ok, forD_ref f2, List.length_nil, forM_0 f2])]
    have x : opAdd (.ref r) (.ref r2) M3 = .ok (.ref M3.length) (M3 ++ [.lst (t.map .str ++ [])]) := opAdd_l g23 g3 (by
      have : LINE = 10000000 := rfl
      simp; omega)
    rw [List.append_nil] at x
    simp [d2.ds, e3, x]
  refine ⟨M3 ++ [.lst (t.map .str)], M3.length, ?_, by simp, kf.thenApp⟩
  rw [← hT]
  show outM (m_f_run (call (n + 69)) (call (n + 68)) [T, .ref fl] μ) = _
  unfold m_f_run
  have y : (aCons (eMake 3 (call (n + 68) .Desk_init) (aCons (eV 0) aNil)) (aCons (eV 1) aNil)) [T, .ref fl] μ = .ok [.ref μ.length, .ref fl] M1 := by
    rw [ap_aCons, ap_eMake]
    have z : (aCons (eV 0) aNil) [T, .ref fl] μ = .ok [T] μ := by simp [tv]
    rw [z, bnd_ok, show n + 68 = n + 1 + 67 from by omega, e1, bnd_ok, nonR_n, bnd_ok]
    simp
  rw [ap_sRet, ap_eCall, y, bnd_ok, eb]
  rfl
end
end Wk07

set_option Elab.async false
set_option linter.all false
set_option maxRecDepth 100000
set_option maxHeartbeats 4000000
namespace Wk07
open PySem Lw PySem.NumText PyProof.Rows
def St (ns : List Int) (μ : Mu) : Prop := ∃ p m q : Int, 0 ≤ p ∧ μ[0]? = some (.lst [.frl (ns.map .int), .int p, .int m, .int q])
section
variable {n : Nat} {μ : Mu} {ns : List Int}
theorem put_step {o i e : EM} {fr : Fr} {μ1 : Mu} {d : D} {k a : Nat} {xs : List D} (he : e fr μ = .ok d μ1) (ho : o fr μ1 = .ok (.ref a) μ1) (hi : i fr μ1 = .ok (.int (k : Nat)) μ1) (hx : μ1[a]? = some (.lst xs)) (hk : k < xs.length) :
    sPutL o i e fr μ = .nx fr (μ1.set a (.lst (xs.set k d))) := by
  unfold sPutL
  rw [he, bndS_ok, ho, bndS_ok, hi, bndS_ok]
  have hj : L2.ixN xs.length (k : Int) = some k := by
    unfold L2.ixN
    rw [if_pos (by omega), if_pos (by omega), Int.toNat_natCast]
  simp only [hx, hj]
theorem p1018 : opPow (.int 10) (.int 18) μ = .ok (.int 1000000000000000000) μ := by
  show (if 0 ≤ (18 : Int) ∧ (18 : Int) ≤ 1000000 ∧ (10 : Int).natAbs < 2 ^ 64 then Res.ok (D.int (10 ^ (18 : Int).toNat)) μ else .bad) = _
  rw [if_pos ⟨by decide, by decide, by decide⟩]
  rfl
theorem fm_b {a b : Int} (hb : 0 < b) : 0 ≤ a.fmod b ∧ a.fmod b < b := ⟨Int.fmod_nonneg_of_pos a hb, Int.fmod_lt_of_pos a hb⟩
theorem sp_drawn {k : Int} (hk : 0 < k) (hk2 : k < 1000000000) (h : St ns μ) : ∃ v μ', call (n + 1) .f_law_drawn [.ref 0, .int k] μ = .ok (.int v) μ' ∧ 0 ≤ v ∧ v < k ∧ St ns μ' ∧ Same (fun k => k = 0) μ μ' := by
  obtain ⟨p, m, q, hp, h0⟩ := h
  have hk0 : k ≠ 0 := by omega
  have hkn : k.natAbs < 1073741824 := by omega
  obtain ⟨L, hL⟩ : ∃ L, L = ns.map D.int := ⟨_, rfl⟩
  rw [← hL] at h0
  by_cases hq : 0 < q
  · refine ⟨q.fmod k, μ.set 0 (.lst [.frl L, .int p, .int m, .int (q.fdiv k)]), ?_, (fm_b hk).1, (fm_b hk).2, ⟨p, m, q.fdiv k, hp, hL ▸ set_get h0⟩, Same.set rfl⟩
    show outM (m_f_law_drawn (call n) (callP n).2 [.ref 0, .int k, .und, .und] μ) = _
    unfold m_f_law_drawn
    refine (congrArg outM (seq_ret (d := .int (q.fmod k)) (μ' := μ.set 0 (.lst [.frl L, .int p, .int m, .int (q.fdiv k)])) ?_)).trans rfl
    rw [ap_sIf]
    have t : (tB (eBin opGt (eBin opIx (eV 0) (eC (.int 3))) (eC (.int 0)))) [.ref 0, .int k, .und, .und] μ = .ok true μ := by simp [h0, hq]
    rw [t, bndS_ok, if_pos rfl]
    rw [seq_nx (fr' := [.ref 0, .int k, .int (q.fmod k), .und]) (μ' := μ) (by simp [h0, hk0])]
    rw [seq_nx (put_step (k := 3) (d := .int (q.fdiv k)) (μ1 := μ) (a := 0) (xs := [.frl L, .int p, .int m, .int q]) (by simp [h0, hk0, hkn]) (by simp) rfl h0 (by simp))]
    rfl
  · have t : (sIf (tB (eBin opGt (eBin opIx (eV 0) (eC (.int 3))) (eC (.int 0)))) (sSeq (sAsg 2 (eBin opMod (eBin opIx (eV 0) (eC (.int 3))) (eV 1))) (sSeq (sPutL (eV 0) (eC (.int 3)) (eBin opFdiv (eBin opIx (eV 0) (eC (.int 3))) (eV 1))) (sRet (eV 2)))) sNx) [.ref 0, .int k, .und, .und] μ = .nx [.ref 0, .int k, .und, .und] μ := by
      rw [ap_sIf]
      have t : (tB (eBin opGt (eBin opIx (eV 0) (eC (.int 3))) (eC (.int 0)))) [.ref 0, .int k, .und, .und] μ = .ok false μ := by simp [h0]; omega
      rw [t, bndS_ok]
      rfl
    obtain ⟨M1, hM1⟩ : ∃ M, M = μ.set 0 (O.lst [.frl L, .int (p + 1), .int m, .int q]) := ⟨_, rfl⟩
    have g1 : M1[0]? = some (.lst [.frl L, .int (p + 1), .int m, .int q]) := hM1 ▸ set_get h0
    have k1 : Same (fun k => k = 0) μ M1 := hM1 ▸ Same.set rfl
    have t1 : (sPutL (eV 0) (eC (.int 1)) (eBin opAdd (eBin opIx (eV 0) (eC (.int 1))) (eC (.int 1)))) [.ref 0, .int k, .und, .und] μ = .nx [.ref 0, .int k, .und, .und] M1 := by
      rw [put_step (k := 1) (d := .int (p + 1)) (μ1 := μ) (a := 0) (xs := [.frl L, .int p, .int m, .int q]) (by simp [h0]) (by simp) rfl h0 (by simp), hM1]
      rfl
    by_cases hin : p + 1 ≤ (L.length : Int)
    · obtain ⟨x, hx⟩ : ∃ x : Int, L[p.toNat]? = some (.int x) := by
        have hlt : p.toNat < ns.length := by
          have : L.length = ns.length := by rw [hL]; simp
          omega
        exact ⟨ns[p.toNat], by rw [hL, List.getElem?_map, List.getElem?_eq_getElem hlt]; rfl⟩
      have hix : ixD L p = some (.int x) := by
        rw [ixD_nat hp, hx]
      obtain ⟨z, hz⟩ : ∃ z : Int, z = if 1000000000000000000 ≤ x then x.fdiv k else 0 := ⟨_, rfl⟩
      refine ⟨x.fmod k, M1.set 0 (.lst [.frl L, .int (p + 1), .int m, .int z]), ?_, (fm_b hk).1, (fm_b hk).2, ⟨p + 1, m, z, by omega, hL ▸ set_get g1⟩, k1.trans (Same.set rfl)⟩
      show outM (m_f_law_drawn (call n) (callP n).2 [.ref 0, .int k, .und, .und] μ) = _
      unfold m_f_law_drawn
      rw [seq_nx t, seq_nx t1]
      refine (congrArg outM (seq_ret (d := .int (x.fmod k)) (μ' := M1.set 0 (.lst [.frl L, .int (p + 1), .int m, .int z])) ?_)).trans rfl
      rw [ap_sIf]
      have t2 : (tB (eBin opLe (eBin opIx (eV 0) (eC (.int 1))) (eCall fLen (aCons (eBin opIx (eV 0) (eC (.int 0))) aNil)))) [.ref 0, .int k, .und, .und] M1 = .ok true M1 := by simp [g1, hin]
      rw [t2, bndS_ok, if_pos rfl]
      rw [seq_nx (fr' := [.ref 0, .int k, .und, .int x]) (μ' := M1) (by simp [g1, hix])]
      rw [seq_nx (put_step (k := 3) (d := .int z) (μ1 := M1) (a := 0) (xs := [.frl L, .int (p + 1), .int m, .int q]) (by
        rw [ap_eIf]
        have t3 : (tB (eBin opGe (eV 3) (eBin opPow (eC (.int 10)) (eC (.int 18))))) [.ref 0, .int k, .und, .int x] M1 = .ok (decide (1000000000000000000 ≤ x)) M1 := by simp [p1018]
        rw [t3, bnd_ok, hz]
        by_cases hxx : (1000000000000000000 : Int) ≤ x
        · rw [decide_eq_true hxx, if_pos rfl, if_pos hxx]; simp [hk0, hkn]
        · rw [decide_eq_false hxx, if_neg hxx]; rfl) (by simp) rfl g1 (by simp))]
      simp [hk0]
    · obtain ⟨z, hz⟩ : ∃ z : Int, z = (m * 48271 + 11).fmod 2147483647 := ⟨_, rfl⟩
      have gg : (M1.set 0 (O.lst [.frl L, .int (p + 1), .int z, .int q]))[0]? = some (.lst [.frl L, .int (p + 1), .int z, .int q]) := set_get g1
      refine ⟨(z.fdiv 7).fmod k, M1.set 0 (.lst [.frl L, .int (p + 1), .int z, .int q]), ?_, (fm_b hk).1, (fm_b hk).2, ⟨p + 1, z, q, by omega, hL ▸ gg⟩, k1.trans (Same.set rfl)⟩
      show outM (m_f_law_drawn (call n) (callP n).2 [.ref 0, .int k, .und, .und] μ) = _
      unfold m_f_law_drawn
      rw [seq_nx t, seq_nx t1]
      rw [seq_nx (fr' := [.ref 0, .int k, .und, .und]) (μ' := M1) (by
        rw [ap_sIf]
        have t2 : (tB (eBin opLe (eBin opIx (eV 0) (eC (.int 1))) (eCall fLen (aCons (eBin opIx (eV 0) (eC (.int 0))) aNil)))) [.ref 0, .int k, .und, .und] M1 = .ok false M1 := by simp [g1]; omega
        rw [t2, bndS_ok]; rfl)]
      have hmul : opMul (.int m) (.int 48271) M1 = .ok (.int (m * 48271)) M1 := by
        rw [opMul_i]; exact if_pos (.inr ⟨by decide, by decide⟩)
      rw [seq_nx (put_step (k := 2) (d := .int z) (μ1 := M1) (a := 0) (xs := [.frl L, .int (p + 1), .int m, .int q]) (by simp [-opMul_i, g1, hmul, hz]) (by simp) rfl g1 (by simp))]
      simp only [show ([.frl L, .int (p + 1), .int m, .int q] : List D).set 2 (.int z) = [.frl L, .int (p + 1), .int z, .int q] from rfl]
      generalize M1.set 0 (O.lst [.frl L, .int (p + 1), .int z, .int q]) = M at *
      simp [gg, hk0]
end
end Wk07

set_option Elab.async false
set_option linter.all false
set_option maxRecDepth 100000
set_option maxHeartbeats 4000000
namespace Wk07
open PySem Lw PySem.NumText PyProof.Rows
structure LeafOk (p : D) (z : Int) : Prop where
  w : ∃ v, (∀ k, Wv (k + 1) p v) ∧ numD v = z
  lo : -499999999 ≤ z
  hi : z ≤ 499999999
  g : ∃ m, m ≤ 2 ∧ ∀ d, d ≤ 29 → GP d p m
theorem leaf_num {i : Int} (h1 : 0 ≤ i) (h2 : i ≤ 499999999) : LeafOk (.tup [.str wNum, .int i]) i :=
  ⟨⟨_, fun k => .num _ (by omega) (by omega), rfl⟩, by omega, h2, 1, by decide, fun d hd => .num (by omega) h1 h2⟩
theorem leaf_minus {i : Int} (h1 : 0 ≤ i) (h2 : i ≤ 499999999) : LeafOk (.tup [.str wMinus, .tup [.str wNum, .int i]]) (-i) :=
  ⟨⟨_, fun k => .minus (.num k (by omega) (by omega)), by
    show rg (0 - i) = -i
    rw [Int.zero_sub]
    exact rg_id (by omega) (by omega)⟩, by omega, by omega, 2, by decide, fun d hd => .minus (by omega) (.num (by omega) h1 h2)⟩
theorem leaf_text {i : Int} (h1 : 0 ≤ i) (h2 : i ≤ 499999999) : LeafOk (.tup [.str wText, .str (intL i)]) i := by
  obtain ⟨m, rfl⟩ := Int.eq_ofNat_of_zero_le h1
  have hl := intL_len (m := m) (by omega)
  refine ⟨⟨_, fun k => .text _ (by omega), ?_⟩, by omega, h2, 1, by decide, fun d hd => .text (by omega) (by omega) fun c hc => ?_⟩
  · show numOf (intL (m : Int)) = _
    rw [numOf_pos]; exact rg_id (by omega) (by omega)
  · have := intL_all m c hc; omega
theorem leaf_ntext {i : Int} (h1 : 0 ≤ i) (h2 : i ≤ 499999999) : LeafOk (.tup [.str wText, .str (45 :: intL i)]) (-i) := by
  obtain ⟨m, rfl⟩ := Int.eq_ofNat_of_zero_le h1
  have hl := intL_len (m := m) (by omega)
  refine ⟨⟨_, fun k => .text _ (by simp; omega), ?_⟩, by omega, by omega, 1, by decide, fun d hd => .text (by omega) (by simp; omega) fun c hc => ?_⟩
  · show numOf (45 :: intL (m : Int)) = _
    rw [numOf_neg]; exact rg_id (by omega) (by omega)
  · rcases List.mem_cons.mp hc with rfl | hc
    · decide
    · have := intL_all m c hc; omega
section
variable {n : Nat} {μ : Mu} {ns : List Int}
theorem St.pos (h : St ns μ) : 0 < μ.length := by obtain ⟨_, _, _, _, h⟩ := h; exact get_lt h
theorem St.app {xs : Mu} (h : St ns μ) : St ns (μ ++ xs) := by obtain ⟨p, m, q, hp, h⟩ := h; exact ⟨p, m, q, hp, app_get h⟩
theorem St.same {μ' : Mu} (h : St ns μ) (k : Same (fun _ => False) μ μ') : St ns μ' := by obtain ⟨p, m, q, hp, h⟩ := h; exact ⟨p, m, q, hp, k.get h (fun q => q)⟩
theorem St.same1 {μ' : Mu} {a : Nat} (h : St ns μ) (ha : a ≠ 0) (k : Same (fun k => k = a) μ μ') : St ns μ' := by obtain ⟨p, m, q, hp, h⟩ := h; exact ⟨p, m, q, hp, k.get h ha.symm⟩
theorem sp_start : ∃ m : Int, call (n + 1) .f_law_start [.frl (ns.map .int)] μ = .ok (.ref μ.length) (μ ++ [.lst [.frl (ns.map .int), .int 0, .int m, .int 0]]) := by
  obtain ⟨L, hL⟩ : ∃ L, L = ns.map D.int := ⟨_, rfl⟩
  rw [← hL]
  obtain ⟨fr', μ', e, m, y, rfl, rfl, _⟩ := forL_rule (gg := gN 2) (s1 := (sAsg 1 (eBin opMod (eBin opAdd (eBin opAdd (eBin opMul (eV 1) (eC (.int 48271))) (eV 2)) (eC (.int 7))) (eC (.int 2147483647))))) (xs := L) (fr := [.frl L, .int 1, .und]) (μ := μ)
    (I := fun r fr μ' => ∃ (m : Int) (y : D), fr = [.frl L, .int m, y] ∧ μ' = μ ∧ ∀ x ∈ r, ∃ i : Int, x = .int i)
    (fun x r fr μ' ⟨m, y, e1, e2, hr⟩ => by
      subst e1 e2
      obtain ⟨i, rfl⟩ := hr x (by simp)
      have hmul : opMul (.int m) (.int 48271) μ' = .ok (.int (m * 48271)) μ' := by
        rw [opMul_i]; exact if_pos (.inr ⟨by decide, by decide⟩)
      exact ⟨[.frl L, .int m, .int i], [.frl L, .int ((m * 48271 + i + 7).fmod 2147483647), .int i], μ', rfl, by simp [-opMul_i, hmul], _, _, rfl, rfl, fun z hz => hr z (List.mem_cons_of_mem _ hz)⟩)
    ⟨1, .und, rfl, rfl, fun x hx => by rw [hL] at hx; obtain ⟨i, _, rfl⟩ := List.mem_map.mp hx; exact ⟨i, rfl⟩⟩
  refine ⟨m, ?_⟩
  show outM (m_f_law_start (call n) (callP n).2 [.frl L, .und, .und] μ') = _
  unfold m_f_law_start
  rw [seq_nx (fr' := [.frl L, .int 1, .und]) (μ' := μ') (by simp)]
  rw [seq_nx (fr' := [.frl L, .int m, y]) (μ' := μ') (by
    rw [ap_sFor, ap_eV]
    show bndS _ (Res.ok (D.frl L) μ') _ = _
    rw [bndS_ok, forD_frl, e])]
  simp
theorem sp_leaf (h : St ns μ) : ∃ p z μ', call (n + 2) .f_law_leaf [.ref 0] μ = .ok p μ' ∧ LeafOk p z ∧ St ns μ' ∧ Same (fun k => k = 0) μ μ' := by
  obtain ⟨v1, μ1, e1, a1, b1, h1, k1⟩ := sp_drawn (n := n) (k := 10) (by decide) (by decide) h
  obtain ⟨v2, μ2, e2, a2, b2, h2, k2⟩ := sp_drawn (n := n) (k := 500000000) (by decide) (by decide) h1
  obtain ⟨v3, μ3, e3, a3, b3, h3, k3⟩ := sp_drawn (n := n) (k := 2) (by decide) (by decide) (h2.app (xs := [.lst [.int v1, .int v2]]))
  have g3 : μ3[μ2.length]? = some (.lst [.int v1, .int v2]) := k3.get (by simp) (by have := h2.pos; omega)
  obtain ⟨v, hv, hv1, hv2⟩ : ∃ v : Int, ixD [D.int v1, D.int v2] v3 = some (.int v) ∧ 0 ≤ v ∧ v ≤ 499999999 := by
    rcases (by omega : v3 = 0 ∨ v3 = 1) with rfl | rfl
    · exact ⟨v1, rfl, a1, by omega⟩
    · exact ⟨v2, rfl, a2, by omega⟩
  obtain ⟨xs, hxs⟩ : ∃ xs : List D, xs = [.tup [.str wNum, .int v], .tup [.str wMinus, .tup [.str wNum, .int v]], .tup [.str wText, .str (intL v)], .tup [.str wText, .str (45 :: intL v)]] := ⟨_, rfl⟩
  obtain ⟨v4, μ4, e4, a4, b4, h4, k4⟩ := sp_drawn (n := n) (k := 4) (by decide) (by decide) (h3.app (xs := [.lst xs]))
  have g4 : μ4[μ3.length]? = some (.lst xs) := k4.get (by simp) (by have := h3.pos; omega)
  obtain ⟨p, z, hp, hz⟩ : ∃ p z, ixD xs v4 = some p ∧ LeafOk p z := by
    rw [hxs]
    rcases (by omega : v4 = 0 ∨ v4 = 1 ∨ v4 = 2 ∨ v4 = 3) with rfl | rfl | rfl | rfl
    · exact ⟨_, _, rfl, leaf_num hv1 hv2⟩
    · exact ⟨_, _, rfl, leaf_minus hv1 hv2⟩
    · exact ⟨_, _, rfl, leaf_text hv1 hv2⟩
    · exact ⟨_, _, rfl, leaf_ntext hv1 hv2⟩
  refine ⟨p, z, μ4, ?_, hz, h4, (((k1.trans k2).thenApp.trans k3).thenApp).trans k4⟩
  show outM (m_f_law_leaf (call (n + 1)) (callP (n + 1)).2 [.ref 0, .und, .und] μ) = _
  unfold m_f_law_leaf
  rw [seq_nx (fr' := [.ref 0, .int v, .und]) (μ' := μ3) (by simp [e1, e2, e3, g3, hv])]
  have hlog := log_ok (i := v) (by omega) (by omega)
  have hlen : (1 : Nat) + (intL v).length ≤ LINE := by
    have : LINE = 10000000 := rfl
    have := textD_len (.int (i := v) (by omega) (by omega))
    simp only [textD] at this
    omega
  rw [seq_nx (fr' := [.ref 0, .int v, .ref μ3.length]) (μ' := μ3 ++ [.lst xs]) (by simp [fStr, hlog, hlen, hxs])]
  simp [e4, g4, hp]
end
end Wk07

set_option Elab.async false
set_option linter.all false
set_option maxRecDepth 100000
set_option maxHeartbeats 4000000
namespace Wk07
open PySem Lw
theorem rg_cong {a b : Int} (k : Int) (h : a = b + 1000000000 * k) : rg a = rg b := by
  rw [rg_eq, rg_eq, h]
  have : b + 1000000000 * k + 500000000 = b + 500000000 + 1000000000 * k := by omega
  rw [this, Int.add_mul_emod_self_left]
theorem rg_off (a : Int) : ∃ k, rg a = a + 1000000000 * k := by
  rw [rg_eq]
  exact ⟨-((a + 500000000) / 1000000000), by omega⟩
theorem p1 (x y z : Int) : rg (rg (x + y) + z) = rg (x + rg (z + y)) := by
  obtain ⟨k, hk⟩ := rg_off (x + y)
  obtain ⟨l, hl⟩ := rg_off (z + y)
  rw [hk, hl]
  exact rg_cong (k - l) (by omega)
theorem p2 (x y : Int) : rg (x * y) = rg (y * x) := by rw [Int.mul_comm]
theorem p3 (x y z : Int) : rg (rg (x * y) * z) = rg (x * rg (y * z)) := by
  obtain ⟨k, hk⟩ := rg_off (x * y)
  obtain ⟨l, hl⟩ := rg_off (y * z)
  rw [hk, hl]
  exact rg_cong (k * z - x * l) (by grind)
theorem p4 (x y z : Int) : rg (x * rg (y + z)) = rg (rg (x * y) + rg (x * z)) := by
  obtain ⟨k, hk⟩ := rg_off (y + z)
  obtain ⟨l, hl⟩ := rg_off (x * y)
  obtain ⟨m, hm⟩ := rg_off (x * z)
  rw [hk, hl, hm]
  exact rg_cong (x * k - l - m) (by grind)
theorem p5 (x y : Int) : rg (x - y) = rg (x + rg (0 - y)) := by
  obtain ⟨k, hk⟩ := rg_off (0 - y)
  rw [hk]
  exact rg_cong (-k) (by omega)
theorem p6 (x : Int) : rg (0 - rg (0 - x)) = rg (x + 0) := by
  obtain ⟨k, hk⟩ := rg_off (0 - x)
  rw [hk]
  exact rg_cong (-k) (by omega)
theorem p7 {x y : Int} (h : y ≠ 0) : rg (rg (ovr x y * y) + rst x y) = rg (x + 0) := by
  unfold ovr rst
  rw [if_neg h, if_neg h]
  obtain ⟨k, hk⟩ := rg_off (x.fdiv y)
  obtain ⟨l, hl⟩ := rg_off (x.fmod y)
  obtain ⟨m, hm⟩ := rg_off (rg (x.fdiv y) * y)
  rw [hm, hl, hk]
  have e := Int.fmod_add_mul_fdiv x y
  exact rg_cong (k * y + m + l) (by grind)
end Wk07

set_option Elab.async false
set_option linter.all false
set_option maxRecDepth 100000
set_option maxHeartbeats 4000000
namespace Wk07
open PySem Lw PySem.NumText PyProof.Rows
theorem arD_add (a b : Int) : arD wAdd a b = rg (a + b) := rfl
theorem arD_less (a b : Int) : arD wLess a b = rg (a - b) := rfl
theorem arD_times (a b : Int) : arD wTimes a b = rg (a * b) := rfl
theorem arD_over (a b : Int) : arD wOver a b = ovr a b := rfl
theorem arD_rest (a b : Int) : arD wRest a b = rst a b := rfl
structure PairOk (x y : D) : Prop where
  w : ∃ u, Wv 5 x (.int u) ∧ Wv 5 y (.int u)
  g : ∃ m l, GP 2 x m ∧ GP 2 y l ∧ m + l ≤ 20
abbrev mk2 (w : List Nat) (a b : D) : D := .tup [.str w, a, b]
abbrev mk1 (w : List Nat) (a : D) : D := .tup [.str w, a]
abbrev num0 : D := .tup [.str wNum, .int 0]
section
variable {a b c : D} {x y z : Int}
theorem gp_num0 (d : Nat) (hd : d ≤ 30) : GP d num0 1 := .num hd (by decide) (by decide)
theorem wv_num0 (k : Nat) : Wv k num0 (.int 0) := .num k (by decide) (by decide)
theorem pr1 (ha : LeafOk a x) (hb : LeafOk b y) (hc : LeafOk c z) : PairOk (mk2 wAdd (mk2 wAdd a b) c) (mk2 wAdd a (mk2 wAdd c b)) := by
  obtain ⟨⟨va, wa, na⟩, _, _, ma, la, ga⟩ := ha
  obtain ⟨⟨vb, wb, nb⟩, _, _, mb, lb, gb⟩ := hb
  obtain ⟨⟨vc, wc, nc⟩, _, _, mc, lc, gc⟩ := hc
  have h1 := Wv.pair .add (Wv.pair .add (wa 2) (wb 2)) (wc 3)
  have h2 := Wv.pair .add (wa 3) (Wv.pair .add (wc 2) (wb 2))
  simp only [arD_add, numD, na, nb, nc] at h1 h2
  rw [← p1] at h2
  exact ⟨⟨_, h1, h2⟩, _, _, .pair .add (by decide) (by decide) (.pair .add (by decide) (by decide) (ga 4 (by decide)) (gb 4 (by decide))) (gc 3 (by decide)), .pair .add (by decide) (by decide) (ga 3 (by decide)) (.pair .add (by decide) (by decide) (gc 4 (by decide)) (gb 4 (by decide))), by omega⟩
theorem pr2 (ha : LeafOk a x) (hb : LeafOk b y) : PairOk (mk2 wTimes a b) (mk2 wTimes b a) := by
  obtain ⟨⟨va, wa, na⟩, _, _, ma, la, ga⟩ := ha
  obtain ⟨⟨vb, wb, nb⟩, _, _, mb, lb, gb⟩ := hb
  have h1 := Wv.pair .times (wa 3) (wb 3)
  have h2 := Wv.pair .times (wb 3) (wa 3)
  simp only [arD_times, numD, na, nb] at h1 h2
  rw [p2] at h2
  exact ⟨⟨_, h1, h2⟩, _, _, .pair .times (by decide) (by decide) (ga 3 (by decide)) (gb 3 (by decide)), .pair .times (by decide) (by decide) (gb 3 (by decide)) (ga 3 (by decide)), by omega⟩
theorem pr3 (ha : LeafOk a x) (hb : LeafOk b y) (hc : LeafOk c z) : PairOk (mk2 wTimes (mk2 wTimes a b) c) (mk2 wTimes a (mk2 wTimes b c)) := by
  obtain ⟨⟨va, wa, na⟩, _, _, ma, la, ga⟩ := ha
  obtain ⟨⟨vb, wb, nb⟩, _, _, mb, lb, gb⟩ := hb
  obtain ⟨⟨vc, wc, nc⟩, _, _, mc, lc, gc⟩ := hc
  have h1 := Wv.pair .times (Wv.pair .times (wa 2) (wb 2)) (wc 3)
  have h2 := Wv.pair .times (wa 3) (Wv.pair .times (wb 2) (wc 2))
  simp only [arD_times, numD, na, nb, nc] at h1 h2
  rw [← p3] at h2
  exact ⟨⟨_, h1, h2⟩, _, _, .pair .times (by decide) (by decide) (.pair .times (by decide) (by decide) (ga 4 (by decide)) (gb 4 (by decide))) (gc 3 (by decide)), .pair .times (by decide) (by decide) (ga 3 (by decide)) (.pair .times (by decide) (by decide) (gb 4 (by decide)) (gc 4 (by decide))), by omega⟩
theorem pr4 (ha : LeafOk a x) (hb : LeafOk b y) (hc : LeafOk c z) : PairOk (mk2 wTimes a (mk2 wAdd b c)) (mk2 wAdd (mk2 wTimes a b) (mk2 wTimes a c)) := by
  obtain ⟨⟨va, wa, na⟩, _, _, ma, la, ga⟩ := ha
  obtain ⟨⟨vb, wb, nb⟩, _, _, mb, lb, gb⟩ := hb
  obtain ⟨⟨vc, wc, nc⟩, _, _, mc, lc, gc⟩ := hc
  have h1 := Wv.pair .times (wa 3) (Wv.pair .add (wb 2) (wc 2))
  have h2 := Wv.pair .add (Wv.pair .times (wa 2) (wb 2)) (Wv.pair .times (wa 2) (wc 2))
  simp only [arD_times, arD_add, numD, na, nb, nc] at h1 h2
  rw [← p4] at h2
  exact ⟨⟨_, h1, h2⟩, _, _, .pair .times (by decide) (by decide) (ga 3 (by decide)) (.pair .add (by decide) (by decide) (gb 4 (by decide)) (gc 4 (by decide))), .pair .add (by decide) (by decide) (.pair .times (by decide) (by decide) (ga 4 (by decide)) (gb 4 (by decide))) (.pair .times (by decide) (by decide) (ga 4 (by decide)) (gc 4 (by decide))), by omega⟩
theorem pr5 (ha : LeafOk a x) (hb : LeafOk b y) : PairOk (mk2 wLess a b) (mk2 wAdd a (mk1 wMinus b)) := by
  obtain ⟨⟨va, wa, na⟩, _, _, ma, la, ga⟩ := ha
  obtain ⟨⟨vb, wb, nb⟩, _, _, mb, lb, gb⟩ := hb
  have h1 := Wv.pair .less (wa 3) (wb 3)
  have h2 := Wv.pair .add (wa 3) (Wv.minus (wb 2))
  simp only [arD_less, arD_add, numD, na, nb] at h1 h2
  rw [← p5] at h2
  exact ⟨⟨_, h1, h2⟩, _, _, .pair .less (by decide) (by decide) (ga 3 (by decide)) (gb 3 (by decide)), .pair .add (by decide) (by decide) (ga 3 (by decide)) (.minus (by decide) (gb 4 (by decide))), by omega⟩
theorem pr6 (ha : LeafOk a x) : PairOk (mk1 wMinus (mk1 wMinus a)) (mk2 wAdd a num0) := by
  obtain ⟨⟨va, wa, na⟩, _, _, ma, la, ga⟩ := ha
  have h1 := Wv.minus (Wv.minus (wa 2))
  have h2 := Wv.pair .add (wa 3) (wv_num0 4)
  simp only [arD_add, numD, na] at h1 h2
  rw [← p6] at h2
  exact ⟨⟨_, h1, h2⟩, _, _, .minus (by decide) (.minus (by decide) (ga 4 (by decide))), .pair .add (by decide) (by decide) (ga 3 (by decide)) (gp_num0 3 (by decide)), by omega⟩
end
end Wk07

set_option Elab.async false
set_option linter.all false
set_option maxRecDepth 100000
set_option maxHeartbeats 4000000
namespace Wk07
open PySem Lw PySem.NumText PyProof.Rows
/-- two equal words of a number -/
def Twin (t : List Nat) : Prop := ∃ u : Int, Wo (.int u) ∧ t = intL u ++ (32 :: intL u)
structure DeedBoth (x : D) (ts : List (List Nat)) (m : Nat) : Prop where
  ok : DeedOk 1 x m
  run : RunOk 22 x ts
  tw : ∀ t ∈ ts, Twin t
  nu : x ≠ .und
  len : ts.length ≤ 1
theorem say_both {x y : D} (h : PairOk x y) : ∃ ts m, DeedBoth (.tup [.str wSay, .tup [x, y]]) ts m ∧ m ≤ 21 := by
  obtain ⟨⟨u, wx, wy⟩, m, l, gx, gy, hm⟩ := h
  exact ⟨[intL u ++ (32 :: intL u)], m + l + 1, ⟨deed_say (by decide) gx gy, (run_say wx wy).up (j := 2), fun t ht => by
    rw [List.mem_singleton] at ht
    exact ⟨u, wx.wo, ht⟩, (fun q => nomatch q), by simp⟩, by omega⟩
theorem numD_i (i : Int) : numD (.int i) = i := rfl
theorem whole_both {a b : D} {x y : Int} (ha : LeafOk a x) (hb : LeafOk b y) :
    ∃ ts m, DeedBoth (.tup [.str wIf, mk2 wUnlike (mk2 wAdd b num0) num0, .tup [.tup [.str wSay, .tup [mk2 wAdd (mk2 wTimes (mk2 wOver a b) b) (mk2 wRest a b), mk2 wAdd a num0]]], .tup []]) ts m ∧ m ≤ 40 := by
  obtain ⟨⟨va, wa, na⟩, loa, hia, ma, la, ga⟩ := ha
  obtain ⟨⟨vb, wb, nb⟩, lob, hib, mb, lb, gb⟩ := hb
  have hq := Wv.unlike (Wv.pair .add (wb 2) (wv_num0 3)) (wv_num0 4)
  simp only [arD_add, numD_i, nb] at hq
  have hy : rg (y + 0) = y := by rw [Int.add_zero]; exact rg_id (by omega) (by omega)
  rw [hy] at hq
  have h1 := Wv.pair .add (Wv.pair .times (Wv.pair .over (wa 1) (wb 1)) (wb 2)) (Wv.pair .rest (wa 2) (wb 2))
  have h2 := Wv.pair .add (wa 3) (wv_num0 4)
  simp only [arD_add, arD_times, arD_over, arD_rest, numD_i, na, nb] at h1 h2
  have g1 : GP 3 (mk2 wAdd (mk2 wTimes (mk2 wOver a b) b) (mk2 wRest a b)) _ := .pair .add (by decide) (by decide) (.pair .times (by decide) (by decide) (.pair .over (by decide) (by decide) (ga 6 (by decide)) (gb 6 (by decide))) (gb 5 (by decide))) (.pair .rest (by decide) (by decide) (ga 5 (by decide)) (gb 5 (by decide)))
  have g2 : GP 3 (mk2 wAdd a num0) _ := .pair .add (by decide) (by decide) (ga 4 (by decide)) (gp_num0 4 (by decide))
  have gq : GP 2 (mk2 wUnlike (mk2 wAdd b num0) num0) _ := .pair .unlike (by decide) (by decide) (.pair .add (by decide) (by decide) (gb 4 (by decide)) (gp_num0 4 (by decide))) (gp_num0 3 (by decide))
  have bo := block_ok (Dl.cons (deed_say (d := 2) (by decide) g1 g2) (fun q => nomatch q) .nil) (by simp)
  have be := block_ok (d := 2) .nil (by decide)
  have ok := deed_if (d := 1) (by decide) gq bo be (fun q => nomatch q) (fun q => nomatch q)
  have br := block_run (Rl.cons (run_say h1 h2) (fun q => nomatch q) .nil)
  have bn := block_run (K := 20) .nil
  have rn := run_if hq br bn (fun q => nomatch q) (fun q => nomatch q)
  refine ⟨_, _, ⟨ok, rn, fun t ht => ?_, (fun q => nomatch q), ?_⟩, by omega⟩
  · by_cases hz : y = 0
    · simp [hz] at ht
    · rw [if_neg hz] at ht
      rw [if_neg (by decide)] at ht
      have ht := List.mem_singleton.mp ht
      refine ⟨rg (x + 0), h2.wo, ?_⟩
      rw [ht, p7 hz]
      rfl
  · split <;> simp
end Wk07

set_option Elab.async false
set_option linter.all false
set_option maxRecDepth 100000
set_option maxHeartbeats 4000000
namespace Wk07
open PySem Lw PySem.NumText PyProof.Rows
theorem spl_no : ∀ (t acc : List Nat), 32 ∉ t → TL.spl [32] 0 acc t = [acc ++ t]
  | [], acc, _ => by rw [TL.spl_nil, List.append_nil]
  | c :: r, acc, h => by
    have hc : TL.pre [32] (c :: r) = false := by
      have : c ≠ 32 := fun e => h (by simp [e])
      simp [TL.pre]; omega
    have e : TL.spl [32] 0 acc (c :: r) = TL.spl [32] 0 (acc ++ [c]) r := by
      show (if TL.pre [32] (c :: r) = true then _ else _) = _
      rw [hc]; rfl
    rw [e, spl_no r (acc ++ [c]) (fun q => h (List.mem_cons_of_mem _ q)), List.append_assoc]; rfl
theorem spl_two : ∀ (t acc u : List Nat), 32 ∉ t → 32 ∉ u → TL.spl [32] 0 acc (t ++ 32 :: u) = [acc ++ t, u]
  | [], acc, u, _, hu => by
    have e : TL.spl [32] 0 acc (32 :: u) = acc :: TL.spl [32] 0 [] u := by
      show (if TL.pre [32] (32 :: u) = true then _ else _) = _
      have hc : TL.pre [32] (32 :: u) = true := by simp [TL.pre]
      rw [hc]; rfl
    rw [List.nil_append, e, spl_no u [] hu, List.append_nil]; rfl
  | c :: r, acc, u, h, hu => by
    have hc : TL.pre [32] (c :: (r ++ 32 :: u)) = false := by
      have : c ≠ 32 := fun e => h (by simp [e])
      simp [TL.pre]; omega
    have e : TL.spl [32] 0 acc (c :: (r ++ 32 :: u)) = TL.spl [32] 0 (acc ++ [c]) (r ++ 32 :: u) := by
      show (if TL.pre [32] (c :: (r ++ 32 :: u)) = true then _ else _) = _
      rw [hc]; rfl
    rw [List.cons_append, e, spl_two r (acc ++ [c]) u (fun q => h (List.mem_cons_of_mem _ q)) hu, List.append_assoc]; rfl
theorem intL_no32 (i : Int) : 32 ∉ intL i := int_text_free' 32 ⟨by decide, by decide⟩ i
theorem twin_split {t : List Nat} (h : Twin t) : t.length + 2 ≤ LINE ∧ ∃ u, TL.spl [32] 0 [] t = [u, u] := by
  obtain ⟨i, hw, rfl⟩ := h
  have hl : (intL i).length ≤ 2000 := textD_len hw
  refine ⟨?_, intL i, spl_two _ _ _ (intL_no32 i) (intL_no32 i)⟩
  have : LINE = 10000000 := rfl
  simp
  omega
section
variable {f0 f1 f2 f3 f4 f5 f6 f7 f8 f9 f10 : D}
abbrev LB : SM := sSeq (sAsg 12 (eM1 mSplit (eV 11) (eC (.str [32])))) (sIf (tOr (tB (eBin opNe (eCall fLen (aCons (eV 12) aNil)) (eC (.int 2)))) (tB (eBin opNe (eBin opIx (eV 12) (eC (.int 0))) (eBin opIx (eV 12) (eC (.int 1)))))) (sRet (eC (.bl false))) sNx)
theorem line_step {t : List Nat} (h : Twin t) (μ : Mu) (y : D) : LB [f0, f1, f2, f3, f4, f5, f6, f7, f8, f9, f10, .str t, y] μ = .nx [f0, f1, f2, f3, f4, f5, f6, f7, f8, f9, f10, .str t, .ref μ.length] (μ ++ [.lst ((TL.spl [32] 0 [] t).map .str)]) := by
  obtain ⟨hl, u, hu⟩ := twin_split h
  have e : (eM1 mSplit (eV 11) (eC (.str [32]))) [f0, f1, f2, f3, f4, f5, f6, f7, f8, f9, f10, .str t, y] μ = .ok (.ref μ.length) (μ ++ [.lst ((TL.spl [32] 0 [] t).map .str)]) := by
    show bnd (Res.ok (D.str t) μ) _ = _
    rw [bnd_ok]
    show bnd (Res.ok (D.str [32]) μ) _ = _
    rw [bnd_ok]
    show (if t.length + 2 ≤ LINE ∧ 32 < 256 then Res.ok (D.ref μ.length) (μ ++ [O.lst ((TL.spl [32] 0 [] t).map D.str)]) else .bad) = _
    rw [if_pos ⟨hl, by decide⟩]
  unfold LB
  rw [seq_nx (fr' := [f0, f1, f2, f3, f4, f5, f6, f7, f8, f9, f10, .str t, .ref μ.length]) (μ' := μ ++ [.lst ((TL.spl [32] 0 [] t).map .str)]) (by rw [ap_sAsg, e]; rfl)]
  rw [hu]
  simp
theorem lines_loop {lines : List (List Nat)} {q : Nat} {μ : Mu} (hq : μ[q]? = some (.lst (lines.map .str))) (ht : ∀ t ∈ lines, Twin t) {y11 y12 : D} :
    ∃ z11 z12 μ', forD (gN 11) LB (.ref q) [f0, f1, f2, f3, f4, f5, f6, f7, f8, f9, f10, y11, y12] μ = .nx [f0, f1, f2, f3, f4, f5, f6, f7, f8, f9, f10, z11, z12] μ' ∧ Same (fun _ => False) μ μ' := by
  rw [forD_ref hq]
  obtain ⟨fr', μ', e, ⟨z11, z12, rfl, k⟩, _⟩ := forM_rule (gg := gN 11) (s1 := LB) (n := q) (xs := lines.map .str) (fr := [f0, f1, f2, f3, f4, f5, f6, f7, f8, f9, f10, y11, y12]) (μ := μ)
    (I := fun r fr μ' => (∃ a b, fr = [f0, f1, f2, f3, f4, f5, f6, f7, f8, f9, f10, a, b] ∧ Same (fun _ => False) μ μ') ∧ ∀ x ∈ r, ∃ t, x = .str t ∧ Twin t)
    (fun r fr μ' ⟨⟨a, b, _, k⟩, _⟩ => k.get hq (fun q => q))
    (fun x r fr μ' ⟨⟨a, b, e, k⟩, hr⟩ => by
      subst e
      obtain ⟨t, rfl, tw⟩ := hr x (by simp)
      exact ⟨[f0, f1, f2, f3, f4, f5, f6, f7, f8, f9, f10, .str t, b], _, _, rfl, line_step tw μ' b, ⟨_, _, rfl, k.thenApp⟩, fun y hy => hr y (List.mem_cons_of_mem _ hy)⟩)
    ⟨⟨y11, y12, rfl, .refl⟩, fun x hx => by
      obtain ⟨t, h1, rfl⟩ := List.mem_map.mp hx
      exact ⟨t, rfl, ht t h1⟩⟩
  exact ⟨z11, z12, μ', e, k⟩
end
end Wk07

set_option Elab.async false
set_option linter.all false
set_option maxRecDepth 100000
set_option maxHeartbeats 4000000
namespace Wk07
open PySem Lw PySem.NumText PyProof.Rows
theorem lcM_pure {gg : D → Fr → Option Fr} {b : EM} {fr : Fr} {l n : Nat} {xs : List D} {f : D → D} (hne : l ≠ n) (hf : ∀ x ∈ xs, ∃ fr1, gg x fr = some fr1 ∧ ∀ μ, b fr1 μ = .ok (f x) μ) (hlen : xs.length < 10000000) {μ : Mu} (h1 : μ[l]? = some (.lst xs)) (h2 : μ[n]? = some (.lst [])) :
    lcM gg tYesM b l n xs.length 0 fr μ = .ok (.ref n) (μ.set n (.lst (xs.map f))) := by
  have key : ∀ (r acc : List D) (i : Nat) (μ : Mu), xs.drop i = r → acc.length + r.length = xs.length → μ[l]? = some (.lst xs) → μ[n]? = some (.lst acc) → lcM gg tYesM b l n r.length i fr μ = .ok (.ref n) (μ.set n (.lst (acc ++ r.map f))) := by
    intro r
    induction r with
    | nil =>
      intro acc i μ d hl g1 g2
      rw [List.length_nil]
      unfold lcM
      rw [g1]
      have : xs.length ≤ i := List.drop_eq_nil_iff.mp d
      simp only [if_pos this, List.map_nil, List.append_nil]
      congr 1
      refine List.ext_getElem? fun k => ?_
      by_cases hk : n = k
      · subst hk; rw [set_get g2, g2]
      · rw [List.getElem?_set_ne hk]
    | cons x r ih =>
      intro acc i μ d hl g1 g2
      have hi : xs[i]? = some x := by
        have := congrArg List.head? d
        rwa [List.head?_drop] at this
      have hd : xs.drop (i + 1) = r := by
        have := congrArg List.tail d
        rwa [List.tail_drop] at this
      have hx : x ∈ xs := List.mem_of_getElem? hi
      obtain ⟨fr1, e1, e2⟩ := hf x hx
      simp only [List.length_cons] at hl
      have hacc : acc.length < 10000000 := by omega
      rw [List.length_cons]
      unfold lcM
      rw [g1]
      simp only [hi, e1, ap_tYesM, bnd_ok, if_true, e2, lcPut, g2, hacc]
      rw [ih (acc ++ [f x]) (i + 1) (μ.set n (.lst (acc ++ [f x]))) hd (by simp; omega) (by rw [List.getElem?_set_ne hne.symm]; exact g1) (set_get g2), List.set_set]
      simp
  have := key xs [] 0 μ rfl (by simp) h1 h2
  simpa using this
theorem app_step {o e : EM} {fr : Fr} {μ : Mu} {a : Nat} {y : D} {xs : List D} (ho : o fr μ = .ok (.ref a) μ) (he : e fr μ = .ok y μ) (h : μ[a]? = some (.lst xs)) (hl : xs.length < 1000) : sExp (eApp o e) fr μ = .nx fr (μ.set a (.lst (xs ++ [y]))) := by
  have : LINE = 10000000 := rfl
  rw [ap_sExp, ap_eApp, ho, bnd_ok, atR_r, h, lstR_l, he, bnd_ok, h, appR_l, if_pos (by omega), bndS_ok]
section
variable {n : Nat} {ns : List Int}
abbrev tw2 (x y : D) : D := .tup [x, y]
abbrev saying (p : D) : D := .tup [.str wSay, p]
abbrev backOf (a b : D) : D := mk2 wAdd (mk2 wTimes (mk2 wOver a b) b) (mk2 wRest a b)
abbrev wholeOf (a b : D) : D := .tup [.str wIf, mk2 wUnlike (mk2 wAdd b num0) num0, .tup [.tup [.str wSay, .tup [backOf a b, mk2 wAdd a num0]]], .tup []]
abbrev T0 (c : Fn → List D → Mu → Res D) : SM := (sPar3 3 4 5 (aCons (eCall (c .f_law_leaf) (aCons (eV 1) aNil)) (aCons (eCall (c .f_law_leaf) (aCons (eV 1) aNil)) (aCons (eCall (c .f_law_leaf) (aCons (eV 1) aNil)) aNil))))
abbrev T1 : SM := (sAsg 6 (eLst (aCons (eTup (aCons (eTup (aCons (eC (.str [97, 100, 100])) (aCons (eTup (aCons (eC (.str [97, 100, 100])) (aCons (eV 3) (aCons (eV 4) aNil)))) (aCons (eV 5) aNil)))) (aCons (eTup (aCons (eC (.str [97, 100, 100])) (aCons (eV 3) (aCons (eTup (aCons (eC (.str [97, 100, 100])) (aCons (eV 5) (aCons (eV 4) aNil)))) aNil)))) aNil))) (aCons (eTup (aCons (eTup (aCons (eC (.str [116, 105, 109, 101, 115])) (aCons (eV 3) (aCons (eV 4) aNil)))) (aCons (eTup (aCons (eC (.str [116, 105, 109, 101, 115])) (aCons (eV 4) (aCons (eV 3) aNil)))) aNil))) aNil))))
abbrev T2 : SM := (sExp (eApp (eV 6) (eTup (aCons (eTup (aCons (eC (.str [116, 105, 109, 101, 115])) (aCons (eTup (aCons (eC (.str [116, 105, 109, 101, 115])) (aCons (eV 3) (aCons (eV 4) aNil)))) (aCons (eV 5) aNil)))) (aCons (eTup (aCons (eC (.str [116, 105, 109, 101, 115])) (aCons (eV 3) (aCons (eTup (aCons (eC (.str [116, 105, 109, 101, 115])) (aCons (eV 4) (aCons (eV 5) aNil)))) aNil)))) aNil)))))
abbrev T3 : SM := (sExp (eApp (eV 6) (eTup (aCons (eTup (aCons (eC (.str [116, 105, 109, 101, 115])) (aCons (eV 3) (aCons (eTup (aCons (eC (.str [97, 100, 100])) (aCons (eV 4) (aCons (eV 5) aNil)))) aNil)))) (aCons (eTup (aCons (eC (.str [97, 100, 100])) (aCons (eTup (aCons (eC (.str [116, 105, 109, 101, 115])) (aCons (eV 3) (aCons (eV 4) aNil)))) (aCons (eTup (aCons (eC (.str [116, 105, 109, 101, 115])) (aCons (eV 3) (aCons (eV 5) aNil)))) aNil)))) aNil)))))
abbrev T4 : SM := (sExp (eApp (eV 6) (eTup (aCons (eTup (aCons (eC (.str [108, 101, 115, 115])) (aCons (eV 3) (aCons (eV 4) aNil)))) (aCons (eTup (aCons (eC (.str [97, 100, 100])) (aCons (eV 3) (aCons (eTup (aCons (eC (.str [109, 105, 110, 117, 115])) (aCons (eV 4) aNil))) aNil)))) aNil)))))
abbrev T5 : SM := (sExp (eApp (eV 6) (eTup (aCons (eTup (aCons (eC (.str [109, 105, 110, 117, 115])) (aCons (eTup (aCons (eC (.str [109, 105, 110, 117, 115])) (aCons (eV 3) aNil))) aNil))) (aCons (eTup (aCons (eC (.str [97, 100, 100])) (aCons (eV 3) (aCons (eTup (aCons (eC (.str [110, 117, 109])) (aCons (eC (.int 0)) aNil))) aNil)))) aNil)))))
abbrev T6 : SM := (sAsg 7 (eTup (aCons (eC (.str [97, 100, 100])) (aCons (eTup (aCons (eC (.str [116, 105, 109, 101, 115])) (aCons (eTup (aCons (eC (.str [111, 118, 101, 114])) (aCons (eV 3) (aCons (eV 4) aNil)))) (aCons (eV 4) aNil)))) (aCons (eTup (aCons (eC (.str [114, 101, 115, 116])) (aCons (eV 3) (aCons (eV 4) aNil)))) aNil)))))
abbrev T7 : SM := (sAsg 8 (eTup (aCons (eC (.str [105, 102])) (aCons (eTup (aCons (eC (.str [117, 110, 108, 105, 107, 101])) (aCons (eTup (aCons (eC (.str [97, 100, 100])) (aCons (eV 4) (aCons (eTup (aCons (eC (.str [110, 117, 109])) (aCons (eC (.int 0)) aNil))) aNil)))) (aCons (eTup (aCons (eC (.str [110, 117, 109])) (aCons (eC (.int 0)) aNil))) aNil)))) (aCons (eTup (aCons (eTup (aCons (eC (.str [115, 97, 121])) (aCons (eTup (aCons (eV 7) (aCons (eTup (aCons (eC (.str [97, 100, 100])) (aCons (eV 3) (aCons (eTup (aCons (eC (.str [110, 117, 109])) (aCons (eC (.int 0)) aNil))) aNil)))) aNil))) aNil))) aNil)) (aCons (eTup aNil) aNil))))))
abbrev T8 : SM := (sAsg 9 (eBin opAdd (eCall fTuple (aCons (eLc (gN 10) (eV 6) tYesM (eTup (aCons (eC (.str [115, 97, 121])) (aCons (eV 10) aNil))) [10]) aNil)) (eTup (aCons (eV 8) aNil))))
abbrev T9 (c : Fn → List D → Mu → Res D) : SM := (sFor (gN 11) (eCall (c .f_run) (aCons (eTup (aCons (eTup (aCons (eC (.str [98, 101, 103, 105, 110])) (aCons (eV 9) aNil))) aNil)) (aCons (eLst aNil) aNil))) (sSeq (sAsg 12 (eM1 mSplit (eV 11) (eC (.str [32])))) (sIf (tOr (tB (eBin opNe (eCall fLen (aCons (eV 12) aNil)) (eC (.int 2)))) (tB (eBin opNe (eBin opIx (eV 12) (eC (.int 0))) (eBin opIx (eV 12) (eC (.int 1)))))) (sRet (eC (.bl false))) sNx)))
abbrev TB (c : Fn → List D → Mu → Res D) : SM := sSeq (T0 c) (sSeq T1 (sSeq T2 (sSeq T3 (sSeq T4 (sSeq T5 (sSeq T6 (sSeq T7 (sSeq T8 (T9 c)))))))))
theorem law_is (c c1 : Fn → List D → Mu → Res D) : m_f_law c c1 = sSeq (sAsg 1 (eCall (c .f_law_start) (aCons (eV 0) aNil))) (sSeq (sForR (gN 2) (aCons (eC (.int 10)) aNil) (TB c)) (sRet (eC (.bl true)))) := rfl
theorem LeafOk.ne {p : D} {z : Int} (h : LeafOk p z) : p ≠ .und := by obtain ⟨v, w, _⟩ := h.w; exact (w 0).tupd
theorem leaves {μ : Mu} (h : St ns μ) {f0 t f3 f4 f5 f6 f7 f8 f9 f10 f11 f12 : D} : ∃ a b c x y z μ', T0 (call (n + 70)) [f0, .ref 0, t, f3, f4, f5, f6, f7, f8, f9, f10, f11, f12] μ = .nx [f0, .ref 0, t, a, b, c, f6, f7, f8, f9, f10, f11, f12] μ' ∧ LeafOk a x ∧ LeafOk b y ∧ LeafOk c z ∧ St ns μ' := by
  obtain ⟨a, x, μ1, e1, la, s1, _⟩ := sp_leaf (n := n + 68) h
  obtain ⟨b, y, μ2, e2, lb, s2, _⟩ := sp_leaf (n := n + 68) s1
  obtain ⟨c, z, μ3, e3, lc, s3, _⟩ := sp_leaf (n := n + 68) s2
  refine ⟨a, b, c, x, y, z, μ3, ?_, la, lb, lc, s3⟩
  have e : (aCons (eCall (call (n + 70) .f_law_leaf) (aCons (eV 1) aNil)) (aCons (eCall (call (n + 70) .f_law_leaf) (aCons (eV 1) aNil)) (aCons (eCall (call (n + 70) .f_law_leaf) (aCons (eV 1) aNil)) aNil))) [f0, .ref 0, t, f3, f4, f5, f6, f7, f8, f9, f10, f11, f12] μ = .ok [a, b, c] μ3 := by
    simp [e1, e2, e3]
  show bndS _ ((aCons _ _) _ μ) _ = _
  rw [e]
  rfl
end
end Wk07

set_option Elab.async false
set_option linter.all false
set_option maxRecDepth 100000
set_option maxHeartbeats 4000000
namespace Wk07
open PySem Lw PySem.NumText PyProof.Rows
theorem set_last {μ1 : Mu} {x y : O} : (μ1 ++ [x]).set μ1.length y = μ1 ++ [y] := by
  rw [List.set_append_right _ _ (Nat.le_refl _)]; simp
theorem app_last {o e : EM} {fr : Fr} {μ1 : Mu} {y : D} {xs : List D} (ho : o fr (μ1 ++ [.lst xs]) = .ok (.ref μ1.length) (μ1 ++ [.lst xs])) (he : e fr (μ1 ++ [.lst xs]) = .ok y (μ1 ++ [.lst xs])) (hl : xs.length < 1000) :
    sExp (eApp o e) fr (μ1 ++ [.lst xs]) = .nx fr (μ1 ++ [.lst (xs ++ [y])]) := by
  rw [app_step ho he (by simp) hl, set_last]
section
variable {n : Nat} {ns : List Int}
theorem all_both : ∀ (xs : List D), (∀ x ∈ xs, ∃ ts m, DeedBoth x ts m ∧ m ≤ 40) → ∃ ts m, Dl 1 xs m ∧ Rl 22 xs ts ∧ (∀ t ∈ ts, Twin t) ∧ m ≤ 40 * xs.length ∧ ts.length ≤ xs.length
  | [], _ => ⟨[], 0, .nil, .nil, fun t h => (nomatch h), by simp, by simp⟩
  | x :: xs, h => by
    obtain ⟨ts, m, d, hm⟩ := h x (by simp)
    obtain ⟨ts', m', d', r', tw', hm', hl'⟩ := all_both xs fun y hy => h y (List.mem_cons_of_mem _ hy)
    refine ⟨ts ++ ts', m + m', .cons d.ok d.nu d', .cons d.run d.nu r', fun t ht => ?_, by simp; omega, by have := d.len; simp; omega⟩
    rcases List.mem_append.mp ht with q | q
    · exact d.tw t q
    · exact tw' t q
theorem t8 {μ : Mu} {L : Nat} {ps : List D} {f0 f1 f2 f3 f4 f5 f7 f9 f10 f11 f12 : D} {ws : List D} (h : μ[L]? = some (.lst ps)) (hp : ∀ x ∈ ps, x ≠ .und) (hl : ps.length < 1000) :
    ∃ μ', T8 [f0, f1, f2, f3, f4, f5, .ref L, f7, .tup ws, f9, f10, f11, f12] μ = .nx [f0, f1, f2, f3, f4, f5, .ref L, f7, .tup ws, .tup (ps.map saying ++ [.tup ws]), f10, f11, f12] μ' ∧ Same (fun _ => False) μ μ' := by
  have hL := get_lt h
  have e := lcM_pure (gg := gN 10) (b := eTup (aCons (eC (.str [115, 97, 121])) (aCons (eV 10) aNil))) (fr := [f0, f1, f2, f3, f4, f5, .ref L, f7, .tup ws, f9, .und, f11, f12]) (l := L) (n := μ.length) (xs := ps) (f := saying) (by omega)
    (fun x hx => ⟨[f0, f1, f2, f3, f4, f5, .ref L, f7, .tup ws, f9, x, f11, f12], rfl, fun μ => by simp [getV_of (hp x hx)]⟩) (by omega) (μ := μ ++ [.lst []]) (app_get h) (by simp)
  refine ⟨_, ?_, (Same.app (xs := [.lst []])).thenSet (Nat.le_refl _) (o := .lst (ps.map saying))⟩
  have e1 : (eCall fTuple (aCons (eLc (gN 10) (eV 6) tYesM (eTup (aCons (eC (.str [115, 97, 121])) (aCons (eV 10) aNil))) [10]) aNil)) [f0, f1, f2, f3, f4, f5, .ref L, f7, .tup ws, f9, f10, f11, f12] μ = .ok (.tup (ps.map saying)) ((μ ++ [O.lst []]).set μ.length (O.lst (ps.map saying))) := by
    rw [ap_eCall, ap_aCons, ap_eLc, ap_eV]
    show bnd (bnd (bnd (Res.ok (D.ref L) μ) _) _) _ = _
    rw [bnd_ok, lcD_ref h]
    show bnd (bnd (noX (lcM (gN 10) tYesM _ L μ.length ps.length 0 [f0, f1, f2, f3, f4, f5, .ref L, f7, .tup ws, f9, .und, f11, f12] (μ ++ [.lst []]))) _) _ = _
    rw [e, noX_ok, bnd_ok, ap_aNil, bnd_ok, bnd_ok, fTuple_r, set_get (o := O.lst []) (by simp), tupR_l]
  unfold T8
  rw [ap_sAsg, ap_eBin, e1, bnd_ok]
  have hl2 : (ps.map saying).length + [D.tup ws].length ≤ LINE := by
    have : LINE = 10000000 := rfl
    simp; omega
  have e2 : ∀ μ, (eTup (aCons (eV 8) aNil)) [f0, f1, f2, f3, f4, f5, .ref L, f7, .tup ws, f9, f10, f11, f12] μ = .ok (.tup [.tup ws]) μ := fun μ => by simp
  rw [e2, bnd_ok, opAdd_t, if_pos hl2]
  rfl
theorem t9 {μ : Mu} {f1 f2 f3 f4 f5 f6 f7 f8 f10 f11 f12 : D} {f0 : D} {xs : List D} (h : ∀ x ∈ xs, ∃ ts m, DeedBoth x ts m ∧ m ≤ 40) (hl : xs.length ≤ 7) :
    ∃ z11 z12 μ', T9 (call (n + 70)) [f0, f1, f2, f3, f4, f5, f6, f7, f8, .tup xs, f10, f11, f12] μ = .nx [f0, f1, f2, f3, f4, f5, f6, f7, f8, .tup xs, f10, z11, z12] μ' ∧ Same (fun _ => False) μ μ' := by
  obtain ⟨ts, m, d, r, tw, hm, ht⟩ := all_both xs h
  obtain ⟨μ1, q, e, hq, k⟩ := sp_run (n := n) (μ := μ ++ [.lst []]) (fl := μ.length) (block_ok d (by omega)) (block_run r) (fun q => nomatch q) (by omega) (by omega) (by simp)
  obtain ⟨z11, z12, μ2, e2, k2⟩ := lines_loop (f0 := f0) (f1 := f1) (f2 := f2) (f3 := f3) (f4 := f4) (f5 := f5) (f6 := f6) (f7 := f7) (f8 := f8) (f9 := .tup xs) (f10 := f10) (y11 := f11) (y12 := f12) hq tw
  refine ⟨z11, z12, μ2, ?_, (Same.app.trans k).trans k2⟩
  have e1 : (aCons (eTup (aCons (eTup (aCons (eC (.str [98, 101, 103, 105, 110])) (aCons (eV 9) aNil))) aNil)) (aCons (eLst aNil) aNil)) [f0, f1, f2, f3, f4, f5, f6, f7, f8, .tup xs, f10, f11, f12] μ = .ok [.tup [.tup [.str wBegin, .tup xs]], .ref μ.length] (μ ++ [.lst []]) := by simp
  unfold T9
  rw [ap_sFor, ap_eCall, e1, bnd_ok, e, bndS_ok, e2]
abbrev psOf6 (a b c : D) : List D := [tw2 (mk2 wAdd (mk2 wAdd a b) c) (mk2 wAdd a (mk2 wAdd c b)), tw2 (mk2 wTimes a b) (mk2 wTimes b a), tw2 (mk2 wTimes (mk2 wTimes a b) c) (mk2 wTimes a (mk2 wTimes b c)), tw2 (mk2 wTimes a (mk2 wAdd b c)) (mk2 wAdd (mk2 wTimes a b) (mk2 wTimes a c)), tw2 (mk2 wLess a b) (mk2 wAdd a (mk1 wMinus b)), tw2 (mk1 wMinus (mk1 wMinus a)) (mk2 wAdd a num0)]
theorem deeds_ok {a b c : D} {x y z : Int} (ha : LeafOk a x) (hb : LeafOk b y) (hc : LeafOk c z) : ∀ d ∈ (psOf6 a b c).map saying ++ [wholeOf a b], ∃ ts m, DeedBoth d ts m ∧ m ≤ 40 := by
  have up : ∀ {u v : D}, PairOk u v → ∃ ts m, DeedBoth (saying (tw2 u v)) ts m ∧ m ≤ 40 := fun h => by
    obtain ⟨ts, m, d, hm⟩ := say_both h
    exact ⟨ts, m, d, by omega⟩
  intro d hd
  simp only [List.map_cons, List.map_nil, List.cons_append, List.nil_append, List.mem_cons, List.not_mem_nil, or_false] at hd
  rcases hd with rfl | rfl | rfl | rfl | rfl | rfl | rfl
  · exact up (pr1 ha hb hc)
  · exact up (pr2 ha hb)
  · exact up (pr3 ha hb hc)
  · exact up (pr4 ha hb hc)
  · exact up (pr5 ha hb)
  · exact up (pr6 ha)
  · exact whole_both ha hb
theorem turn {μ : Mu} {f0 t f3 f4 f5 f6 f7 f8 f9 f10 f11 f12 : D} (h : St ns μ) :
    ∃ g3 g4 g5 g6 g7 g8 g9 g10 g11 g12 μ', TB (call (n + 70)) [f0, .ref 0, t, f3, f4, f5, f6, f7, f8, f9, f10, f11, f12] μ = .nx [f0, .ref 0, t, g3, g4, g5, g6, g7, g8, g9, g10, g11, g12] μ' ∧ St ns μ' := by
  obtain ⟨a, b, c, x, y, z, μ1, e0, la, lb, lc, s1⟩ := leaves (n := n) (f0 := f0) (t := t) (f3 := f3) (f4 := f4) (f5 := f5) (f6 := f6) (f7 := f7) (f8 := f8) (f9 := f9) (f10 := f10) (f11 := f11) (f12 := f12) h
  have va : ∀ μ, getV (some a) μ = .ok a μ := fun μ => getV_of la.ne
  have vb : ∀ μ, getV (some b) μ = .ok b μ := fun μ => getV_of lb.ne
  have vc : ∀ μ, getV (some c) μ = .ok c μ := fun μ => getV_of lc.ne
  have s2 : St ns (μ1 ++ [.lst (psOf6 a b c)]) := s1.app
  obtain ⟨μ3, e8, k8⟩ := t8 (μ := μ1 ++ [.lst (psOf6 a b c)]) (L := μ1.length) (ps := psOf6 a b c) (f0 := f0) (f1 := .ref 0) (f2 := t) (f3 := a) (f4 := b) (f5 := c) (f7 := backOf a b) (f9 := f9) (f10 := f10) (f11 := f11) (f12 := f12) (ws := [.str wIf, mk2 wUnlike (mk2 wAdd b num0) num0, .tup [.tup [.str wSay, .tup [backOf a b, mk2 wAdd a num0]]], .tup []]) (by simp) (fun x hx => by
    simp only [psOf6, List.mem_cons, List.not_mem_nil, or_false] at hx
    rcases hx with rfl | rfl | rfl | rfl | rfl | rfl <;> exact fun q => nomatch q) (by simp)
  obtain ⟨z11, z12, μ4, e9, k9⟩ := t9 (n := n) (μ := μ3) (f0 := f0) (f1 := .ref 0) (f2 := t) (f3 := a) (f4 := b) (f5 := c) (f6 := .ref μ1.length) (f7 := backOf a b) (f8 := wholeOf a b) (f10 := f10) (f11 := f11) (f12 := f12) (deeds_ok la lb lc) (by simp)
  refine ⟨a, b, c, .ref μ1.length, backOf a b, wholeOf a b, .tup ((psOf6 a b c).map saying ++ [wholeOf a b]), f10, z11, z12, μ4, ?_, (s2.same k8).same k9⟩
  show sSeq _ _ _ _ = _
  rw [seq_nx e0]
  rw [seq_nx (fr' := [f0, .ref 0, t, a, b, c, .ref μ1.length, f7, f8, f9, f10, f11, f12]) (μ' := μ1 ++ [.lst [tw2 (mk2 wAdd (mk2 wAdd a b) c) (mk2 wAdd a (mk2 wAdd c b)), tw2 (mk2 wTimes a b) (mk2 wTimes b a)]]) (by simp [va, vb, vc])]
  rw [seq_nx (app_last (y := tw2 (mk2 wTimes (mk2 wTimes a b) c) (mk2 wTimes a (mk2 wTimes b c))) (by simp) (by simp [va, vb, vc]) (by simp))]
  rw [seq_nx (app_last (y := tw2 (mk2 wTimes a (mk2 wAdd b c)) (mk2 wAdd (mk2 wTimes a b) (mk2 wTimes a c))) (by simp) (by simp [va, vb, vc]) (by simp))]
  rw [seq_nx (app_last (y := tw2 (mk2 wLess a b) (mk2 wAdd a (mk1 wMinus b))) (by simp) (by simp [va, vb, vc]) (by simp))]
  rw [seq_nx (app_last (y := tw2 (mk1 wMinus (mk1 wMinus a)) (mk2 wAdd a num0)) (by simp) (by simp [va, vb, vc]) (by simp))]
  rw [seq_nx (fr' := [f0, .ref 0, t, a, b, c, .ref μ1.length, backOf a b, f8, f9, f10, f11, f12]) (μ' := μ1 ++ [.lst (psOf6 a b c)]) (by simp [va, vb, vc])]
  rw [seq_nx (fr' := [f0, .ref 0, t, a, b, c, .ref μ1.length, backOf a b, wholeOf a b, f9, f10, f11, f12]) (μ' := μ1 ++ [.lst (psOf6 a b c)]) (by simp [va, vb, vc])]
  rw [seq_nx e8]
  exact e9
end
end Wk07

set_option Elab.async false
set_option linter.all false
set_option maxRecDepth 100000
set_option maxHeartbeats 4000000
namespace Wk07
open PySem Lw PySem.NumText PyProof.Rows
theorem run_law (ns : List Int) (hl : ns.length ≤ 63) : ∃ μ', call 100 .f_law [.frl (ns.map .int)] [] = .ok (.bl true) μ' := by
  obtain ⟨F, hF⟩ : ∃ F : D, F = .frl (ns.map .int) := ⟨_, rfl⟩
  have vF : ∀ μ, getV (some F) μ = .ok F μ := fun μ => by rw [hF]; rfl
  obtain ⟨m, e1⟩ := sp_start (n := 98) (μ := []) (ns := ns)
  have s1 : St ns ([] ++ [.lst [.frl (ns.map .int), .int 0, .int m, .int 0]]) := ⟨0, m, 0, Int.le_refl _, rfl⟩
  rw [← hF] at e1
  obtain ⟨fr', μ', e, ⟨t, g3, g4, g5, g6, g7, g8, g9, g10, g11, g12, rfl⟩, s2⟩ := forL_rule (gg := gN 2) (s1 := TB (call 99)) (xs := rngL 0 10) (fr := [F, .ref 0, .und, .und, .und, .und, .und, .und, .und, .und, .und, .und, .und]) (μ := [] ++ [.lst [F, .int 0, .int m, .int 0]])
    (I := fun r fr μ => (∃ t g3 g4 g5 g6 g7 g8 g9 g10 g11 g12 : D, fr = [F, .ref 0, t, g3, g4, g5, g6, g7, g8, g9, g10, g11, g12]) ∧ St ns μ)
    (fun x r fr μ ⟨⟨t, g3, g4, g5, g6, g7, g8, g9, g10, g11, g12, e⟩, s⟩ => by
      subst e
      obtain ⟨h3, h4, h5, h6, h7, h8, h9, h10, h11, h12, μ2, e2, s2⟩ := turn (n := 29) (f0 := F) (t := x) (f3 := g3) (f4 := g4) (f5 := g5) (f6 := g6) (f7 := g7) (f8 := g8) (f9 := g9) (f10 := g10) (f11 := g11) (f12 := g12) s
      exact ⟨_, _, μ2, rfl, e2, ⟨_, _, _, _, _, _, _, _, _, _, _, rfl⟩, s2⟩)
    ⟨⟨_, _, _, _, _, _, _, _, _, _, _, rfl⟩, by rw [hF]; exact s1⟩
  refine ⟨μ', ?_⟩
  rw [← hF]
  show outM (m_f_law (call 99) (callP 99).2 [F, .und, .und, .und, .und, .und, .und, .und, .und, .und, .und, .und, .und] []) = _
  rw [law_is]
  rw [seq_nx (fr' := [F, .ref 0, .und, .und, .und, .und, .und, .und, .und, .und, .und, .und, .und]) (μ' := [] ++ [.lst [F, .int 0, .int m, .int 0]]) (by
    rw [ap_sAsg, ap_eCall]
    have z : (aCons (eV 0) aNil) [F, .und, .und, .und, .und, .und, .und, .und, .und, .und, .und, .und, .und] [] = .ok [F] [] := by simp [vF]
    rw [z, bnd_ok, e1]; rfl)]
  have q : (sForR (gN 2) (aCons (eC (.int 10)) aNil) (TB (call 99))) [F, .ref 0, .und, .und, .und, .und, .und, .und, .und, .und, .und, .und, .und] ([] ++ [.lst [F, .int 0, .int m, .int 0]]) = .nx [F, .ref 0, t, g3, g4, g5, g6, g7, g8, g9, g10, g11, g12] μ' := by
    show bndS _ ((aCons (eC (.int 10)) aNil) _ _) _ = _
    rw [ap_aCons, ap_eC, bnd_ok, ap_aNil, bnd_ok, bndS_ok]
    exact e
  rw [seq_nx q]
  simp
end Wk07

set_option Elab.async false
set_option linter.all false
set_option maxRecDepth 100000
set_option maxHeartbeats 0
namespace Wk07
open PySem PySem.W PySem.Calls PyProof.Rows L2 Lw
section
variable {P : Program} {w : World} {K : PySem.W.Frag} {mg : PySem.Str → Option Value} {h : Heap}
theorem fd_all (c : Says w h K) : ∀ f : Fn, ∃ fd, FDt K f fd
  | .f_ring => c.t.d.def_ 0 (d := ⟨atOf .f_ring, nmOf .f_ring, quOf .f_ring, defArgs st_f_ring, defBody st_f_ring, defScope st_f_ring, [], []⟩) rfl
  | .f_is_number => c.t.d.def_ 1 (d := ⟨atOf .f_is_number, nmOf .f_is_number, quOf .f_is_number, defArgs st_f_is_number, defBody st_f_is_number, defScope st_f_is_number, [], []⟩) rfl
  | .f_number_of => c.t.d.def_ 2 (d := ⟨atOf .f_number_of, nmOf .f_number_of, quOf .f_number_of, defArgs st_f_number_of, defBody st_f_number_of, defScope st_f_number_of, [], []⟩) rfl
  | .f_text_of => c.t.d.def_ 3 (d := ⟨atOf .f_text_of, nmOf .f_text_of, quOf .f_text_of, defArgs st_f_text_of, defBody st_f_text_of, defScope st_f_text_of, [], []⟩) rfl
  | .f_is_true => c.t.d.def_ 4 (d := ⟨atOf .f_is_true, nmOf .f_is_true, quOf .f_is_true, defArgs st_f_is_true, defBody st_f_is_true, defScope st_f_is_true, [], []⟩) rfl
  | .f_cut => c.t.d.def_ 5 (d := ⟨atOf .f_cut, nmOf .f_cut, quOf .f_cut, defArgs st_f_cut, defBody st_f_cut, defScope st_f_cut, [], []⟩) rfl
  | .f_reckoned => c.t.d.def_ 6 (d := ⟨atOf .f_reckoned, nmOf .f_reckoned, quOf .f_reckoned, defArgs st_f_reckoned, defBody st_f_reckoned, defScope st_f_reckoned, [], []⟩) rfl
  | .f_held => c.t.d.def_ 7 (d := ⟨atOf .f_held, nmOf .f_held, quOf .f_held, defArgs st_f_held, defBody st_f_held, defScope st_f_held, [], []⟩) rfl
  | .f_part_of => c.t.d.def_ 8 (d := ⟨atOf .f_part_of, nmOf .f_part_of, quOf .f_part_of, defArgs st_f_part_of, defBody st_f_part_of, defScope st_f_part_of, [], []⟩) rfl
  | .f_within => c.t.d.def_ 9 (d := ⟨atOf .f_within, nmOf .f_within, quOf .f_within, defArgs st_f_within, defBody st_f_within, defScope st_f_within, [], []⟩) rfl
  | .f_paired => c.t.d.def_ 10 (d := ⟨atOf .f_paired, nmOf .f_paired, quOf .f_paired, defArgs st_f_paired, defBody st_f_paired, defScope st_f_paired, [], []⟩) rfl
  | .f_lines_of => c.t.d.def_ 11 (d := ⟨atOf .f_lines_of, nmOf .f_lines_of, quOf .f_lines_of, defArgs st_f_lines_of, defBody st_f_lines_of, defScope st_f_lines_of, [], []⟩) rfl
  | .f_is_name => c.t.d.def_ 12 (d := ⟨atOf .f_is_name, nmOf .f_is_name, quOf .f_is_name, defArgs st_f_is_name, defBody st_f_is_name, defScope st_f_is_name, [], []⟩) rfl
  | .f_size_of => c.t.d.def_ 13 (d := ⟨atOf .f_size_of, nmOf .f_size_of, quOf .f_size_of, defArgs st_f_size_of, defBody st_f_size_of, defScope st_f_size_of, [], []⟩) rfl
  | .f_leaf_of => c.t.d.def_ 14 (d := ⟨atOf .f_leaf_of, nmOf .f_leaf_of, quOf .f_leaf_of, defArgs st_f_leaf_of, defBody st_f_leaf_of, defScope st_f_leaf_of, [], []⟩) rfl
  | .f_inner_of => c.t.d.def_ 15 (d := ⟨atOf .f_inner_of, nmOf .f_inner_of, quOf .f_inner_of, defArgs st_f_inner_of, defBody st_f_inner_of, defScope st_f_inner_of, [], []⟩) rfl
  | .f_need_tree => c.t.d.def_ 16 (d := ⟨atOf .f_need_tree, nmOf .f_need_tree, quOf .f_need_tree, defArgs st_f_need_tree, defBody st_f_need_tree, defScope st_f_need_tree, [], []⟩) rfl
  | .f_run_by => c.t.d.def_ 17 (d := ⟨atOf .f_run_by, nmOf .f_run_by, quOf .f_run_by, defArgs st_f_run_by, defBody st_f_run_by, defScope st_f_run_by, [], []⟩) rfl
  | .f_run => c.t.d.def_ 18 (d := ⟨atOf .f_run, nmOf .f_run, quOf .f_run, defArgs st_f_run, defBody st_f_run, defScope st_f_run, [], []⟩) rfl
  | .f_law_start => c.t.d.def_ 19 (d := ⟨atOf .f_law_start, nmOf .f_law_start, quOf .f_law_start, defArgs st_f_law_start, defBody st_f_law_start, defScope st_f_law_start, [], []⟩) rfl
  | .f_law_drawn => c.t.d.def_ 20 (d := ⟨atOf .f_law_drawn, nmOf .f_law_drawn, quOf .f_law_drawn, defArgs st_f_law_drawn, defBody st_f_law_drawn, defScope st_f_law_drawn, [], []⟩) rfl
  | .f_law_leaf => c.t.d.def_ 21 (d := ⟨atOf .f_law_leaf, nmOf .f_law_leaf, quOf .f_law_leaf, defArgs st_f_law_leaf, defBody st_f_law_leaf, defScope st_f_law_leaf, [], []⟩) rfl
  | .f_law => c.t.d.def_ 22 (d := ⟨atOf .f_law, nmOf .f_law, quOf .f_law, defArgs st_f_law, defBody st_f_law, defScope st_f_law, [], []⟩) rfl
  | .Line_init => c.t.d.def_ 23 (d := ⟨atOf .Line_init, nmOf .Line_init, quOf .Line_init, defArgs st_Line_init, defBody st_Line_init, defScope st_Line_init, [], []⟩) rfl
  | .Line_field => c.t.d.def_ 24 (d := ⟨atOf .Line_field, nmOf .Line_field, quOf .Line_field, defArgs st_Line_field, defBody st_Line_field, defScope st_Line_field, [], []⟩) rfl
  | .State_init => c.t.d.def_ 25 (d := ⟨atOf .State_init, nmOf .State_init, quOf .State_init, defArgs st_State_init, defBody st_State_init, defScope st_State_init, [], []⟩) rfl
  | .State_need => c.t.d.def_ 26 (d := ⟨atOf .State_need, nmOf .State_need, quOf .State_need, defArgs st_State_need, defBody st_State_need, defScope st_State_need, [], []⟩) rfl
  | .State_taken => c.t.d.def_ 27 (d := ⟨atOf .State_taken, nmOf .State_taken, quOf .State_taken, defArgs st_State_taken, defBody st_State_taken, defScope st_State_taken, [], []⟩) rfl
  | .State_bare => c.t.d.def_ 28 (d := ⟨atOf .State_bare, nmOf .State_bare, quOf .State_bare, defArgs st_State_bare, defBody st_State_bare, defScope st_State_bare, [], []⟩) rfl
  | .State_entry => c.t.d.def_ 29 (d := ⟨atOf .State_entry, nmOf .State_entry, quOf .State_entry, defArgs st_State_entry, defBody st_State_entry, defScope st_State_entry, [], []⟩) rfl
  | .State_put => c.t.d.def_ 30 (d := ⟨atOf .State_put, nmOf .State_put, quOf .State_put, defArgs st_State_put, defBody st_State_put, defScope st_State_put, [], []⟩) rfl
  | .State_drop => c.t.d.def_ 31 (d := ⟨atOf .State_drop, nmOf .State_drop, quOf .State_drop, defArgs st_State_drop, defBody st_State_drop, defScope st_State_drop, [], []⟩) rfl
  | .Looker_init => c.t.d.def_ 32 (d := ⟨atOf .Looker_init, nmOf .Looker_init, quOf .Looker_init, defArgs st_Looker_init, defBody st_Looker_init, defScope st_Looker_init, [], []⟩) rfl
  | .Looker_need => c.t.d.def_ 33 (d := ⟨atOf .Looker_need, nmOf .Looker_need, quOf .Looker_need, defArgs st_Looker_need, defBody st_Looker_need, defScope st_Looker_need, [], []⟩) rfl
  | .Looker_count => c.t.d.def_ 34 (d := ⟨atOf .Looker_count, nmOf .Looker_count, quOf .Looker_count, defArgs st_Looker_count, defBody st_Looker_count, defScope st_Looker_count, [], []⟩) rfl
  | .Looker_part => c.t.d.def_ 35 (d := ⟨atOf .Looker_part, nmOf .Looker_part, quOf .Looker_part, defArgs st_Looker_part, defBody st_Looker_part, defScope st_Looker_part, [], []⟩) rfl
  | .Looker_block => c.t.d.def_ 36 (d := ⟨atOf .Looker_block, nmOf .Looker_block, quOf .Looker_block, defArgs st_Looker_block, defBody st_Looker_block, defScope st_Looker_block, [], []⟩) rfl
  | .Looker_deed => c.t.d.def_ 37 (d := ⟨atOf .Looker_deed, nmOf .Looker_deed, quOf .Looker_deed, defArgs st_Looker_deed, defBody st_Looker_deed, defScope st_Looker_deed, [], []⟩) rfl
  | .Looker_rule => c.t.d.def_ 38 (d := ⟨atOf .Looker_rule, nmOf .Looker_rule, quOf .Looker_rule, defArgs st_Looker_rule, defBody st_Looker_rule, defScope st_Looker_rule, [], []⟩) rfl
  | .Desk_init => c.t.d.def_ 39 (d := ⟨atOf .Desk_init, nmOf .Desk_init, quOf .Desk_init, defArgs st_Desk_init, defBody st_Desk_init, defScope st_Desk_init, [], []⟩) rfl
  | .Desk_worth => c.t.d.def_ 40 (d := ⟨atOf .Desk_worth, nmOf .Desk_worth, quOf .Desk_worth, defArgs st_Desk_worth, defBody st_Desk_worth, defScope st_Desk_worth, [], []⟩) rfl
  | .Desk_both => c.t.d.def_ 41 (d := ⟨atOf .Desk_both, nmOf .Desk_both, quOf .Desk_both, defArgs st_Desk_both, defBody st_Desk_both, defScope st_Desk_both, [], []⟩) rfl
  | .Desk_single => c.t.d.def_ 42 (d := ⟨atOf .Desk_single, nmOf .Desk_single, quOf .Desk_single, defArgs st_Desk_single, defBody st_Desk_single, defScope st_Desk_single, [], []⟩) rfl
  | .Desk_block => c.t.d.def_ 43 (d := ⟨atOf .Desk_block, nmOf .Desk_block, quOf .Desk_block, defArgs st_Desk_block, defBody st_Desk_block, defScope st_Desk_block, [], []⟩) rfl
  | .Desk_deed => c.t.d.def_ 44 (d := ⟨atOf .Desk_deed, nmOf .Desk_deed, quOf .Desk_deed, defArgs st_Desk_deed, defBody st_Desk_deed, defScope st_Desk_deed, [], []⟩) rfl
  | .Desk_walk => c.t.d.def_ 45 (d := ⟨atOf .Desk_walk, nmOf .Desk_walk, quOf .Desk_walk, defArgs st_Desk_walk, defBody st_Desk_walk, defScope st_Desk_walk, [], []⟩) rfl
  | .Desk_do_all => c.t.d.def_ 46 (d := ⟨atOf .Desk_do_all, nmOf .Desk_do_all, quOf .Desk_do_all, defArgs st_Desk_do_all, defBody st_Desk_do_all, defScope st_Desk_do_all, [], []⟩) rfl
  | .Desk_begin => c.t.d.def_ 47 (d := ⟨atOf .Desk_begin, nmOf .Desk_begin, quOf .Desk_begin, defArgs st_Desk_begin, defBody st_Desk_begin, defScope st_Desk_begin, [], []⟩) rfl
  | .Desk_file => c.t.d.def_ 48 (d := ⟨atOf .Desk_file, nmOf .Desk_file, quOf .Desk_file, defArgs st_Desk_file, defBody st_Desk_file, defScope st_Desk_file, [], []⟩) rfl
  | .Desk_line => c.t.d.def_ 49 (d := ⟨atOf .Desk_line, nmOf .Desk_line, quOf .Desk_line, defArgs st_Desk_line, defBody st_Desk_line, defScope st_Desk_line, [], []⟩) rfl
  | .Desk_end => c.t.d.def_ 50 (d := ⟨atOf .Desk_end, nmOf .Desk_end, quOf .Desk_end, defArgs st_Desk_end, defBody st_Desk_end, defScope st_Desk_end, [], []⟩) rfl
theorem facts (X : K.In h) (Gm : h.Ns mainGlobals mg) (c : Says w h K) (N : Nat) :
    ∃ fd : FuncData, (∀ (s : Shared) (v : Value), BindsTo s fd ⟨[v], []⟩ [("_law_script", v)]) ∧ ∀ base : Heap, K.In base → base.Ns mainGlobals mg → FnOk P w K mg base (L2.CX P w) (N + 1) (ad K .f_law) fd ["_law_script"] (spM K (G K) (call N .f_law)) := by
  have FD : ∀ f : Fn, FDt K f ((fd_all c f).choose) := fun f => (fd_all c f).choose_spec
  have b := FunD.bindsA (ps := ["_law_script"]) (FD .f_law) fun _ _ _ _ _ _ us hl => match us, hl with | [_], _ => rfl
  exact ⟨_, fun s v => b s [v] rfl, fun base _ _ => (ok_all (tx_of X Gm c) FD N).1 .f_law⟩
end
end Wk07
open PySem PySem.W PySem.Calls PyProof.Rows
theorem PySem.Challenge.cw_linewright_k07_whole_numbers_of_a_ring_holds : PySem.Challenge.rw_linewright_k07_whole_numbers_of_a_ring.Holds := by
  w_on; o_law
  refine HandSHeadRun.head_any (r := OpenLaw.row PySem.Challenge.rw_linewright_k07_whole_numbers_of_a_ring) (q := view (OpenLaw.row PySem.Challenge.rw_linewright_k07_whole_numbers_of_a_ring).prog [64]) (H := Wk07.hk) (ob := Wk07.ob) (M := 6000) (loose := Wk07.names) (d := HandSHeadRun.topDef (OpenLaw.row PySem.Challenge.rw_linewright_k07_whole_numbers_of_a_ring).prog 64) (kwd := []) Wk07.ob_eq
    (by kernel_rfl) (fun s => by kernel_rfl) Wk07.run (by kernel_rfl) (by kernel_rfl) (by kernel_rfl) (by rfl) (by first | assumption | decide +kernel) (by decide +kernel) ⟨rfl, rfl, rfl, rfl, rfl, by decide +kernel⟩ ?hw ?hc
  case hw => w_witness2
  case hc =>
    refine Lw.walk_ofW (law := PySem.Challenge.rw_linewright_k07_whole_numbers_of_a_ring) (most := 63) (k := 100 + 1) (x := "_law_script") rfl (by decide) (by kernel_rfl) ⟨rfl, by decide, by decide⟩ ?F
    intro w mg fa h Y G hmg0
    obtain ⟨K, KX, c⟩ := Y
    have hmg : mg ("law" : PySem.Str) = some (.ref fa) := by
      have e : (HandSHeadRun.topDef (OpenLaw.row PySem.Challenge.rw_linewright_k07_whole_numbers_of_a_ring).prog 64).name = ("law" : PySem.Str) := by kernel_rfl
      rw [← e]
      exact hmg0
    obtain ⟨fd, hb, hF⟩ := Wk07.facts (P := (PySem.Challenge.rw_linewright_k07_whole_numbers_of_a_ring).prog) (w := w) KX G c 100
    have e := hmg.symm.trans ((Wk07.tx_of KX G c).g .f_law rfl)
    cases e
    exact ⟨K, fd, Lw.spM K (Wk07.G K) (Wk07.call 100 .f_law), KX, hb, fun H a ns hl hO hS => by
      obtain ⟨μ', e⟩ := Wk07.run_law ns hl
      exact Lw.sp_law e hO hS, hF⟩

