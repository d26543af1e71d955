import PyProof.Rows.All
import Wide.All
import OpenK.AllK
import Wide.FinOn
import HandS.ForMost
import HandS.Evl
import HandS.TupAny
import HandS.ForExc
import HandS.Lambda
import HandS.IsInst
import HandS.Wide
import HandS.Text
import HandS.Zip
import HandS.CallLocal
import HandS.TryOnly
import HandS.NoneIn
import KE.GoesEnum
import HandS.Style
import PyProof.Rows.ReprR
import HandS.HeadHook4
import HandS.HeadWalk
import HandS.NestedK
import HandS.Head0
import HandS.Head1
import HandS.Head2
import PySem.Challenge.RW_arcshapes_k33_whole_unit_steps_of_lines
set_option autoImplicit false
set_option Elab.async false
set_option linter.all false
set_option maxRecDepth 100000
set_option maxHeartbeats 4000000
/-! AX0: readings of the hand layer, told of data alone. A state tells each slot by what it holds; B is the part of the abstract heap that never changes again. -/
namespace AX
open PySem L2 Evl

/-- what a slot holds: nothing known, data, a list of its own (that may still grow), a def -/
inductive Sv where
  | un
  | d (x : PyData)
  | own (xs : List PyData)
  | fn (f : Addr)
  | tab (P : Addr) (q : Str)
abbrev AS := List Sv
/-- what may change: a list of one's own, a table of code objects -/
def isO : Sv → Bool
  | .own _ => true
  | .tab _ _ => true
  | _ => false
/-- how a step ends: a value and the slots; an error by its class's name; nothing said -/
inductive R (α : Type) where
  | ok (a : α) (s : AS)
  | ex (c : Str) (s : AS)
  | no
def R.bind {α β : Type} (r : R α) (k : α → AS → R β) : R β := match r with
  | .ok a s => k a s
  | .ex c s => .ex c s
  | .no => .no
def lift {α : Type} (o : Option α) (s : AS) : R α := match o with
  | some a => .ok a s
  | none => .no
@[simp] theorem bind_ok {α β : Type} (a : α) (s : AS) (k : α → AS → R β) : (R.ok a s).bind k = k a s := rfl
@[simp] theorem bind_ex {α β : Type} (c : Str) (s : AS) (k : α → AS → R β) : (R.ex c s).bind k = .ex c s := rfl
@[simp] theorem bind_no {α β : Type} (k : α → AS → R β) : (R.no : R α).bind k = .no := rfl
@[simp] theorem lift_some {α : Type} (a : α) (s : AS) : lift (some a) s = .ok a s := rfl
@[simp] theorem lift_none {α : Type} (s : AS) : lift (none : Option α) s = .no := rfl

mutual
theorem dp_mono {K : PySem.W.Frag} {B B2 : Hp} (e : Ex B B2) : ∀ {v : V} {d : PyData}, Dp K B v d → Dp K B2 v d
  | _, _, .non => .non
  | _, _, .bl b => .bl b
  | _, _, .int i => .int i
  | _, _, .str x => .str x
  | _, _, .lst h1 h2 => .lst (ex_l e h1) (dpa_mono e h2)
  | _, _, .tup h1 h2 => .tup (ex_t e h1) (dpa_mono e h2)
theorem dpa_mono {K : PySem.W.Frag} {B B2 : Hp} (e : Ex B B2) : ∀ {vs : List V} {ds : List PyData}, DpAll K B vs ds → DpAll K B2 vs ds
  | _, _, .nil => .nil
  | _, _, .cons h1 h2 => .cons (dp_mono e h1) (dpa_mono e h2)
end
theorem dpa_len {K : PySem.W.Frag} {B : Hp} : ∀ {vs : List V} {ds : List PyData}, DpAll K B vs ds → vs.length = ds.length
  | _, _, .nil => rfl
  | _, _, .cons _ h => by simp [dpa_len h]
theorem dpa_get {K : PySem.W.Frag} {B : Hp} : ∀ {vs : List V} {ds : List PyData} {i : Nat} {d : PyData}, DpAll K B vs ds → ds[i]? = some d → ∃ v, vs[i]? = some v ∧ Dp K B v d
  | _, _, _, _, .nil, e => by simp at e
  | _, _, 0, _, .cons h _, e => by simp at e; subst e; exact ⟨_, rfl, h⟩
  | _, _, i + 1, d, .cons _ h, e => by
    obtain ⟨v, h1, h2⟩ := dpa_get (i := i) (d := d) h (by simpa using e)
    exact ⟨v, by simpa using h1, h2⟩
theorem dpa_app {K : PySem.W.Frag} {B : Hp} : ∀ {vs ws : List V} {ds es : List PyData}, DpAll K B vs ds → DpAll K B ws es → DpAll K B (vs ++ ws) (ds ++ es)
  | _, _, _, _, .nil, h => h
  | _, _, _, _, .cons h1 h2, h => .cons h1 (dpa_app h2 h)
theorem dpa_take {K : PySem.W.Frag} {B : Hp} : ∀ {vs : List V} {ds : List PyData} (n : Nat), DpAll K B vs ds → DpAll K B (vs.take n) (ds.take n)
  | _, _, 0, _ => .nil
  | _, _, _ + 1, .nil => .nil
  | _, _, n + 1, .cons h1 h2 => .cons h1 (dpa_take n h2)
theorem dpa_drop {K : PySem.W.Frag} {B : Hp} : ∀ {vs : List V} {ds : List PyData} (n : Nat), DpAll K B vs ds → DpAll K B (vs.drop n) (ds.drop n)
  | _, _, 0, h => h
  | _, _, _ + 1, .nil => .nil
  | _, _, n + 1, .cons _ h2 => dpa_drop n h2
theorem dpa_set {K : PySem.W.Frag} {B : Hp} {v : V} {d : PyData} (h : Dp K B v d) : ∀ {vs : List V} {ds : List PyData} (n : Nat), DpAll K B vs ds → DpAll K B (vs.set n v) (ds.set n d)
  | _, _, 0, .cons _ h2 => .cons h h2
  | _, _, n + 1, .cons h1 h2 => .cons h1 (dpa_set h n h2)
  | _, _, _, .nil => .nil
theorem dpa_rev {K : PySem.W.Frag} {B : Hp} : ∀ {vs : List V} {ds : List PyData}, DpAll K B vs ds → DpAll K B vs.reverse ds.reverse
  | _, _, .nil => .nil
  | _, _, .cons h1 h2 => by
    rw [List.reverse_cons, List.reverse_cons]
    exact dpa_app (dpa_rev h2) (.cons h1 .nil)

/-! ### states -/
def SvAt (K : PySem.W.Frag) (B H : Hp) : Sv → Option V → Prop
  | .un, _ => True
  | .d x, o => ∃ v, o = some v ∧ Dp K B v x
  | .own xs, o => ∃ p vs, o = some (.ref p) ∧ H p = some (.lst vs) ∧ B p = none ∧ DpAll K B vs xs
  | .fn f, o => o = some (.ref f)
  | .tab p q, o => o = some (.ref p) ∧ LamX.TabS H p q ∧ B p = none
structure Rep (K : PySem.W.Frag) (B H : Hp) (σ : L2.St) (ss : AS) : Prop where
  ex : Ex B H
  len : ss.length = σ.length
  sv : ∀ (i : Nat) (s : Sv) (o : Option V), ss[i]? = some s → σ[i]? = some o → SvAt K B H s o
  dj : ∀ (i j : Nat) (p : Addr) (s t : Sv), ss[i]? = some s → ss[j]? = some t → isO s = true → isO t = true → σ[i]? = some (some (.ref p)) → σ[j]? = some (some (.ref p)) → i = j
/-- the addresses of a state's own lists -/
def Own (σ : L2.St) (ss : AS) (a : Addr) : Prop := ∃ (i : Nat) (s : Sv), ss[i]? = some s ∧ isO s = true ∧ σ[i]? = some (some (.ref a))
/-- from state to state -/
structure Go (m : Nat) (B H : Hp) (σ : L2.St) (ss : AS) (B2 H2 : Hp) (σ2 : L2.St) (s2 : AS) : Prop where
  b : Ex B B2
  keep : ∀ a o, H a = some o → ¬ Own σ ss a → H2 a = some o
  live : ∀ a, H a ≠ none → H2 a ≠ none
  sep : ∀ a, B a = none → H a ≠ none → ¬ Own σ ss a → B2 a = none
  own : ∀ a, Own σ2 s2 a → Own σ ss a ∨ H a = none
  fix : ∀ (i : Nat), i < m → σ2[i]? = σ[i]?
/-- new objects alone -/
structure Gn (B H B2 H2 : Hp) : Prop where
  b : Ex B B2
  h : Ex H H2
  bh : Ex B2 H2
  sep : ∀ a, B a = none → H a ≠ none → B2 a = none
section
variable {K : PySem.W.Frag} {B H B1 H1 B2 H2 B3 H3 : Hp} {σ σ1 σ2 σ3 : L2.St} {ss s1 s2 s3 : AS} {m : Nat}
theorem Go.refl : Go m B H σ ss B H σ ss := ⟨Ex.refl _, fun _ _ h _ => h, fun _ h => h, fun _ h _ _ => h, fun _ h => .inl h, fun _ _ => rfl⟩
theorem Go.trans (g : Go m B H σ ss B1 H1 σ1 s1) (k : Go m B1 H1 σ1 s1 B2 H2 σ2 s2) : Go m B H σ ss B2 H2 σ2 s2 := by
  have no1 : ∀ a, H a ≠ none → ¬ Own σ ss a → ¬ Own σ1 s1 a := fun a h n q => by
    rcases g.own a q with q | q
    · exact n q
    · exact h q
  refine ⟨g.b.trans k.b, fun a o h n => k.keep a o (g.keep a o h n) (no1 a (by rw [h]; simp) n), fun a h => k.live a (g.live a h), fun a hb h n => k.sep a (g.sep a hb h n) (g.live a h) (no1 a h n), fun a q => ?_, fun i hi => (k.fix i hi).trans (g.fix i hi)⟩
  rcases k.own a q with q | q
  · exact g.own a q
  · cases e : H a with
    | none => exact .inr rfl
    | some o => exact absurd q (g.live a (by rw [e]; simp))
theorem Gn.refl (e : Ex B H) : Gn B H B H := ⟨Ex.refl _, Ex.refl _, e, fun _ h _ => h⟩
theorem Gn.trans (g : Gn B H B1 H1) (k : Gn B1 H1 B2 H2) : Gn B H B2 H2 := by
  refine ⟨g.b.trans k.b, g.h.trans k.h, k.bh, fun a hb h => k.sep a (g.sep a hb h) ?_⟩
  cases e : H a with
  | none => exact absurd e h
  | some o => rw [g.h a o e]; simp
theorem free_of (e : Ex B H) {p : Addr} (h : H p = none) : B p = none := fresh_back e h
theorem Gn.new (e : Ex B H) {p : Addr} {o : HO} (h : H p = none) : Gn B H (upd B p o) (upd H p o) := by
  refine ⟨Ex.new (free_of e h), Ex.new h, fun a u q => ?_, fun a hb ha => ?_⟩
  · by_cases c : a = p
    · subst c; rw [upd_same] at q ⊢; exact q
    · rw [upd_ne c] at q ⊢; exact e a u q
  · rw [upd_ne (fun c => ha (by rw [c]; exact h))]; exact hb
theorem Gn.go (g : Gn B H B2 H2) : Go m B H σ ss B2 H2 σ ss := by
  refine ⟨g.b, fun a o h _ => g.h a o h, fun a h => ?_, fun a hb h _ => g.sep a hb h, fun _ q => .inl q, fun _ _ => rfl⟩
  cases e : H a with
  | none => exact absurd e h
  | some o => rw [g.h a o e]; simp
theorem Rep.gn (R : Rep K B H σ ss) (g : Gn B H B2 H2) : Rep K B2 H2 σ ss := by
  refine ⟨g.bh, R.len, fun i s o e1 e2 => ?_, R.dj⟩
  have h := R.sv i s o e1 e2
  cases s with
  | un => trivial
  | d x => obtain ⟨v, e, q⟩ := h; exact ⟨v, e, dp_mono g.b q⟩
  | own xs => obtain ⟨p, vs, e, q1, q2, q3⟩ := h; exact ⟨p, vs, e, g.h p _ q1, g.sep p q2 (by rw [q1]; simp), dpa_mono g.b q3⟩
  | fn f => exact h
  | tab p q => obtain ⟨e, q1, q2⟩ := h; obtain ⟨ps, t1, _⟩ := id q1; exact ⟨e, q1.ext g.h, g.sep p q2 (by rw [t1]; simp)⟩
theorem Rep.own_free (R : Rep K B H σ ss) {a : Addr} (h : Own σ ss a) : H a ≠ none ∧ B a = none ∧ ((∃ vs, H a = some (.lst vs)) ∨ ∃ ps, H a = some (.tbl ps)) := by
  obtain ⟨i, s, e1, es, e2⟩ := h
  have z := R.sv i _ _ e1 e2
  cases s with
  | un => cases es
  | d x => cases es
  | fn f => cases es
  | own xs =>
    obtain ⟨p, vs, e, q1, q2, _⟩ := z
    cases e
    exact ⟨by rw [q1]; simp, q2, .inl ⟨_, q1⟩⟩
  | tab p q =>
    obtain ⟨e, ⟨ps, t1, _⟩, q2⟩ := z
    cases e
    exact ⟨by rw [t1]; simp, q2, .inr ⟨_, t1⟩⟩
/-- a table stays where nothing but lists changes -/
theorem tab_stays {H H' : Hp} {P : Addr} {q : Str} (t : LamX.TabS H P q) (k : ∀ a o, H a = some o → (∀ vs, o ≠ .lst vs) → H' a = some o) : LamX.TabS H' P q := by
  obtain ⟨ps, h1, h2, h3⟩ := t
  refine ⟨ps, k P _ h1 (fun vs c => by cases c), h2, fun pos cv hc => ?_⟩
  obtain ⟨c, e1, e2⟩ := h3 pos cv hc
  exact ⟨c, e1, k c _ e2 fun vs c => by unfold LamX.CodeO at c; cases c⟩
end

/-! ### what is got -/
section
variable (K : PySem.W.Frag) (mg : Str → Option Value) (W : WX)
def Gets {α β : Type} (σ : L2.St) (B H : Hp) (ss : AS) (rel : AS → Hp → Hp → β → α → Prop) (r : R α) (Q : β → Hp → Prop) : Prop := match r with
  | .ok d s2 => ∀ v B2 H2, Go 0 B H σ ss B2 H2 σ s2 → Rep K B2 H2 σ s2 → rel s2 B2 H2 v d → Q v H2
  | .ex c s2 => ∀ u B2 H2, mg c = some u → Go 0 B H σ ss B2 H2 σ s2 → Rep K B2 H2 σ s2 → W u none σ H2
  | .no => False
/-- an expression's reading gives data -/
def EvR (t : TE) (r : AS → R PyData) : Prop := ∀ (σ : L2.St) (B H : Hp) (ss : AS) (Q : VK), Rep K B H σ ss → Gets K mg W σ B H ss (fun _ B2 _ v d => Dp K B2 v d) (r ss) Q → t σ H Q
/-- a test's -/
def EvB (t : TT) (r : AS → R Bool) : Prop := ∀ (σ : L2.St) (B H : Hp) (ss : AS) (Q : Bool → Hp → Prop), Rep K B H σ ss → Gets K mg W σ B H ss (fun _ _ _ v d => v = d) (r ss) Q → t σ H Q
/-- an argument list's -/
def EvL (t : TA) (r : AS → R (List PyData)) : Prop := ∀ (σ : L2.St) (B H : Hp) (ss : AS) (Q : List V → Hp → Prop), Rep K B H σ ss → Gets K mg W σ B H ss (fun _ B2 _ v d => DpAll K B2 v d) (r ss) Q → t σ H Q
end
section
variable {K : PySem.W.Frag} {mg : Str → Option Value} {W : WX} {B H B1 H1 : Hp} {σ : L2.St} {ss s1 : AS}
theorem Gets.after {α β : Type} {rel : AS → Hp → Hp → β → α → Prop} {r : R α} {Q : β → Hp → Prop} (g : Go 0 B H σ ss B1 H1 σ s1) (h : Gets K mg W σ B H ss rel r Q) : Gets K mg W σ B1 H1 s1 rel r Q := by
  cases r with
  | ok d s2 => exact fun v B2 H2 k R q => h v B2 H2 (g.trans k) R q
  | ex c s2 => exact fun u B2 H2 e k R => h u B2 H2 e (g.trans k) R
  | no => exact h
theorem gets_bind {α β γ δ : Type} {rel1 : AS → Hp → Hp → β → α → Prop} {rel2 : AS → Hp → Hp → δ → γ → Prop} {r : R α} {k : α → AS → R γ} {Q : δ → Hp → Prop} {Q1 : β → Hp → Prop}
    (h : Gets K mg W σ B H ss rel2 (r.bind k) Q)
    (st : ∀ a s1 v B1 H1, r = .ok a s1 → Go 0 B H σ ss B1 H1 σ s1 → Rep K B1 H1 σ s1 → rel1 s1 B1 H1 v a → Gets K mg W σ B1 H1 s1 rel2 (k a s1) Q → Q1 v H1) : Gets K mg W σ B H ss rel1 r Q1 := by
  cases r with
  | ok a s1 => exact fun v B1 H1 g R q => st a s1 v B1 H1 rfl g R q (Gets.after g h)
  | ex c s1 => exact h
  | no => exact h
theorem gets_lift {α β : Type} {rel : AS → Hp → Hp → β → α → Prop} {o : Option α} {Q : β → Hp → Prop} (R : Rep K B H σ ss) (h : Gets K mg W σ B H ss rel (lift o ss) Q) :
    ∃ a, o = some a ∧ ∀ v B2 H2, Gn B H B2 H2 → rel ss B2 H2 v a → Q v H2 := by
  cases o with
  | none => exact h.elim
  | some a => exact ⟨a, rfl, fun v B2 H2 g q => h v B2 H2 g.go (R.gn g) q⟩
theorem gets_ok {α β : Type} {rel : AS → Hp → Hp → β → α → Prop} {a : α} {Q : β → Hp → Prop} (R : Rep K B H σ ss) (h : Gets K mg W σ B H ss rel (.ok a ss) Q) : ∀ v B2 H2, Gn B H B2 H2 → rel ss B2 H2 v a → Q v H2 :=
  fun v B2 H2 g q => h v B2 H2 g.go (R.gn g) q

/-! ### names, constants -/
def eC (d : PyData) : AS → R PyData := fun ss => .ok d ss
theorem er_c {v : V} {d : PyData} (h : ∀ B, Dp K B v d) : EvR K mg W (tC v) (eC d) := fun σ B H ss Q R g => gets_ok R g v B H (Gn.refl R.ex) (h B)
theorem er_int {i : Int} : EvR K mg W (tC (.int i)) (eC (.int i)) := er_c fun _ => .int i
theorem er_str {x : Str} : EvR K mg W (tC (.str x)) (eC (.str x)) := er_c fun _ => .str x
theorem er_bl {b : Bool} : EvR K mg W (tC (.bl b)) (eC (.bool b)) := er_c fun _ => .bl b
theorem er_non : EvR K mg W (tC .non) (eC .none) := er_c fun _ => .non
/-- a name: data as it is; an own list is frozen -/
def eV (i : Nat) : AS → R PyData := fun ss => match ss[i]? with
  | some (.d x) => .ok x ss
  | some (.own xs) => .ok (.list xs) (ss.set i (.d (.list xs)))
  | _ => .no
theorem get_of_len {i : Nat} {s : Sv} (R : Rep K B H σ ss) (h : ss[i]? = some s) : ∃ o, σ[i]? = some o := by
  have h1 : i < ss.length := by
    rcases Nat.lt_or_ge i ss.length with h1 | h1
    · exact h1
    · rw [List.getElem?_eq_none h1] at h; cases h
  rw [R.len] at h1
  exact ⟨_, List.getElem?_eq_getElem h1⟩
theorem Rep.data {i : Nat} {x : PyData} (R : Rep K B H σ ss) (h : ss[i]? = some (.d x)) : ∃ v, σ[i]? = some (some v) ∧ Dp K B v x := by
  obtain ⟨o, ho⟩ := get_of_len R h
  obtain ⟨v, e, q⟩ := R.sv i _ o h ho
  subst e
  exact ⟨v, ho, q⟩
theorem Rep.mine {i : Nat} {xs : List PyData} (R : Rep K B H σ ss) (h : ss[i]? = some (.own xs)) : ∃ p vs, σ[i]? = some (some (.ref p)) ∧ H p = some (.lst vs) ∧ B p = none ∧ DpAll K B vs xs := by
  obtain ⟨o, ho⟩ := get_of_len R h
  obtain ⟨p, vs, e, q⟩ := R.sv i _ o h ho
  subst e
  exact ⟨p, vs, ho, q⟩
theorem set_get_some {l : AS} {i j : Nat} {x y : Sv} (h : (l.set i x)[j]? = some y) : (j = i ∧ y = x ∧ i < l.length) ∨ (j ≠ i ∧ l[j]? = some y) := by
  by_cases c : j = i
  · subst c
    left
    rw [List.getElem?_set] at h
    simp at h
    exact ⟨rfl, h.2.symm, h.1⟩
  · right
    rw [List.getElem?_set_ne (fun q => c q.symm)] at h
    exact ⟨c, h⟩
/-- an own list is made part of what never changes -/
theorem Rep.freeze {m i : Nat} {xs : List PyData} {p : Addr} {vs : List V} (R : Rep K B H σ ss) (h : ss[i]? = some (.own xs)) (hp : σ[i]? = some (some (.ref p))) (hH : H p = some (.lst vs)) (hB : B p = none) (hd : DpAll K B vs xs) :
    Go m B H σ ss (upd B p (.lst vs)) H σ (ss.set i (.d (.list xs))) ∧ Rep K (upd B p (.lst vs)) H σ (ss.set i (.d (.list xs))) := by
  have eb : Ex B (upd B p (.lst vs)) := Ex.new hB
  have np : ∀ a, ¬ Own σ ss a → a ≠ p := fun a n c => n ⟨i, _, h, rfl, by rw [c]; exact hp⟩
  have bk : ∀ (j : Nat) (s : Sv), (ss.set i (Sv.d (.list xs)))[j]? = some s → isO s = true → j ≠ i ∧ ss[j]? = some s := fun j s e o => by
    rcases set_get_some e with ⟨_, c, _⟩ | c
    · subst c; cases o
    · exact c
  refine ⟨⟨eb, fun _ _ q _ => q, fun _ q => q, fun a q _ n => by rw [upd_ne (np a n)]; exact q, fun a ⟨j, s, e1, e2, e3⟩ => .inl ⟨j, s, (bk j s e1 e2).2, e2, e3⟩, fun _ _ => rfl⟩,
    ⟨fun a o q => ?_, by rw [List.length_set]; exact R.len, fun j s o e1 e2 => ?_, fun j k q s t e1 e2 o1 o2 e3 e4 => R.dj j k q s t (bk j s e1 o1).2 (bk k t e2 o2).2 o1 o2 e3 e4⟩⟩
  · by_cases c : a = p
    · subst c; rw [upd_same] at q; cases q; exact hH
    · rw [upd_ne c] at q; exact R.ex a o q
  · rcases set_get_some e1 with ⟨c1, c2, _⟩ | ⟨c1, c2⟩
    · subst c1; subst c2
      rw [hp] at e2; cases e2
      exact ⟨_, rfl, .lst (sq_of upd_same) (dpa_mono eb hd)⟩
    · have z := R.sv j s o c2 e2
      have ne : ∀ {q : Addr}, isO s = true → o = some (.ref q) → q ≠ p := fun {q} os eo c => by
        subst c; subst eo
        exact c1 (R.dj j i _ s _ c2 h os rfl e2 hp)
      cases s with
      | un => trivial
      | d x => obtain ⟨v, e, q⟩ := z; exact ⟨v, e, dp_mono eb q⟩
      | own ys => obtain ⟨p2, ws, e, q1, q2, q3⟩ := z; exact ⟨p2, ws, e, q1, by rw [upd_ne (ne rfl e)]; exact q2, dpa_mono eb q3⟩
      | fn f => exact z
      | tab p2 t => obtain ⟨e, q1, q2⟩ := z; exact ⟨e, q1, by rw [upd_ne (ne rfl e)]; exact q2⟩
theorem er_var {i : Nat} : EvR K mg W (tVar i) (eV i) := fun σ B H ss Q R g => by
  unfold eV at g
  split at g
  · rename_i x h
    obtain ⟨v, e, q⟩ := R.data h
    exact ⟨v, e, gets_ok R g v B H (Gn.refl R.ex) q⟩
  · rename_i xs h
    obtain ⟨p, vs, e, q1, q2, q3⟩ := R.mine h
    obtain ⟨g1, R1⟩ := R.freeze (m := 0) h e q1 q2 q3
    exact ⟨_, e, g _ _ _ g1 R1 (.lst (sq_of upd_same) (dpa_mono (Ex.new q2) q3))⟩
  · exact g.elim
end
end AX

/-! AX1: operators, tests, displays, built-ins, told of data -/
namespace AX
open PySem L2 Evl
section
variable {K : PySem.W.Frag} {mg : Str → Option Value} {W : WX} {B H B1 H1 : Hp} {σ : L2.St} {ss s1 : AS}

/-! ### operators by values -/
def rOr (r s : R2) : R2 := fun x y H Q => r x y H Q ∨ s x y H Q
theorem op_or2 {X : Cx} {f : Value → Value → Sem Value} {r s : R2} (h : OpR X f r) (k : OpR X f s) : OpR X f (rOr r s) := fun pins s' σ H x y v u Q I rx ry q =>
  q.elim (fun q => h pins s' σ H x y v u Q I rx ry q) (fun q => k pins s' σ H x y v u Q I rx ry q)
def OpOk (K : PySem.W.Frag) (r : R2) (g : PyData → PyData → Option PyData) : Prop := ∀ (B H : Hp) (x y : V) (d e z : PyData) (Q : VK), Ex B H → Dp K B x d → Dp K B y e → g d e = some z →
  (∀ v B2 H2, Gn B H B2 H2 → Dp K B2 v z → Q v H2) → r x y H Q
def eOp (g : PyData → PyData → Option PyData) (ra rb : AS → R PyData) : AS → R PyData := fun ss => (ra ss).bind fun a s1 => (rb s1).bind fun b s2 => lift (g a b) s2
theorem er_op {ta tb : TE} {r : R2} {g : PyData → PyData → Option PyData} {ra rb : AS → R PyData} (o : OpOk K r g) (ha : EvR K mg W ta ra) (hb : EvR K mg W tb rb) : EvR K mg W (tOp r ta tb) (eOp g ra rb) := fun σ B H ss Q R h =>
  ha σ B H ss _ R (gets_bind h fun a s1 v B1 H1 _ _ R1 d1 h1 => hb σ B1 H1 s1 _ R1 (gets_bind h1 fun b s2 w B2 H2 _ g2 R2 d2 h2 => by
    obtain ⟨z, hz, q⟩ := gets_lift R2 h2
    exact o B2 H2 v w a b z Q R2.ex (dp_mono g2.b d1) d2 hz q))
def eUn (g : PyData → Option PyData) (ra : AS → R PyData) : AS → R PyData := fun ss => (ra ss).bind fun a s1 => lift (g a) s1
def UnOk (K : PySem.W.Frag) (r : V → Hp → VK → Prop) (g : PyData → Option PyData) : Prop := ∀ (B H : Hp) (x : V) (d z : PyData) (Q : VK), Ex B H → Dp K B x d → g d = some z → (∀ v B2 H2, Gn B H B2 H2 → Dp K B2 v z → Q v H2) → r x H Q
theorem er_un {ta : TE} {r : V → Hp → VK → Prop} {g : PyData → Option PyData} {ra : AS → R PyData} (o : UnOk K r g) (ha : EvR K mg W ta ra) : EvR K mg W (tUn r ta) (eUn g ra) := fun σ B H ss Q R h =>
  ha σ B H ss _ R (gets_bind h fun a s1 v B1 H1 _ _ R1 d1 h1 => by
    obtain ⟨z, hz, q⟩ := gets_lift R1 h1
    exact o B1 H1 v a z Q R1.ex d1 hz q)
/-- two ints -/
def pyI (C : Int → Int → Bool) (g : Int → Int → PyData) : PyData → PyData → Option PyData
  | .int i, .int j => if C i j then some (g i j) else none
  | _, _ => none
theorem pyI_some {C : Int → Int → Bool} {g : Int → Int → PyData} {d e z : PyData} (h : pyI C g d e = some z) : ∃ i j, d = .int i ∧ e = .int j ∧ C i j = true ∧ z = g i j := by
  unfold pyI at h
  split at h
  · rename_i i j
    split at h
    · rename_i c; cases h; exact ⟨i, j, rfl, rfl, c, rfl⟩
    · cases h
  · cases h
theorem ok_I {C : Int → Int → Prop} {Cb : Int → Int → Bool} {g : Int → Int → V} {gd : Int → Int → PyData} (hc : ∀ i j, Cb i j = true → C i j) (hg : ∀ B i j, Dp K B (g i j) (gd i j)) : OpOk K (rI C g) (pyI Cb gd) := fun B H x y d e z Q eb h1 h2 hz k => by
  obtain ⟨i, j, rfl, rfl, c, rfl⟩ := pyI_some hz
  cases h1; cases h2
  exact ⟨i, j, rfl, rfl, hc i j c, k _ B H (Gn.refl eb) (hg B i j)⟩
theorem ok_I0 {g : Int → Int → V} {gd : Int → Int → PyData} (hg : ∀ B i j, Dp K B (g i j) (gd i j)) : OpOk K (rI0 g) (pyI (fun _ _ => true) gd) := fun B H x y d e z Q eb h1 h2 hz k => by
  obtain ⟨i, j, rfl, rfl, c, rfl⟩ := pyI_some hz
  cases h1; cases h2
  exact ⟨i, j, rfl, rfl, k _ B H (Gn.refl eb) (hg B i j)⟩
/-! #### + -/
def rAddS : R2 := fun x y H Q => ∃ i j, x = .str i ∧ y = .str j ∧ i.length + j.length ≤ sizeLine ∧ Q (.str (i ++ j)) H
def rAddP (K : PySem.W.Frag) : R2 := rOr (rI0 fun i j => .int (i + j)) (rOr rAddS (rCatA K))
theorem op_addP {X : Cx} : OpR X (binaryOp .Add) (rAddP X.K) := op_or2 op_add (op_or2 op_add_str op_catA)
def pyAdd : PyData → PyData → Option PyData
  | .int i, .int j => some (.int (i + j))
  | .str i, .str j => if i.length + j.length ≤ sizeLine then some (.str (i ++ j)) else none
  | .tuple xs, .tuple ys => if xs.length + ys.length ≤ sizeLine then some (.tuple (xs ++ ys)) else none
  | _, _ => none
theorem ok_add : OpOk K (rAddP K) pyAdd := fun B H x y d e z Q eb h1 h2 hz k => by
  unfold pyAdd at hz
  split at hz
  · cases hz; cases h1; cases h2
    exact .inl ⟨_, _, rfl, rfl, k _ B H (Gn.refl eb) (.int _)⟩
  · split at hz
    · rename_i c; cases hz; cases h1; cases h2
      exact .inr (.inl ⟨_, _, rfl, rfl, c, k _ B H (Gn.refl eb) (.str _)⟩)
    · cases hz
  · split at hz
    · rename_i c; cases hz
      cases h1 with
      | tup s1 a1 =>
        cases h2 with
        | tup s2 a2 =>
          rename_i a xs b ys
          refine .inr (.inr ⟨a, b, xs, ys, rfl, rfl, ex_t eb s1, ex_t eb s2, by rw [dpa_len a1, dpa_len a2]; exact c, fun q => ?_, fun _ q => ?_, fun _ _ p hp => ?_⟩)
          · subst q; cases a1
            exact k _ B H (Gn.refl eb) (.tup s2 a2)
          · subst q; cases a2
            rw [List.append_nil] at k
            exact k _ B H (Gn.refl eb) (.tup s1 a1)
          · have g := Gn.new (o := .tup (xs ++ ys)) eb hp
            exact k _ _ _ g (.tup (st_of upd_same) (dpa_app (dpa_mono g.b a1) (dpa_mono g.b a2)))
    · cases hz
  · cases hz
/-! #### the other operators of ints -/
def pySub := pyI (fun _ _ => true) fun i j => .int (i - j)
def pyMul := pyI (fun i j => decide (i.natAbs.log2 + j.natAbs.log2 < 1000000)) fun i j => .int (i * j)
def pyDiv := pyI (fun _ j => decide (0 < j ∧ j.natAbs.log2 < 9000)) fun i j => .int (i / j)
def pyMod := pyI (fun _ j => decide (0 < j)) fun i j => .int (i % j)
def pyPow := pyI (fun i j => decide (0 ≤ j ∧ j ≤ 1000000 ∧ i.natAbs < 2 ^ 64)) fun i j => .int (i ^ j.toNat)
def pyLt := pyI (fun _ _ => true) fun i j => .bool (decide (i < j))
def pyLe := pyI (fun _ _ => true) fun i j => .bool (decide (i ≤ j))
def pyGt := pyI (fun _ _ => true) fun i j => .bool (decide (j < i))
def pyGe := pyI (fun _ _ => true) fun i j => .bool (decide (j ≤ i))
theorem ok_sub : OpOk K (rI0 fun i j => .int (i - j)) pySub := ok_I0 fun _ _ _ => .int _
theorem ok_mul : OpOk K (rI CMulW fun i j => .int (i * j)) pyMul := ok_I (fun i j h => by unfold CMulW; exact of_decide_eq_true h) fun _ _ _ => .int _
theorem ok_div : OpOk K (rI CDivW fun i j => .int (i / j)) pyDiv := ok_I (fun i j h => by unfold CDivW; exact of_decide_eq_true h) fun _ _ _ => .int _
theorem ok_mod : OpOk K (rI (fun _ j => 0 < j) fun i j => .int (i % j)) pyMod := ok_I (fun i j h => of_decide_eq_true h) fun _ _ _ => .int _
theorem ok_pow : OpOk K (rI CPow fun i j => .int (i ^ j.toNat)) pyPow := ok_I (fun i j h => by unfold CPow; exact of_decide_eq_true h) fun _ _ _ => .int _
theorem ok_lt : OpOk K (rI0 fun i j => .bl (decide (i < j))) pyLt := ok_I0 fun _ _ _ => .bl _
theorem ok_le : OpOk K (rI0 fun i j => .bl (decide (i ≤ j))) pyLe := ok_I0 fun _ _ _ => .bl _
theorem ok_gt : OpOk K (rI0 fun i j => .bl (decide (j < i))) pyGt := ok_I0 fun _ _ _ => .bl _
theorem ok_ge : OpOk K (rI0 fun i j => .bl (decide (j ≤ i))) pyGe := ok_I0 fun _ _ _ => .bl _
def pyNeg : PyData → Option PyData
  | .int i => some (.int (-i))
  | _ => none
theorem ok_neg : UnOk K (rU fun i => .int (-i)) pyNeg := fun B H x d z Q eb h1 hz k => by
  unfold pyNeg at hz
  split at hz
  · cases hz; cases h1; exact ⟨_, rfl, k _ B H (Gn.refl eb) (.int _)⟩
  · cases hz
/-! #### == and its kin -/
def pyEq (d e : PyData) : Option PyData := if SeqAt.shaped d && SeqAt.shaped e then some (.bool (PyData.eqv d e)) else none
def pyNe (d e : PyData) : Option PyData := if SeqAt.shaped d && SeqAt.shaped e then some (.bool (!PyData.eqv d e)) else none
theorem ok_eq : OpOk K (rEqD K) pyEq := fun B H x y d e z Q eb h1 h2 hz k => by
  unfold pyEq at hz
  split at hz
  · rename_i c; cases hz
    rw [Bool.and_eq_true] at c
    exact ⟨d, e, dp_mono eb h1, dp_mono eb h2, c.1, c.2, k _ B H (Gn.refl eb) (.bl _)⟩
  · cases hz
theorem ok_ne : OpOk K (rNeD K) pyNe := fun B H x y d e z Q eb h1 h2 hz k => by
  unfold pyNe at hz
  split at hz
  · rename_i c; cases hz
    rw [Bool.and_eq_true] at c
    exact ⟨d, e, dp_mono eb h1, dp_mono eb h2, c.1, c.2, k _ B H (Gn.refl eb) (.bl _)⟩
  · cases hz
/-! #### places -/
theorem atI_dpa {vs : List V} {ds : List PyData} {i : Int} {d : PyData} (h : DpAll K B vs ds) (e : atI ds i = some d) : ∃ v, atI vs i = some v ∧ Dp K B v d := by
  unfold atI at e ⊢
  rw [dpa_len h]
  cases q : ixN ds.length i with
  | none => rw [q] at e; cases e
  | some j =>
    rw [q] at e
    exact dpa_get h e
def pyIdx : PyData → PyData → Option PyData
  | .list xs, .int i => atI xs i
  | .tuple xs, .int i => atI xs i
  | .str z, .int i => if z.length ≤ sizeLine then (atI z.cps.toList i).map fun c => .str ⟨#[c]⟩ else none
  | _, _ => none
theorem ok_idx : OpOk K (rIx K) pyIdx := fun B H x y d e z Q eb h1 h2 hz k => by
  unfold pyIdx at hz
  split at hz
  · cases h2
    cases h1 with
    | lst s1 a1 =>
      obtain ⟨v, e1, e2⟩ := atI_dpa a1 hz
      exact .inl ⟨_, _, _, _, rfl, rfl, ex_l eb s1, e1, k _ B H (Gn.refl eb) e2⟩
  · cases h2
    cases h1 with
    | tup s1 a1 =>
      obtain ⟨v, e1, e2⟩ := atI_dpa a1 hz
      exact .inr (.inl ⟨_, _, _, _, rfl, rfl, ex_t eb s1, e1, k _ B H (Gn.refl eb) e2⟩)
  · cases h2; cases h1
    split at hz
    · rename_i zz i c
      cases q : atI zz.cps.toList i with
      | none => rw [q] at hz; cases hz
      | some c2 =>
        rw [q] at hz; cases hz
        exact .inr (.inr ⟨_, _, _, rfl, rfl, c, q, k _ B H (Gn.refl eb) (.str _)⟩)
    · cases hz
  · cases hz

/-! ### tests -/
def asB : PyData → Option Bool
  | .bool b => some b
  | _ => none
def bB (r : AS → R PyData) : AS → R Bool := fun ss => (r ss).bind fun d s => lift (asB d) s
theorem asB_dp {v : V} {d : PyData} {b : Bool} (h : Dp K B v d) (e : asB d = some b) : v = .bl b := by
  unfold asB at e
  split at e
  · cases e; cases h; rfl
  · cases e
theorem eb_B {te : TE} {r : AS → R PyData} (h : EvR K mg W te r) : EvB K mg W (tB te) (bB r) := fun σ B H ss Q R g =>
  h σ B H ss _ R (gets_bind g fun a s1 v B1 H1 _ _ R1 d1 h1 => by
    obtain ⟨z, hz, q⟩ := gets_lift R1 h1
    exact ⟨z, asB_dp d1 hz, q _ B1 H1 (Gn.refl R1.ex) rfl⟩)
theorem eb_test {te : TE} {r : AS → R PyData} (h : EvR K mg W te r) : EvB K mg W (tTest te) (bB r) := fun σ B H ss Q R g =>
  h σ B H ss _ R (gets_bind g fun a s1 v B1 H1 _ _ R1 d1 h1 => by
    obtain ⟨z, hz, q⟩ := gets_lift R1 h1
    exact ⟨z, asB_dp d1 hz, q _ B1 H1 (Gn.refl R1.ex) rfl⟩)
def bAnd (ra rb : AS → R Bool) : AS → R Bool := fun ss => (ra ss).bind fun a s1 => if a then rb s1 else .ok false s1
def bOr (ra rb : AS → R Bool) : AS → R Bool := fun ss => (ra ss).bind fun a s1 => if a then .ok true s1 else rb s1
def bNot (ra : AS → R Bool) : AS → R Bool := fun ss => (ra ss).bind fun a s1 => .ok (!a) s1
theorem eb_and {ta tb : TT} {ra rb : AS → R Bool} (ha : EvB K mg W ta ra) (hb : EvB K mg W tb rb) : EvB K mg W (tAnd ta tb) (bAnd ra rb) := fun σ B H ss Q R g =>
  ha σ B H ss _ R (gets_bind g fun a s1 v B1 H1 _ _ R1 d1 h1 => by
    subst d1
    cases v with
    | true => exact hb σ B1 H1 s1 Q R1 h1
    | false => exact gets_ok R1 h1 _ B1 H1 (Gn.refl R1.ex) rfl)
theorem eb_or {ta tb : TT} {ra rb : AS → R Bool} (ha : EvB K mg W ta ra) (hb : EvB K mg W tb rb) : EvB K mg W (tOr ta tb) (bOr ra rb) := fun σ B H ss Q R g =>
  ha σ B H ss _ R (gets_bind g fun a s1 v B1 H1 _ _ R1 d1 h1 => by
    subst d1
    cases v with
    | true => exact gets_ok R1 h1 _ B1 H1 (Gn.refl R1.ex) rfl
    | false => exact hb σ B1 H1 s1 Q R1 h1)
theorem eb_not {ta : TT} {ra : AS → R Bool} (ha : EvB K mg W ta ra) : EvB K mg W (tNot ta) (bNot ra) := fun σ B H ss Q R g =>
  ha σ B H ss _ R (gets_bind g fun a s1 v B1 H1 _ _ R1 d1 h1 => by
    subst d1
    exact gets_ok R1 h1 _ B1 H1 (Gn.refl R1.ex) rfl)
/-- and, or, not as values, of truths -/
def eAnd (ra rb : AS → R PyData) : AS → R PyData := fun ss => (ra ss).bind fun a s1 => match asB a with | some true => rb s1 | some false => .ok (.bool false) s1 | none => .no
def eOr (ra rb : AS → R PyData) : AS → R PyData := fun ss => (ra ss).bind fun a s1 => match asB a with | some true => .ok (.bool true) s1 | some false => rb s1 | none => .no
def eNot (ra : AS → R PyData) : AS → R PyData := fun ss => (ra ss).bind fun a s1 => match asB a with | some b => .ok (.bool (!b)) s1 | none => .no
theorem er_and {ta tb : TE} {ra rb : AS → R PyData} (ha : EvR K mg W ta ra) (hb : EvR K mg W tb rb) : EvR K mg W (tAndV ta tb) (eAnd ra rb) := fun σ B H ss Q R g =>
  ha σ B H ss _ R (gets_bind g fun a s1 v B1 H1 _ _ R1 d1 h1 => by
    cases q : asB a with
    | none => rw [q] at h1; exact h1.elim
    | some b =>
      rw [q] at h1
      refine ⟨b, asB_dp d1 q, ?_⟩
      cases b with
      | true => exact hb σ B1 H1 s1 Q R1 h1
      | false => exact gets_ok R1 h1 _ B1 H1 (Gn.refl R1.ex) (.bl _))
theorem er_or {ta tb : TE} {ra rb : AS → R PyData} (ha : EvR K mg W ta ra) (hb : EvR K mg W tb rb) : EvR K mg W (tOrV ta tb) (eOr ra rb) := fun σ B H ss Q R g =>
  ha σ B H ss _ R (gets_bind g fun a s1 v B1 H1 _ _ R1 d1 h1 => by
    cases q : asB a with
    | none => rw [q] at h1; exact h1.elim
    | some b =>
      rw [q] at h1
      refine ⟨b, asB_dp d1 q, ?_⟩
      cases b with
      | true => exact gets_ok R1 h1 _ B1 H1 (Gn.refl R1.ex) (.bl _)
      | false => exact hb σ B1 H1 s1 Q R1 h1)
theorem er_not {ta : TE} {ra : AS → R PyData} (ha : EvR K mg W ta ra) : EvR K mg W (tNotV ta) (eNot ra) := fun σ B H ss Q R g =>
  ha σ B H ss _ R (gets_bind g fun a s1 v B1 H1 _ _ R1 d1 h1 => by
    cases q : asB a with
    | none => rw [q] at h1; exact h1.elim
    | some b =>
      rw [q] at h1
      exact ⟨b, asB_dp d1 q, gets_ok R1 h1 _ B1 H1 (Gn.refl R1.ex) (.bl _)⟩)
def eIf (rc : AS → R Bool) (ra rb : AS → R PyData) : AS → R PyData := fun ss => (rc ss).bind fun c s1 => if c then ra s1 else rb s1
theorem er_if {t : TT} {ta tb : TE} {rc : AS → R Bool} {ra rb : AS → R PyData} (hc : EvB K mg W t rc) (ha : EvR K mg W ta ra) (hb : EvR K mg W tb rb) : EvR K mg W (tIf t ta tb) (eIf rc ra rb) := fun σ B H ss Q R g =>
  hc σ B H ss _ R (gets_bind g fun a s1 v B1 H1 _ _ R1 d1 h1 => by
    subst d1
    cases v with
    | true => exact ha σ B1 H1 s1 Q R1 h1
    | false => exact hb σ B1 H1 s1 Q R1 h1)
/-- is None -/
def eIsN (neg : Bool) (ra : AS → R PyData) : AS → R PyData := fun ss => (ra ss).bind fun a s1 => .ok (.bool (match a with | .none => !neg | _ => neg)) s1
theorem dp_non {v : V} {d : PyData} (h : Dp K B v d) : decide (v = .non) = (match d with | .none => true | _ => false) := by
  cases h <;> simp
theorem er_isN {ta : TE} {ra : AS → R PyData} (ha : EvR K mg W ta ra) : EvR K mg W (tIsN ta) (eIsN false ra) := fun σ B H ss Q R g =>
  ha σ B H ss _ R (gets_bind g fun a s1 v B1 H1 _ _ R1 d1 h1 => by
    refine gets_ok R1 h1 _ B1 H1 (Gn.refl R1.ex) ?_
    rw [dp_non d1]
    cases a <;> exact .bl _)
theorem er_notN {ta : TE} {ra : AS → R PyData} (ha : EvR K mg W ta ra) : EvR K mg W (tNotN ta) (eIsN true ra) := fun σ B H ss Q R g =>
  ha σ B H ss _ R (gets_bind g fun a s1 v B1 H1 _ _ R1 d1 h1 => by
    refine gets_ok R1 h1 _ B1 H1 (Gn.refl R1.ex) ?_
    rw [dp_non d1]
    cases a <;> exact .bl _)

/-! ### argument lists, displays -/
def lNil : AS → R (List PyData) := fun ss => .ok [] ss
def lCons (ra : AS → R PyData) (rl : AS → R (List PyData)) : AS → R (List PyData) := fun ss => (ra ss).bind fun a s1 => (rl s1).bind fun l s2 => .ok (a :: l) s2
theorem el_nil : EvL K mg W tNil lNil := fun σ B H ss Q R g => gets_ok R g [] B H (Gn.refl R.ex) .nil
theorem el_cons {ta : TE} {tl : TA} {ra : AS → R PyData} {rl : AS → R (List PyData)} (ha : EvR K mg W ta ra) (hl : EvL K mg W tl rl) : EvL K mg W (tCons ta tl) (lCons ra rl) := fun σ B H ss Q R g =>
  ha σ B H ss _ R (gets_bind g fun a s1 v B1 H1 _ _ R1 d1 h1 => hl σ B1 H1 s1 _ R1 (gets_bind h1 fun l s2 vs B2 H2 _ g2 R2 d2 h2 =>
    gets_ok R2 h2 _ B2 H2 (Gn.refl R2.ex) (.cons (dp_mono g2.b d1) d2)))
def eTup (rl : AS → R (List PyData)) : AS → R PyData := fun ss => (rl ss).bind fun l s1 => if l.length ≤ sizeLine then .ok (.tuple l) s1 else .no
theorem er_tup {tl : TA} {rl : AS → R (List PyData)} (hl : EvL K mg W tl rl) : EvR K mg W (tTup tl) (eTup rl) := fun σ B H ss Q R g =>
  hl σ B H ss _ R (gets_bind g fun l s1 vs B1 H1 _ _ R1 d1 h1 => by
    by_cases c : l.length ≤ sizeLine
    · rw [if_pos c] at h1
      refine ⟨by rw [dpa_len d1]; exact c, fun p hp => ?_⟩
      have g1 := Gn.new (o := .tup vs) R1.ex hp
      exact gets_ok R1 h1 _ _ _ g1 (.tup (st_of upd_same) (dpa_mono g1.b d1))
    · rw [if_neg c] at h1; exact h1.elim)
/-- a new list: known to be nobody's -/
def NewL (K : PySem.W.Frag) (σ : L2.St) (H : Hp) : AS → Hp → Hp → V → List PyData → Prop := fun s2 B2 H2 v ds => ∃ p vs, v = .ref p ∧ H p = none ∧ H2 p = some (.lst vs) ∧ B2 p = none ∧ DpAll K B2 vs ds ∧ ¬ Own σ s2 p
def EvN (K : PySem.W.Frag) (mg : Str → Option Value) (W : WX) (t : TE) (r : AS → R (List PyData)) : Prop := ∀ (σ : L2.St) (B H : Hp) (ss : AS) (Q : VK), Rep K B H σ ss → Gets K mg W σ B H ss (NewL K σ H) (r ss) Q → t σ H Q
theorem go_back {m : Nat} {B2 H2 : Hp} {σ2 : L2.St} {s2 : AS} (g : Go m B H σ ss B2 H2 σ2 s2) {p : Addr} (h : H2 p = none) : H p = none := by
  cases q : H p with
  | none => rfl
  | some o => exact absurd h (g.live p (by rw [q]; simp))
/-- a list is laid: B stays -/
theorem Rep.lay {p : Addr} {o : HO} (R : Rep K B H σ ss) (h : H p = none) : Go 0 B H σ ss B (upd H p o) σ ss ∧ Rep K B (upd H p o) σ ss ∧ ¬ Own σ ss p := by
  have ex : Ex H (upd H p o) := Ex.new h
  refine ⟨⟨Ex.refl _, fun a u q _ => ex a u q, fun a q => ?_, fun a q _ _ => q, fun _ q => .inl q, fun _ _ => rfl⟩, ⟨R.ex.trans ex, R.len, fun i s o' e1 e2 => ?_, R.dj⟩, fun q => (R.own_free q).1 h⟩
  · cases e : H a with
    | none => exact absurd e q
    | some u => rw [ex a u e]; simp
  · have z := R.sv i s o' e1 e2
    cases s with
    | un => trivial
    | d x => exact z
    | own xs => obtain ⟨q, vs, e, q1, q2, q3⟩ := z; exact ⟨q, vs, e, ex q _ q1, q2, q3⟩
    | fn f => exact z
    | tab q t => obtain ⟨e, q1, q2⟩ := z; exact ⟨e, q1.ext ex, q2⟩
theorem gets_new {α : Type} {ds : List PyData} {vs : List V} {H0 : Hp} {Q : VK} (R : Rep K B H σ ss) (hb : ∀ p, H p = none → H0 p = none) (h : Gets K mg W σ B H ss (NewL K σ H0) (.ok ds ss) Q) (d : DpAll K B vs ds) : ∀ p, H p = none → Q (.ref p) (upd H p (.lst vs)) := fun p hp => by
  obtain ⟨g, R1, n⟩ := R.lay (o := .lst vs) hp
  exact h _ B _ g R1 ⟨p, vs, rfl, hb p hp, upd_same, free_of R.ex hp, d, n⟩
def nLst (rl : AS → R (List PyData)) : AS → R (List PyData) := fun ss => (rl ss).bind fun l s1 => if l.length ≤ sizeLine then .ok l s1 else .no
theorem en_lst {tl : TA} {rl : AS → R (List PyData)} (hl : EvL K mg W tl rl) : EvN K mg W (tLst tl) (nLst rl) := fun σ B H ss Q R g =>
  hl σ B H ss _ R (gets_bind g fun l s1 vs B1 H1 _ g1 R1 d1 h1 => by
    by_cases c : l.length ≤ sizeLine
    · rw [if_pos c] at h1
      exact ⟨by rw [dpa_len d1]; exact c, gets_new (α := Unit) R1 (fun p hp => go_back g1 hp) h1 d1⟩
    · rw [if_neg c] at h1; exact h1.elim)
/-- a new list that nobody will change -/
def eL (r : AS → R (List PyData)) : AS → R PyData := fun ss => (r ss).bind fun l s => .ok (.list l) s
theorem er_L {te : TE} {r : AS → R (List PyData)} (h : EvN K mg W te r) : EvR K mg W te (eL r) := fun σ B H ss Q R g => by
  refine h σ B H ss Q R ?_
  unfold eL at g
  cases q : r ss with
  | no => rw [q] at g; exact g
  | ex c s2 => rw [q] at g; exact g
  | ok l s2 =>
    rw [q] at g
    rintro v B2 H2 g2 R2 ⟨p, vs, rfl, h0, h1, h2, h3, h4⟩
    have eb : Ex B2 (upd B2 p (.lst vs)) := Ex.new h2
    have bh : Ex (upd B2 p (.lst vs)) H2 := fun a o e => by
      by_cases c : a = p
      · subst c; rw [upd_same] at e; cases e; exact h1
      · rw [upd_ne c] at e; exact R2.ex a o e
    refine g _ (upd B2 p (.lst vs)) H2 ⟨g2.b.trans eb, g2.keep, g2.live, fun a hb ha n => ?_, g2.own, g2.fix⟩ ⟨bh, R2.len, fun i s o e1 e2 => ?_, R2.dj⟩ (.lst (sq_of upd_same) (dpa_mono eb h3))
    · rw [upd_ne (fun c => ha (by rw [c]; exact h0))]
      exact g2.sep a hb ha n
    · have z := R2.sv i s o e1 e2
      cases s with
      | un => trivial
      | d x => obtain ⟨v, e, z⟩ := z; exact ⟨v, e, dp_mono eb z⟩
      | own xs =>
        obtain ⟨q, ws, e, q1, q2, q3⟩ := z
        subst e
        refine ⟨q, ws, rfl, q1, ?_, dpa_mono eb q3⟩
        rw [upd_ne (fun c => h4 ⟨i, _, e1, rfl, by rw [← c]; exact e2⟩)]
        exact q2
      | fn f => exact z
      | tab q t =>
        obtain ⟨e, q1, q2⟩ := z
        subst e
        refine ⟨rfl, q1, ?_⟩
        rw [upd_ne (fun c => h4 ⟨i, _, e1, rfl, by rw [← c]; exact e2⟩)]
        exact q2
/-- two new lists in a row -/
def nCat (ra rb : AS → R (List PyData)) : AS → R (List PyData) := fun ss => (ra ss).bind fun a s1 => (rb s1).bind fun b s2 => if a.length + b.length ≤ sizeLine then .ok (a ++ b) s2 else .no
theorem en_cat {ta tb : TE} {ra rb : AS → R (List PyData)} (ha : EvN K mg W ta ra) (hb : EvN K mg W tb rb) : EvN K mg W (tOp rCat ta tb) (nCat ra rb) := fun σ B H ss Q R g =>
  ha σ B H ss _ R (gets_bind g fun a s1 v B1 H1 _ g1 R1 ⟨p, vs, ev, h0, h1, h2, h3, h4⟩ k1 => hb σ B1 H1 s1 _ R1 (gets_bind k1 fun b s2 w B2 H2 _ g2 R2 ⟨q, ws, ew, j0, j1, j2, j3, j4⟩ k2 => by
    by_cases c : a.length + b.length ≤ sizeLine
    · rw [if_pos c] at k2
      have d := dpa_app (dpa_mono g2.b h3) j3
      exact ⟨p, q, vs, ws, ev, ew, g2.keep p _ h1 h4, j1, by rw [dpa_len h3, dpa_len j3]; exact c, gets_new (α := Unit) R2 (fun p hp => go_back g1 (go_back g2 hp)) k2 d⟩
    · rw [if_neg c] at k2; exact k2.elim))
end
end AX

/-! AX2: sequences, built-ins by name, slices, what is walked, comprehensions -/
namespace AX
open PySem L2 Evl
section
variable {K : PySem.W.Frag} {mg : Str → Option Value} {W : WX} {B H B1 H1 : Hp} {σ : L2.St} {ss s1 : AS}

/-! ### sequences that are read: lists as they stand in H, tuples of B -/
def SqD (K : PySem.W.Frag) (B H : Hp) (v : V) : Bool × List PyData → Prop
  | (true, ds) => ∃ a vs, v = .ref a ∧ SqL K H a vs ∧ DpAll K B vs ds
  | (false, ds) => ∃ a vs, v = .ref a ∧ SqT K B a vs ∧ DpAll K B vs ds
def seqOf : PyData → Option (Bool × List PyData)
  | .list xs => some (true, xs)
  | .tuple xs => some (false, xs)
  | _ => none
theorem seqOf_dp {v : V} {d : PyData} {q : Bool × List PyData} (eb : Ex B H) (h : Dp K B v d) (e : seqOf d = some q) : SqD K B H v q := by
  unfold seqOf at e
  split at e
  · cases e; cases h with
    | lst s1 a1 => exact ⟨_, _, rfl, ex_l eb s1, a1⟩
  · cases e; cases h with
    | tup s1 a1 => exact ⟨_, _, rfl, s1, a1⟩
  · cases e
def EvQ (K : PySem.W.Frag) (mg : Str → Option Value) (W : WX) (t : TE) (r : AS → R (Bool × List PyData)) : Prop := ∀ (σ : L2.St) (B H : Hp) (ss : AS) (Q : VK), Rep K B H σ ss → Gets K mg W σ B H ss (fun _ B2 H2 v q => SqD K B2 H2 v q) (r ss) Q → t σ H Q
def qR (r : AS → R PyData) : AS → R (Bool × List PyData) := fun ss => (r ss).bind fun d s => lift (seqOf d) s
theorem eq_R {te : TE} {r : AS → R PyData} (h : EvR K mg W te r) : EvQ K mg W te (qR r) := fun σ B H ss Q R g =>
  h σ B H ss _ R (gets_bind g fun a s1 v B1 H1 _ _ R1 d1 h1 => by
    obtain ⟨z, hz, q⟩ := gets_lift R1 h1
    exact q v B1 H1 (Gn.refl R1.ex) (seqOf_dp R1.ex d1 hz))
def qN (r : AS → R (List PyData)) : AS → R (Bool × List PyData) := fun ss => (r ss).bind fun ds s => .ok (true, ds) s
theorem eq_N {te : TE} {r : AS → R (List PyData)} (h : EvN K mg W te r) : EvQ K mg W te (qN r) := fun σ B H ss Q R g =>
  h σ B H ss _ R (gets_bind g fun a s1 v B1 H1 _ _ R1 ⟨p, vs, ev, h0, h1, h2, h3, h4⟩ k1 => gets_ok R1 k1 v B1 H1 (Gn.refl R1.ex) ⟨p, vs, ev, sq_of h1, h3⟩)
/-- a name that is read: an own list stays its own -/
def qV (i : Nat) : AS → R (Bool × List PyData) := fun ss => match ss[i]? with
  | some (.d x) => lift (seqOf x) ss
  | some (.own xs) => .ok (true, xs) ss
  | _ => .no
theorem eq_V {i : Nat} : EvQ K mg W (tVar i) (qV i) := fun σ B H ss Q R g => by
  unfold qV at g
  split at g
  · rename_i x h
    obtain ⟨v, e, q⟩ := R.data h
    obtain ⟨z, hz, k⟩ := gets_lift R g
    exact ⟨v, e, k v B H (Gn.refl R.ex) (seqOf_dp R.ex q hz)⟩
  · rename_i xs h
    obtain ⟨p, vs, e, q1, q2, q3⟩ := R.mine h
    exact ⟨_, e, gets_ok R g _ B H (Gn.refl R.ex) ⟨p, vs, rfl, sq_of q1, q3⟩⟩
  · exact g.elim

/-! ### built-ins of one sequence -/
def rLenP (K : PySem.W.Frag) : List V → Hp → VK → Prop := fun xs H Q => ∃ x n, xs = [x] ∧ LenV K x H n ∧ Q (.int n) H
def eLenQ (r : AS → R (Bool × List PyData)) : AS → R PyData := fun ss => (r ss).bind fun q s => .ok (.int q.2.length) s
theorem er_lenQ {te : TE} {r : AS → R (Bool × List PyData)} (h : EvQ K mg W te r) : EvR K mg W (tCB (rLenP K) (tCons te tNil)) (eLenQ r) := fun σ B H ss Q R g =>
  h σ B H ss _ R (gets_bind g fun q s1 v B1 H1 _ _ R1 d1 h1 => by
    obtain ⟨k, ds⟩ := q
    cases k with
    | true =>
      obtain ⟨a, vs, rfl, sl, da⟩ := d1
      exact ⟨_, ds.length, rfl, .inl ⟨vs, sl, (dpa_len da).symm⟩, gets_ok R1 h1 _ B1 H1 (Gn.refl R1.ex) (.int _)⟩
    | false =>
      obtain ⟨a, vs, rfl, sl, da⟩ := d1
      exact ⟨_, ds.length, rfl, .inr ⟨vs, ex_t R1.ex sl, (dpa_len da).symm⟩, gets_ok R1 h1 _ B1 H1 (Gn.refl R1.ex) (.int _)⟩)
def pyLen : PyData → Option PyData
  | .list xs => some (.int xs.length)
  | .tuple xs => some (.int xs.length)
  | .str z => if z.length ≤ sizeLine then some (.int z.length) else none
  | _ => none
/-- a call of a built-in with data -/
def CallOk (K : PySem.W.Frag) (r : List V → Hp → VK → Prop) (g : List PyData → Option PyData) : Prop := ∀ (B H : Hp) (vs : List V) (ds : List PyData) (z : PyData) (Q : VK), Ex B H → DpAll K B vs ds → g ds = some z → (∀ v B2 H2, Gn B H B2 H2 → Dp K B2 v z → Q v H2) → r vs H Q
def eCB (g : List PyData → Option PyData) (rl : AS → R (List PyData)) : AS → R PyData := fun ss => (rl ss).bind fun l s => lift (g l) s
theorem er_cb {tl : TA} {r : List V → Hp → VK → Prop} {g : List PyData → Option PyData} {rl : AS → R (List PyData)} (o : CallOk K r g) (h : EvL K mg W tl rl) : EvR K mg W (tCB r tl) (eCB g rl) := fun σ B H ss Q R k =>
  h σ B H ss _ R (gets_bind k fun l s1 vs B1 H1 _ _ R1 d1 h1 => by
    obtain ⟨z, hz, q⟩ := gets_lift R1 h1
    exact o B1 H1 vs l z Q R1.ex d1 hz q)
def py1 (g : PyData → Option PyData) : List PyData → Option PyData
  | [x] => g x
  | _ => none
def py2 (g : PyData → PyData → Option PyData) : List PyData → Option PyData
  | [x, y] => g x y
  | _ => none
theorem dpa1 {vs : List V} {d : PyData} (h : DpAll K B vs [d]) : ∃ v, vs = [v] ∧ Dp K B v d := by
  cases h with
  | cons h1 h2 => cases h2; exact ⟨_, rfl, h1⟩
theorem dpa2 {vs : List V} {d e : PyData} (h : DpAll K B vs [d, e]) : ∃ v w, vs = [v, w] ∧ Dp K B v d ∧ Dp K B w e := by
  cases h with
  | cons h1 h2 =>
    obtain ⟨w, rfl, q⟩ := dpa1 h2
    exact ⟨_, w, rfl, h1, q⟩
theorem ok_1 {r : List V → Hp → VK → Prop} {g : PyData → Option PyData} (h : ∀ (B H : Hp) (v : V) (d z : PyData) (Q : VK), Ex B H → Dp K B v d → g d = some z → (∀ v B2 H2, Gn B H B2 H2 → Dp K B2 v z → Q v H2) → r [v] H Q) : CallOk K r (py1 g) := fun B H vs ds z Q eb hd hz k => by
  unfold py1 at hz
  split at hz
  · obtain ⟨v, rfl, q⟩ := dpa1 hd
    exact h B H v _ z Q eb q hz k
  · cases hz
theorem ok_2 {r : List V → Hp → VK → Prop} {g : PyData → PyData → Option PyData} (h : ∀ (B H : Hp) (v w : V) (d e z : PyData) (Q : VK), Ex B H → Dp K B v d → Dp K B w e → g d e = some z → (∀ v B2 H2, Gn B H B2 H2 → Dp K B2 v z → Q v H2) → r [v, w] H Q) : CallOk K r (py2 g) := fun B H vs ds z Q eb hd hz k => by
  unfold py2 at hz
  split at hz
  · obtain ⟨v, w, rfl, q1, q2⟩ := dpa2 hd
    exact h B H v w _ _ z Q eb q1 q2 hz k
  · cases hz
theorem ok_len : CallOk K (rLenP K) (py1 pyLen) := ok_1 fun B H v d z Q eb hd hz k => by
  unfold pyLen at hz
  split at hz
  · cases hz; cases hd with
    | lst s1 a1 => exact ⟨_, _, rfl, .inl ⟨_, ex_l eb s1, (dpa_len a1).symm⟩, k _ B H (Gn.refl eb) (.int _)⟩
  · cases hz; cases hd with
    | tup s1 a1 => exact ⟨_, _, rfl, .inr ⟨_, ex_t eb s1, (dpa_len a1).symm⟩, k _ B H (Gn.refl eb) (.int _)⟩
  · split at hz
    · rename_i c; cases hz; cases hd
      exact ⟨_, _, rfl, ⟨c, rfl⟩, k _ B H (Gn.refl eb) (.int _)⟩
    · cases hz
  · cases hz
def rAbs : List V → Hp → VK → Prop := fun xs H Q => ∃ i, xs = [.int i] ∧ Q (.int (if i < 0 then -i else i)) H
def pyAbs : PyData → Option PyData
  | .int i => some (.int (if i < 0 then -i else i))
  | _ => none
theorem ok_abs : CallOk K rAbs (py1 pyAbs) := ok_1 fun B H v d z Q eb hd hz k => by
  unfold pyAbs at hz
  split at hz
  · cases hz; cases hd; exact ⟨_, rfl, k _ B H (Gn.refl eb) (.int _)⟩
  · cases hz
def pyMax := pyI (fun _ _ => true) fun i j => .int (if j > i then j else i)
def pyMin := pyI (fun _ _ => true) fun i j => .int (if j < i then j else i)
def rMin2 : List V → Hp → VK → Prop := fun xs H Q => ∃ i j, xs = [.int i, .int j] ∧ Q (.int (if j < i then j else i)) H
theorem ok_max : CallOk K rMax2 (py2 pyMax) := ok_2 fun B H v w d e z Q eb h1 h2 hz k => by
  obtain ⟨i, j, rfl, rfl, c, rfl⟩ := pyI_some hz
  cases h1; cases h2
  exact ⟨i, j, rfl, k _ B H (Gn.refl eb) (.int _)⟩
theorem ok_min : CallOk K rMin2 (py2 pyMin) := ok_2 fun B H v w d e z Q eb h1 h2 hz k => by
  obtain ⟨i, j, rfl, rfl, c, rfl⟩ := pyI_some hz
  cases h1; cases h2
  exact ⟨i, j, rfl, k _ B H (Gn.refl eb) (.int _)⟩
def rInt1 : List V → Hp → VK → Prop := fun xs H Q => (∃ i, xs = [.int i] ∧ Q (.int i) H) ∨ ∃ k, xs = [.bl k] ∧ Q (.int (if k then 1 else 0)) H
def pyInt : PyData → Option PyData
  | .int i => some (.int i)
  | .bool b => some (.int (if b then 1 else 0))
  | _ => none
theorem ok_int : CallOk K rInt1 (py1 pyInt) := ok_1 fun B H v d z Q eb hd hz k => by
  unfold pyInt at hz
  split at hz
  · cases hz; cases hd; exact .inl ⟨_, rfl, k _ B H (Gn.refl eb) (.int _)⟩
  · cases hz; cases hd; exact .inr ⟨_, rfl, k _ B H (Gn.refl eb) (.int _)⟩
  · cases hz
/-- tuple(xs), list(xs) -/
def rTupleP (K : PySem.W.Frag) : List V → Hp → VK → Prop := fun xs H Q => ∃ p ys, xs = [.ref p] ∧ ((SqL K H p ys ∧ ∀ l, H l = none → Q (.ref l) (upd H l (.tup ys))) ∨ (SqT K H p ys ∧ Q (.ref p) H))
def eTupleQ (r : AS → R (Bool × List PyData)) : AS → R PyData := fun ss => (r ss).bind fun q s => .ok (.tuple q.2) s
theorem er_tupleQ {te : TE} {r : AS → R (Bool × List PyData)} (h : EvQ K mg W te r) : EvR K mg W (tCB (rTupleP K) (tCons te tNil)) (eTupleQ r) := fun σ B H ss Q R g =>
  h σ B H ss _ R (gets_bind g fun q s1 v B1 H1 _ _ R1 d1 h1 => by
    obtain ⟨k, ds⟩ := q
    cases k with
    | true =>
      obtain ⟨a, vs, rfl, sl, da⟩ := d1
      refine ⟨a, vs, rfl, .inl ⟨sl, fun l hl => ?_⟩⟩
      have g1 := Gn.new (o := .tup vs) R1.ex hl
      exact gets_ok R1 h1 _ _ _ g1 (.tup (st_of upd_same) (dpa_mono g1.b da))
    | false =>
      obtain ⟨a, vs, rfl, sl, da⟩ := d1
      exact ⟨a, vs, rfl, .inr ⟨ex_t R1.ex sl, gets_ok R1 h1 _ B1 H1 (Gn.refl R1.ex) (.tup sl da)⟩⟩)
def nListQ (r : AS → R (Bool × List PyData)) : AS → R (List PyData) := fun ss => (r ss).bind fun q s => .ok q.2 s
theorem en_listQ {te : TE} {r : AS → R (Bool × List PyData)} (h : EvQ K mg W te r) : EvN K mg W (tCB (rListS K) (tCons te tNil)) (nListQ r) := fun σ B H ss Q R g =>
  h σ B H ss _ R (gets_bind g fun q s1 v B1 H1 _ g1 R1 d1 h1 => by
    obtain ⟨k, ds⟩ := q
    cases k with
    | true =>
      obtain ⟨a, vs, rfl, sl, da⟩ := d1
      exact ⟨a, vs, rfl, .inl sl, gets_new (α := Unit) R1 (fun p hp => go_back g1 hp) h1 da⟩
    | false =>
      obtain ⟨a, vs, rfl, sl, da⟩ := d1
      exact ⟨a, vs, rfl, .inr (ex_t R1.ex sl), gets_new (α := Unit) R1 (fun p hp => go_back g1 hp) h1 da⟩)
/-- all(xs), any(xs), of a list of truths -/
def asBs : List PyData → Option (List Bool)
  | [] => some []
  | .bool b :: r => (asBs r).map (b :: ·)
  | _ :: _ => none
theorem asBs_dp : ∀ {ds : List PyData} {vs : List V} {bs : List Bool}, DpAll K B vs ds → asBs ds = some bs → vs = bs.map V.bl
  | [], _, _, .nil, e => by cases e; rfl
  | .bool b :: r, _, bs, .cons h1 h2, e => by
    cases h1
    unfold asBs at e
    cases q : asBs r with
    | none => rw [q] at e; cases e
    | some cs =>
      rw [q] at e; cases e
      rw [asBs_dp h2 q]; rfl
  | .none :: _, _, _, _, e => by cases e
  | .int _ :: _, _, _, _, e => by cases e
  | .str _ :: _, _, _, _, e => by cases e
  | .list _ :: _, _, _, _, e => by cases e
  | .tuple _ :: _, _, _, _, e => by cases e
  | .dict _ :: _, _, _, _, e => by cases e
def eAllQ (r : AS → R (Bool × List PyData)) : AS → R PyData := fun ss => (r ss).bind fun q s => match q with
  | (true, ds) => (lift (asBs ds) s).bind fun bs s => .ok (.bool (bs.all id)) s
  | _ => .no
def eAnyQ (r : AS → R (Bool × List PyData)) : AS → R PyData := fun ss => (r ss).bind fun q s => match q with
  | (true, ds) => (lift (asBs ds) s).bind fun bs s => .ok (.bool (bs.any id)) s
  | _ => .no
theorem er_allQ {te : TE} {r : AS → R (Bool × List PyData)} (h : EvQ K mg W te r) : EvR K mg W (tCB (rAll K) (tCons te tNil)) (eAllQ r) := fun σ B H ss Q R g =>
  h σ B H ss _ R (gets_bind g fun q s1 v B1 H1 _ _ R1 d1 h1 => by
    obtain ⟨k, ds⟩ := q
    cases k with
    | false => exact h1.elim
    | true =>
      obtain ⟨a, vs, rfl, sl, da⟩ := d1
      cases e : asBs ds with
      | none => simp only [e] at h1; exact h1.elim
      | some bs =>
        simp only [e] at h1
        have := asBs_dp da e
        subst this
        exact ⟨a, bs, rfl, sl, gets_ok R1 h1 _ B1 H1 (Gn.refl R1.ex) (.bl _)⟩)
theorem er_anyQ {te : TE} {r : AS → R (Bool × List PyData)} (h : EvQ K mg W te r) : EvR K mg W (tCB (rAny K) (tCons te tNil)) (eAnyQ r) := fun σ B H ss Q R g =>
  h σ B H ss _ R (gets_bind g fun q s1 v B1 H1 _ _ R1 d1 h1 => by
    obtain ⟨k, ds⟩ := q
    cases k with
    | false => exact h1.elim
    | true =>
      obtain ⟨a, vs, rfl, sl, da⟩ := d1
      cases e : asBs ds with
      | none => simp only [e] at h1; exact h1.elim
      | some bs =>
        simp only [e] at h1
        have := asBs_dp da e
        subst this
        exact ⟨a, bs, rfl, sl, gets_ok R1 h1 _ B1 H1 (Gn.refl R1.ex) (.bl _)⟩)
/-! ### isinstance by a built-in class -/
def tyN : PyData → String
  | .none => "NoneType"
  | .bool _ => "bool"
  | .int _ => "int"
  | .str _ => "str"
  | .list _ => "list"
  | .tuple _ => "tuple"
  | .dict _ => "dict"
theorem tyN_dp {v : V} {d : PyData} (eb : Ex B H) (h : Dp K B v d) : TyX K H v (.type (tyN d)) := by
  cases h with
  | non => exact .base .non
  | bl b => exact .base (.bl b)
  | int i => exact .base (.int i)
  | str x => exact .base (.str x)
  | lst s1 a1 =>
    rcases ex_l eb s1 with (h | ⟨o, h⟩) | ⟨o, its, n, e1, e2, _⟩
    · exact .base (.lst h)
    · exact .base (.frz h)
    · exact .kList e1 e2
  | tup s1 a1 =>
    rcases ex_t eb s1 with (h | ⟨o, h⟩) | ⟨o, its, n, e1, e2, _⟩
    · exact .base (.tup h)
    · exact .fTuple h
    · exact .kTuple e1 e2
def eIsi (T : String) (ra : AS → R PyData) : AS → R PyData := fun ss => (ra ss).bind fun d s => lift ((kitB (tyN d) T).map PyData.bool) s
theorem er_isi {T : String} {ta : TE} {ra : AS → R PyData} (ha : EvR K mg W ta ra) : EvR K mg W (tCB (rIsi K) (tCons ta (tCons (tC (.ty T)) tNil))) (eIsi T ra) := fun σ B H ss Q R g =>
  ha σ B H ss _ R (gets_bind g fun d s1 v B1 H1 _ _ R1 d1 h1 => by
    obtain ⟨z, hz, q⟩ := gets_lift R1 h1
    cases e : kitB (tyN d) T with
    | none => rw [e] at hz; cases hz
    | some b =>
      rw [e] at hz; cases hz
      exact ⟨v, _, _, _, b, rfl, .ty T, tyN_dp R1.ex d1, kit_ty e, q _ B1 H1 (Gn.refl R1.ex) (.bl _)⟩)
/-! ### slices -/
def cutD (xs : List PyData) (lo hi : Option Int) : List PyData := (xs.drop (HT.sIx xs.length 0 lo)).take (HT.sIx xs.length xs.length hi - HT.sIx xs.length 0 lo)
theorem cut_dpa {vs : List V} {ds : List PyData} (h : DpAll K B vs ds) (lo hi : Option Int) : DpAll K B (cutV vs lo hi) (cutD ds lo hi) := by
  unfold cutV cutD
  rw [dpa_len h]
  exact dpa_take _ (dpa_drop _ h)
def EvO (K : PySem.W.Frag) (mg : Str → Option Value) (W : WX) (t : TO) (r : AS → R (Option Int)) : Prop := ∀ (σ : L2.St) (B H : Hp) (ss : AS) (Q : Option Int → Hp → Prop), Rep K B H σ ss → Gets K mg W σ B H ss (fun _ _ _ v d => v = d) (r ss) Q → t σ H Q
def oNo : AS → R (Option Int) := fun ss => .ok none ss
def oSome (ra : AS → R PyData) : AS → R (Option Int) := fun ss => (ra ss).bind fun d s => match d with | .int i => .ok (some i) s | _ => .no
theorem eo_no : EvO K mg W tNoPart oNo := fun σ B H ss Q R g => gets_ok R g _ B H (Gn.refl R.ex) rfl
theorem eo_some' {te : TE} {ra : AS → R PyData} (ha : EvR K mg W te ra) : EvO K mg W (tPart te) (oSome ra) := fun σ B H ss Q R g =>
  ha σ B H ss _ R (gets_bind g fun d s1 v B1 H1 _ _ R1 d1 h1 => by
    cases d1 with
    | int i => exact ⟨i, rfl, gets_ok R1 h1 _ B1 H1 (Gn.refl R1.ex) rfl⟩
    | non => exact h1.elim
    | bl _ => exact h1.elim
    | str _ => exact h1.elim
    | lst _ _ => exact h1.elim
    | tup _ _ => exact h1.elim)
def rSlP (K : PySem.W.Frag) : V → Option Int → Option Int → Hp → VK → Prop := fun x lo hi H Q => rSlL K x lo hi H Q ∨ rSlA K x lo hi H Q ∨ rSlS x lo hi H Q
theorem sl_P {X : Cx} : SlR X (rSlP X.K) := sl_list.or (sl_tupA.or sl_str)
def pySl (d : PyData) (lo hi : Option Int) : Option PyData := match d with
  | .list xs => some (.list (cutD xs lo hi))
  | .tuple xs => some (.tuple (cutD xs lo hi))
  | .str z => if z.length ≤ sizeLine then some (.str (cutS z lo hi)) else none
  | _ => none
def eSl (ra : AS → R PyData) (rl rh : AS → R (Option Int)) : AS → R PyData := fun ss => (ra ss).bind fun d s1 => (rl s1).bind fun lo s2 => (rh s2).bind fun hi s3 => lift (pySl d lo hi) s3
theorem cut_whole {xs : List PyData} {lo hi : Option Int} (h : HT.sIx xs.length 0 lo = 0 ∧ HT.sIx xs.length xs.length hi = xs.length) : cutD xs lo hi = xs := by
  unfold cutD
  rw [h.1, h.2]
  simp
theorem er_sl {te : TE} {tl th : TO} {ra : AS → R PyData} {rl rh : AS → R (Option Int)} (ha : EvR K mg W te ra) (hl : EvO K mg W tl rl) (hh : EvO K mg W th rh) : EvR K mg W (tSl (rSlP K) te tl th) (eSl ra rl rh) := fun σ B H ss Q R g =>
  ha σ B H ss _ R (gets_bind g fun d s1 v B1 H1 _ _ R1 d1 h1 => hl σ B1 H1 s1 _ R1 (gets_bind h1 fun lo s2 lo' B2 H2 _ g2 R2 e2 h2 => hh σ B2 H2 s2 _ R2 (gets_bind h2 fun hi s3 hi' B3 H3 _ g3 R3 e3 h3 => by
    subst e2; subst e3
    obtain ⟨z, hz, q⟩ := gets_lift R3 h3
    have d3 := dp_mono (g2.b.trans g3.b) d1
    unfold pySl at hz
    split at hz
    · cases hz
      cases d3 with
      | @lst a ws _ sl da =>
        refine .inl ⟨_, _, rfl, ex_l R3.ex sl, fun p hp => ?_⟩
        have g1 := Gn.new (o := .lst (cutV ws lo' hi')) R3.ex hp
        exact q _ _ _ g1 (.lst (sq_of upd_same) (cut_dpa (dpa_mono g1.b da) _ _))
    · cases hz
      cases d3 with
      | @tup a ws _ sl da =>
        refine .inr (.inl ⟨_, _, rfl, ex_t R3.ex sl, fun hw => ?_, fun _ p hp => ?_⟩)
        · rw [dpa_len da] at hw
          rw [cut_whole hw] at q
          exact q _ B3 H3 (Gn.refl R3.ex) (.tup sl da)
        · have g1 := Gn.new (o := .tup (cutV ws lo' hi')) R3.ex hp
          exact q _ _ _ g1 (.tup (st_of upd_same) (cut_dpa (dpa_mono g1.b da) _ _))
    · split at hz
      · rename_i c; cases hz; cases d3
        exact .inr (.inr ⟨_, rfl, c, q _ B3 H3 (Gn.refl R3.ex) (.str _)⟩)
      · cases hz
    · cases hz)))
/-- a list's slice as a new list -/
def nSl (ra : AS → R PyData) (rl rh : AS → R (Option Int)) : AS → R (List PyData) := fun ss => (ra ss).bind fun d s1 => (rl s1).bind fun lo s2 => (rh s2).bind fun hi s3 => match d with | .list xs => .ok (cutD xs lo hi) s3 | _ => .no
theorem en_sl {te : TE} {tl th : TO} {ra : AS → R PyData} {rl rh : AS → R (Option Int)} (ha : EvR K mg W te ra) (hl : EvO K mg W tl rl) (hh : EvO K mg W th rh) : EvN K mg W (tSl (rSlP K) te tl th) (nSl ra rl rh) := fun σ B H ss Q R g =>
  ha σ B H ss _ R (gets_bind g fun d s1 v B1 H1 _ g1 R1 d1 h1 => hl σ B1 H1 s1 _ R1 (gets_bind h1 fun lo s2 lo' B2 H2 _ g2 R2 e2 h2 => hh σ B2 H2 s2 _ R2 (gets_bind h2 fun hi s3 hi' B3 H3 _ g3 R3 e3 h3 => by
    subst e2; subst e3
    have d3 := dp_mono (g2.b.trans g3.b) d1
    cases d3 with
    | lst sl da =>
      exact .inl ⟨_, _, rfl, ex_l R3.ex sl, gets_new (α := Unit) R3 (fun p hp => go_back g1 (go_back g2 (go_back g3 hp))) h3 (cut_dpa da _ _)⟩
    | non => exact h3.elim
    | bl _ => exact h3.elim
    | str _ => exact h3.elim
    | int _ => exact h3.elim
    | tup _ _ => exact h3.elim)))
/-- x[e], x a name (an own list stays its own) -/
def hasV : Option Sv → Bool
  | some (.own _) => true
  | some (.d _) => true
  | _ => false
theorem has_val {i : Nat} (R : Rep K B H σ ss) (h : hasV ss[i]? = true) : ∃ v, σ[i]? = some (some v) := by
  cases e : ss[i]? with
  | none => rw [e] at h; cases h
  | some s =>
    cases s with
    | un => rw [e] at h; cases h
    | fn f => rw [e] at h; cases h
    | tab _ t => rw [e] at h; cases h
    | d x => obtain ⟨v, e, _⟩ := R.data e; exact ⟨v, e⟩
    | own xs => obtain ⟨p, vs, e, _⟩ := R.mine e; exact ⟨_, e⟩
def idxS (s : Option Sv) (d : PyData) : Option PyData := match s with
  | some (.own xs) => (match d with | .int k => atI xs k | _ => none)
  | some (.d x) => pyIdx x d
  | _ => none
def eIdxV (i : Nat) (re : AS → R PyData) : AS → R PyData := fun ss => if hasV ss[i]? then (re ss).bind fun d s1 => lift (idxS s1[i]? d) s1 else .no
theorem er_idxV {i : Nat} {te : TE} {re : AS → R PyData} (he : EvR K mg W te re) : EvR K mg W (tOp (rIx K) (tVar i) te) (eIdxV i re) := fun σ B H ss Q R g => by
  unfold eIdxV at g
  split at g
  · rename_i c
    obtain ⟨v, hv⟩ := has_val R c
    refine ⟨v, hv, he σ B H ss _ R (gets_bind g fun d s1 y B1 H1 _ _ R1 d1 h1 => ?_)⟩
    obtain ⟨z, hz, q⟩ := gets_lift R1 h1
    cases e : s1[i]? with
    | none => rw [e] at hz; cases hz
    | some s =>
      rw [e] at hz
      have sv := R1.sv i s _ e hv
      cases s with
      | un => cases hz
      | fn f => cases hz
      | tab _ t => cases hz
      | d x =>
        obtain ⟨w, ew, q2⟩ := sv
        cases ew
        exact ok_idx B1 H1 v y x d z Q R1.ex q2 d1 hz q
      | own xs =>
        obtain ⟨p, vs, ew, q1, q2, q3⟩ := sv
        cases ew
        cases d1 with
        | int k =>
          obtain ⟨v, e1, e2⟩ := atI_dpa q3 hz
          exact .inl ⟨_, _, _, _, rfl, rfl, sq_of q1, e1, q _ B1 H1 (Gn.refl R1.ex) e2⟩
        | non => cases hz
        | bl _ => cases hz
        | str _ => cases hz
        | lst _ _ => cases hz
        | tup _ _ => cases hz
  · exact g.elim
end
end AX

/-! AX3: what is walked, targets, comprehensions -/
namespace AX
open PySem L2 Evl RZ
section
variable {K : PySem.W.Frag} {mg : Str → Option Value} {W : WX} {B H B1 H1 : Hp} {σ : L2.St} {ss s1 : AS} {X : Cx}

/-- a list or a tuple, walked -/
def iSeq (K : PySem.W.Frag) (tl : TE) : TI := fun σ H R => tl σ H fun x H1 => ∃ a, x = .ref a ∧ (((∃ xs, SqL K H1 a xs) ∧ R (Itl K a) H1) ∨ ((∃ xs, SqT K H1 a xs) ∧ R (Itt K a) H1))
theorem pi_seq {tg l : Expr} {tl : TE} (hl : PE X l tl) : PI X tg l (iSeq X.K tl) := by
  constructor
  intro pz s0 τ G Rw J0 hw
  apply thn (hl.run pz s0 τ G _ J0 hw)
  rintro val st ⟨x, G1, J1, rx, adr, rfl, hcase⟩
  cases rx
  have fr : ∀ b ∈ [st.heap.objs.size], FpOk X pz G1 b := fun b hb => by
    rw [List.mem_singleton] at hb
    rw [hb]
    exact J1.fpOk (Nat.le_refl _) (J1.hok.fresh (Nat.le_refl _))
  rcases hcase with ⟨⟨ys, hq⟩, q⟩ | ⟨⟨ys, hq⟩, q⟩
  · obtain ⟨its, _, pl, _⟩ := J1.list hq
    apply wpAny_pyIter_list pl.isList
    exact ⟨_, [st.heap.objs.size], _, _, G1, rfl, J1.kept (t' := st.toks) fun b o e => Heap.get?_push_of_some _ e, turn_list adr _, ⟨_, Heap.get?_push_size _ rfl, rfl, rfl⟩, fr, q⟩
  · obtain ⟨its, _, pl, _⟩ := J1.tuple hq
    apply wpAny_pyIter_tuple (show st.heap.IsTuple adr its.toArray from pl)
    exact ⟨_, [st.heap.objs.size], _, _, G1, rfl, J1.kept (t' := st.toks) fun b o e => Heap.get?_push_of_some _ e, turn_tuple adr _, ⟨_, Heap.get?_push_size _ rfl, rfl, rfl⟩, fr, q⟩

/-- a walk that yields these data, wherever B goes on -/
def Walks (K : PySem.W.Frag) (B : Hp) (J : It) (ds : List PyData) : Prop := ∀ (B' H' : Hp), Ex B B' → Ex B' H' → ∀ i : Nat, (ds.length = i → J.stop i H') ∧
  ∀ d, ds[i]? = some d → J.go i H' ∧ ∀ x H2, J.yld i H' x H2 → ∃ B2, Gn B' H' B2 H2 ∧ Dp K B2 x d
theorem walks_l {a : Addr} {vs : List V} {ds : List PyData} (h : SqL K B a vs) (hd : DpAll K B vs ds) : Walks K B (Itl K a) ds := fun B' H' e1 e2 i => by
  have h' := ex_l (e1.trans e2) h
  refine ⟨fun hi => ⟨vs, h', by rw [dpa_len hd]; exact Nat.le_of_eq hi⟩, fun d e => ?_⟩
  obtain ⟨v, hv, dv⟩ := dpa_get hd e
  refine ⟨⟨vs, v, h', hv⟩, fun x H2 y => ?_⟩
  obtain ⟨rfl, hx⟩ := y
  have := (hx vs h').symm.trans hv
  cases this
  exact ⟨B', Gn.refl e2, dp_mono e1 dv⟩
theorem walks_t {a : Addr} {vs : List V} {ds : List PyData} (h : SqT K B a vs) (hd : DpAll K B vs ds) : Walks K B (Itt K a) ds := fun B' H' e1 e2 i => by
  have h' := ex_t (e1.trans e2) h
  refine ⟨fun hi => ⟨vs, h', by rw [dpa_len hd]; exact Nat.le_of_eq hi⟩, fun d e => ?_⟩
  obtain ⟨v, hv, dv⟩ := dpa_get hd e
  refine ⟨⟨vs, v, h', hv⟩, fun x H2 y => ?_⟩
  obtain ⟨rfl, hx⟩ := y
  have := (hx vs h').symm.trans hv
  cases this
  exact ⟨B', Gn.refl e2, dp_mono e1 dv⟩
def rngD (lo : Int) (n : Nat) : List PyData := (List.range n).map fun i => .int (lo + (i : Nat))
theorem walks_r {lo : Int} {n : Nat} : Walks K B (Itr lo n) (rngD lo n) := fun B' H' e1 e2 i => by
  refine ⟨fun hi => ?_, fun d e => ?_⟩
  · have : n ≤ i := by simpa [rngD] using Nat.le_of_eq hi
    exact this
  · unfold rngD at e
    rw [List.getElem?_map] at e
    by_cases c : i < n
    · rw [List.getElem?_range c] at e
      cases e
      refine ⟨c, fun x H2 y => ?_⟩
      obtain ⟨rfl, rfl⟩ := y
      exact ⟨B', Gn.refl e2, .int _⟩
    · rw [List.getElem?_eq_none (by simpa using c)] at e
      cases e
def zipD (xs ys : List PyData) : List PyData := (xs.zip ys).map fun p => .tuple [p.1, p.2]
theorem zip_get {xs ys : List PyData} {i : Nat} {d : PyData} (e : (zipD xs ys)[i]? = some d) : ∃ x y, xs[i]? = some x ∧ ys[i]? = some y ∧ d = .tuple [x, y] := by
  unfold zipD at e
  rw [List.getElem?_map] at e
  cases q : (xs.zip ys)[i]? with
  | none => rw [q] at e; cases e
  | some p =>
    rw [q] at e; cases e
    rw [List.getElem?_zip_eq_some] at q
    exact ⟨p.1, p.2, q.1, q.2, rfl⟩
theorem zip_len {xs ys : List PyData} {i : Nat} (h : (zipD xs ys).length ≤ i) : xs.length ≤ i ∨ ys.length ≤ i := by
  unfold zipD at h
  rw [List.length_map, List.length_zip] at h
  omega
theorem pair_gn {T : Addr} {x y : V} {d e : PyData} (e2 : Ex B H) (h1 : Dp K B x d) (h2 : Dp K B y e) (hT : H T = none) : Gn B H (upd B T (.tup [x, y])) (upd H T (.tup [x, y])) ∧ Dp K (upd B T (.tup [x, y])) (.ref T) (.tuple [d, e]) := by
  have g := Gn.new (o := .tup [x, y]) e2 hT
  exact ⟨g, .tup (st_of upd_same) (.cons (dp_mono g.b h1) (.cons (dp_mono g.b h2) .nil))⟩
theorem walks_z {a b : Addr} {vs ws : List V} {ds es : List PyData} (h1 : SqL K B a vs) (d1 : DpAll K B vs ds) (h2 : SqL K B b ws) (d2 : DpAll K B ws es) : Walks K B (Itz K a b) (zipD ds es) := fun B' H' e1 e2 i => by
  have k1 := ex_l (e1.trans e2) h1
  have k2 := ex_l (e1.trans e2) h2
  refine ⟨fun hi => ⟨vs, ws, k1, k2, by rw [dpa_len d1, dpa_len d2]; exact zip_len (Nat.le_of_eq hi)⟩, fun d e => ?_⟩
  obtain ⟨x, y, ex, ey, rfl⟩ := zip_get e
  obtain ⟨v, hv, dv⟩ := dpa_get d1 ex
  obtain ⟨w, hw, dw⟩ := dpa_get d2 ey
  refine ⟨⟨vs, ws, v, w, k1, k2, hv, hw⟩, fun z H2 yl => ?_⟩
  obtain ⟨T, x', y', rfl, hT, rfl, q1, q2⟩ := yl
  have a1 := (q1 vs k1).symm.trans hv
  have a2 := (q2 ws k2).symm.trans hw
  cases a1; cases a2
  obtain ⟨g, q⟩ := pair_gn e2 (dp_mono e1 dv) (dp_mono e1 dw) hT
  exact ⟨_, g, q⟩
theorem walks_zT {a b : Addr} {vs ws : List V} {ds es : List PyData} (h1 : SqT K B a vs) (d1 : DpAll K B vs ds) (h2 : SqT K B b ws) (d2 : DpAll K B ws es) : Walks K B (ItzT K a b) (zipD ds es) := fun B' H' e1 e2 i => by
  have k1 := ex_t (e1.trans e2) h1
  have k2 := ex_t (e1.trans e2) h2
  refine ⟨fun hi => ⟨vs, ws, k1, k2, by rw [dpa_len d1, dpa_len d2]; exact zip_len (Nat.le_of_eq hi)⟩, fun d e => ?_⟩
  obtain ⟨x, y, ex, ey, rfl⟩ := zip_get e
  obtain ⟨v, hv, dv⟩ := dpa_get d1 ex
  obtain ⟨w, hw, dw⟩ := dpa_get d2 ey
  refine ⟨⟨vs, ws, v, w, k1, k2, hv, hw⟩, fun z H2 yl => ?_⟩
  obtain ⟨T, x', y', rfl, hT, rfl, q1, q2⟩ := yl
  have a1 := (q1 vs k1).symm.trans hv
  have a2 := (q2 ws k2).symm.trans hw
  cases a1; cases a2
  obtain ⟨g, q⟩ := pair_gn e2 (dp_mono e1 dv) (dp_mono e1 dw) hT
  exact ⟨_, g, q⟩
def enumD (xs : List PyData) : List PyData := (rngD 0 xs.length).zip xs |>.map fun p => .tuple [p.1, p.2]
theorem enum_get {xs : List PyData} {i : Nat} {d : PyData} (e : (enumD xs)[i]? = some d) : ∃ x, xs[i]? = some x ∧ d = .tuple [.int (i : Nat), x] := by
  obtain ⟨x, y, e1, e2, rfl⟩ := zip_get (xs := rngD 0 xs.length) (ys := xs) e
  unfold rngD at e1
  rw [List.getElem?_map] at e1
  by_cases c : i < xs.length
  · rw [List.getElem?_range c] at e1
    cases e1
    exact ⟨y, e2, by simp⟩
  · rw [List.getElem?_eq_none (by simpa using c)] at e1
    cases e1
theorem walks_e {a : Addr} {vs : List V} {ds : List PyData} (h1 : SqL K B a vs) (d1 : DpAll K B vs ds) : Walks K B (Ite K a) (enumD ds) := fun B' H' e1 e2 i => by
  have k1 := ex_l (e1.trans e2) h1
  refine ⟨fun hi => ⟨vs, k1, by rw [dpa_len d1]; simpa [enumD, rngD] using Nat.le_of_eq hi⟩, fun d e => ?_⟩
  obtain ⟨x, ex, rfl⟩ := enum_get e
  obtain ⟨v, hv, dv⟩ := dpa_get d1 ex
  refine ⟨⟨vs, v, k1, hv⟩, fun z H2 yl => ?_⟩
  obtain ⟨T, x', rfl, hT, rfl, q1⟩ := yl
  have a1 := (q1 vs k1).symm.trans hv
  cases a1
  obtain ⟨g, q⟩ := pair_gn e2 (Dp.int (i : Nat)) (dp_mono e1 dv) hT
  exact ⟨_, g, q⟩

def EvI (K : PySem.W.Frag) (mg : Str → Option Value) (W : WX) (t : TI) (r : AS → R (List PyData)) : Prop := ∀ (σ : L2.St) (B H : Hp) (ss : AS) (Q : It → Hp → Prop), Rep K B H σ ss → Gets K mg W σ B H ss (fun _ B2 _ J ds => Walks K B2 J ds) (r ss) Q → t σ H Q
def iR (r : AS → R PyData) : AS → R (List PyData) := fun ss => (r ss).bind fun d s => lift ((seqOf d).map Prod.snd) s
theorem ei_seq {te : TE} {r : AS → R PyData} (h : EvR K mg W te r) : EvI K mg W (iSeq K te) (iR r) := fun σ B H ss Q R g =>
  h σ B H ss _ R (gets_bind g fun d s1 v B1 H1 _ _ R1 d1 h1 => by
    obtain ⟨ds, hz, q⟩ := gets_lift R1 h1
    unfold seqOf at hz
    split at hz
    · cases hz
      cases d1 with
      | lst sl da => exact ⟨_, rfl, .inl ⟨⟨_, ex_l R1.ex sl⟩, q _ B1 H1 (Gn.refl R1.ex) (walks_l sl da)⟩⟩
    · cases hz
      cases d1 with
      | tup sl da => exact ⟨_, rfl, .inr ⟨⟨_, ex_t R1.ex sl⟩, q _ B1 H1 (Gn.refl R1.ex) (walks_t sl da)⟩⟩
    · cases hz)
def iRng (rl : AS → R (List PyData)) : AS → R (List PyData) := fun ss => (rl ss).bind fun l s => match l with
  | [.int j] => if -(2 ^ 62) ≤ j ∧ j < 2 ^ 62 then .ok (rngD 0 j.toNat) s else .no
  | [.int i, .int j] => if -(2 ^ 62) ≤ i ∧ i < 2 ^ 62 ∧ -(2 ^ 62) ≤ j ∧ j < 2 ^ 62 then .ok (rngD i (j - i).toNat) s else .no
  | _ => .no
theorem ei_rng1 {ta : TE} {ra : AS → R PyData} (h : EvR K mg W ta ra) : EvI K mg W (iRng1 (tCons ta tNil)) (iRng (lCons ra lNil)) := fun σ B H ss Q R g =>
  el_cons h el_nil σ B H ss _ R (gets_bind g fun l s1 vs B1 H1 e1 _ R1 d1 h1 => by
    unfold lCons lNil at e1
    cases q : ra ss with
    | no => rw [q] at e1; cases e1
    | ex c s => rw [q] at e1; cases e1
    | ok a s =>
      rw [q] at e1; cases e1
      obtain ⟨v, rfl, dv⟩ := dpa1 d1
      cases dv with
      | int j =>
        by_cases c : -(2 ^ 62) ≤ j ∧ j < 2 ^ 62
        · simp only [if_pos c] at h1
          exact ⟨j, rfl, c.1, c.2, gets_ok R1 h1 _ B1 H1 (Gn.refl R1.ex) walks_r⟩
        · simp only [if_neg c] at h1; exact h1.elim
      | non => exact h1.elim
      | bl _ => exact h1.elim
      | str _ => exact h1.elim
      | lst _ _ => exact h1.elim
      | tup _ _ => exact h1.elim)
theorem ei_rng2 {ta tb : TE} {ra rb : AS → R PyData} (h : EvR K mg W ta ra) (k : EvR K mg W tb rb) : EvI K mg W (iRng2 (tCons ta (tCons tb tNil))) (iRng (lCons ra (lCons rb lNil))) := fun σ B H ss Q R g =>
  el_cons h (el_cons k el_nil) σ B H ss _ R (gets_bind g fun l s1 vs B1 H1 e1 _ R1 d1 h1 => by
    have : ∃ a b, l = [a, b] := by
      unfold lCons lNil at e1
      cases q : ra ss with
      | no => rw [q] at e1; cases e1
      | ex c s => rw [q] at e1; cases e1
      | ok a s =>
        rw [q] at e1
        simp only [bind_ok] at e1
        cases q2 : rb s with
        | no => rw [q2] at e1; cases e1
        | ex c s => rw [q2] at e1; cases e1
        | ok b s => rw [q2] at e1; cases e1; exact ⟨_, _, rfl⟩
    obtain ⟨a, b, rfl⟩ := this
    obtain ⟨v, w, rfl, dv, dw⟩ := dpa2 d1
    cases dv with
    | int i =>
      cases dw with
      | int j =>
        by_cases c : -(2 ^ 62) ≤ i ∧ i < 2 ^ 62 ∧ -(2 ^ 62) ≤ j ∧ j < 2 ^ 62
        · simp only [if_pos c] at h1
          exact ⟨i, j, rfl, c, gets_ok R1 h1 _ B1 H1 (Gn.refl R1.ex) walks_r⟩
        · simp only [if_neg c] at h1; exact h1.elim
      | non => exact h1.elim
      | bl _ => exact h1.elim
      | str _ => exact h1.elim
      | lst _ _ => exact h1.elim
      | tup _ _ => exact h1.elim
    | non => exact h1.elim
    | bl _ => exact h1.elim
    | str _ => exact h1.elim
    | lst _ _ => exact h1.elim
    | tup _ _ => exact h1.elim)
def iZp (rl : AS → R (List PyData)) : AS → R (List PyData) := fun ss => (rl ss).bind fun l s => match l with
  | [.list xs, .list ys] => .ok (zipD xs ys) s
  | [.tuple xs, .tuple ys] => .ok (zipD xs ys) s
  | _ => .no
theorem ei_zip {tl : TA} {rl : AS → R (List PyData)} (h : EvL K mg W tl rl) : EvI K mg W (iZipA K tl) (iZp rl) := fun σ B H ss Q R g =>
  h σ B H ss _ R (gets_bind g fun l s1 vs B1 H1 _ _ R1 d1 h1 => by
    split at h1
    · obtain ⟨v, w, rfl, dv, dw⟩ := dpa2 d1
      cases dv with
      | lst sv av =>
        cases dw with
        | lst sw aw => exact ⟨_, _, _, _, rfl, .inl ⟨ex_l R1.ex sv, ex_l R1.ex sw, gets_ok R1 h1 _ B1 H1 (Gn.refl R1.ex) (walks_z sv av sw aw)⟩⟩
    · obtain ⟨v, w, rfl, dv, dw⟩ := dpa2 d1
      cases dv with
      | tup sv av =>
        cases dw with
        | tup sw aw => exact ⟨_, _, _, _, rfl, .inr ⟨ex_t R1.ex sv, ex_t R1.ex sw, gets_ok R1 h1 _ B1 H1 (Gn.refl R1.ex) (walks_zT sv av sw aw)⟩⟩
    · exact h1.elim)
def iEn (rl : AS → R (List PyData)) : AS → R (List PyData) := fun ss => (rl ss).bind fun l s => match l with
  | [.list xs] => .ok (enumD xs) s
  | _ => .no
theorem ei_enum {tl : TA} {rl : AS → R (List PyData)} (h : EvL K mg W tl rl) : EvI K mg W (iEnum K tl) (iEn rl) := fun σ B H ss Q R g =>
  h σ B H ss _ R (gets_bind g fun l s1 vs B1 H1 _ _ R1 d1 h1 => by
    split at h1
    · obtain ⟨v, rfl, dv⟩ := dpa1 d1
      cases dv with
      | lst sv av => exact ⟨_, _, rfl, ex_l R1.ex sv, gets_ok R1 h1 _ B1 H1 (Gn.refl R1.ex) (walks_e sv av)⟩
    · exact h1.elim)

/-! ### targets -/
abbrev Tg := PyData → AS → Option AS
def EvG (K : PySem.W.Frag) (vs : List Nat) (g : TG) (tg : Tg) : Prop := ∀ (σ : L2.St) (B H : Hp) (ss s2 : AS) (v : V) (d : PyData) (Q : L2.St → Hp → Prop), Rep K B H σ ss → Dp K B v d → tg d ss = some s2 →
  (∀ σ2, Rep K B H σ2 s2 → (∀ a, Own σ2 s2 a → Own σ ss a) → σ2.length = σ.length → (∀ j, j ∉ vs → σ2[j]? = σ[j]?) → Q σ2 H) → g v σ H Q
def gN (i : Nat) : Tg := fun d ss => some (ss.set i (.d d))
theorem Rep.put {i : Nat} {v : V} {d : PyData} (R : Rep K B H σ ss) (h : Dp K B v d) : Rep K B H (σ.set i (some v)) (ss.set i (.d d)) ∧ ∀ a, Own (σ.set i (some v)) (ss.set i (.d d)) a → Own σ ss a := by
  have ow : ∀ (j : Nat) (s : Sv) (a : Addr), (ss.set i (Sv.d d))[j]? = some s → isO s = true → (σ.set i (some v))[j]? = some (some (.ref a)) → j ≠ i ∧ ss[j]? = some s ∧ σ[j]? = some (some (.ref a)) := fun j s a e1 es e2 => by
    rcases set_get_some e1 with ⟨_, c, _⟩ | ⟨c1, c2⟩
    · subst c; cases es
    · rw [List.getElem?_set_ne (fun q => c1 q.symm)] at e2
      exact ⟨c1, c2, e2⟩
  refine ⟨⟨R.ex, by rw [List.length_set, List.length_set]; exact R.len, fun j s o e1 e2 => ?_, fun j k p s t e1 e2 o1 o2 e3 e4 => ?_⟩, fun a ⟨j, s, e1, es, e2⟩ => ?_⟩
  · rcases set_get_some e1 with ⟨c1, c2, c3⟩ | ⟨c1, c2⟩
    · subst c1; subst c2
      rw [List.getElem?_set] at e2
      rw [R.len] at c3
      simp [c3] at e2
      subst e2
      exact ⟨v, rfl, h⟩
    · rw [List.getElem?_set_ne (fun q => c1 q.symm)] at e2
      exact R.sv j s o c2 e2
  · obtain ⟨_, a1, a2⟩ := ow j s p e1 o1 e3
    obtain ⟨_, b1, b2⟩ := ow k t p e2 o2 e4
    exact R.dj j k p s t a1 b1 o1 o2 a2 b2
  · obtain ⟨_, a1, a2⟩ := ow j s a e1 es e2
    exact ⟨j, s, a1, es, a2⟩
theorem eg_name {i : Nat} : EvG K [i] (gName i) (gN i) := fun σ B H ss s2 v d Q R h e k => by
  cases e
  obtain ⟨R1, o1⟩ := R.put (i := i) h
  exact k _ R1 o1 (List.length_set ..) fun j hj => List.getElem?_set_ne (fun c => hj (by simp [c]))
abbrev Tgs := List PyData → AS → Option AS
def EvGs (K : PySem.W.Frag) (vs : List Nat) (g : TGs) (tg : Tgs) : Prop := ∀ (σ : L2.St) (B H : Hp) (ss s2 : AS) (v : List V) (d : List PyData) (Q : L2.St → Hp → Prop), Rep K B H σ ss → DpAll K B v d → tg d ss = some s2 →
  (∀ σ2, Rep K B H σ2 s2 → (∀ a, Own σ2 s2 a → Own σ ss a) → σ2.length = σ.length → (∀ j, j ∉ vs → σ2[j]? = σ[j]?) → Q σ2 H) → g v σ H Q
def gsN : Tgs := fun d ss => if d.length = 0 then some ss else none
def gsC (t : Tg) (u : Tgs) : Tgs := fun d ss => match d with
  | x :: r => (t x ss).bind fun s => u r s
  | [] => none
theorem egs_nil : EvGs K [] gNil gsN := fun σ B H ss s2 v d Q R h e k => by
  unfold gsN at e
  split at e
  · rename_i c; cases e
    have : v = [] := List.eq_nil_of_length_eq_zero ((dpa_len h).trans c)
    exact ⟨this, k σ R (fun _ q => q) rfl fun _ _ => rfl⟩
  · cases e
theorem egs_cons {vs ws : List Nat} {g : TG} {gs : TGs} {t : Tg} {u : Tgs} (h1 : EvG K vs g t) (h2 : EvGs K ws gs u) : EvGs K (vs ++ ws) (gCons g gs) (gsC t u) := fun σ B H ss s2 v d Q R h e k => by
  cases h with
  | nil => cases e
  | @cons v0 vr d0 dr hd hr =>
    unfold gsC at e
    dsimp only at e
    cases q : t d0 ss with
    | none => rw [q] at e; cases e
    | some s1 =>
      rw [q] at e
      refine ⟨v0, vr, rfl, h1 σ B H ss s1 v0 d0 _ R hd q fun σ2 R2 o2 l2 f2 => h2 σ2 B H s1 s2 vr dr _ R2 hr e fun σ3 R3 o3 l3 f3 => k σ3 R3 (fun a z => o2 a (o3 a z)) (l3.trans l2) fun j hj => ?_⟩
      rw [List.mem_append] at hj
      exact (f3 j fun c => hj (.inr c)).trans (f2 j fun c => hj (.inl c))
def gT (n : Nat) (u : Tgs) : Tg := fun d ss => match d with
  | .tuple xs => if xs.length = n then u xs ss else none
  | _ => none
theorem eg_tup {vs : List Nat} {n : Nat} {gs : TGs} {u : Tgs} (h1 : EvGs K vs gs u) : EvG K vs (gTup K n gs) (gT n u) := fun σ B H ss s2 v d Q R h e k => by
  cases h with
  | tup sv av =>
    unfold gT at e
    dsimp only at e
    split at e
    · rename_i c
      exact ⟨_, _, rfl, ex_t R.ex sv, (dpa_len av).trans c, h1 σ B H ss s2 _ _ Q R av e k⟩
    · cases e
  | non => cases e
  | bl _ => cases e
  | int _ => cases e
  | str _ => cases e
  | lst _ _ => cases e

/-! ### comprehensions -/
def wipeA (ss : AS) : List Nat → AS
  | [] => ss
  | v :: vs => (wipeA ss vs).set v .un
def keepD : Option Sv → Sv
  | some (.d x) => .d x
  | some (.fn f) => .fn f
  | _ => .un
/-- behind a comprehension: its own slots as they were -/
def rstA (ss s2 : AS) : List Nat → AS
  | [] => s2
  | v :: vs => (rstA ss s2 vs).set v (keepD ss[v]?)
theorem wipe_get (vs : List Nat) (j : Nat) (τ : L2.St) : (wipe τ vs)[j]? = if j ∈ vs then (τ[j]?).map (fun _ => Option.none) else τ[j]? := by
  induction vs with
  | nil => simp [wipe]
  | cons a r ih =>
    unfold wipe
    rw [List.getElem?_set]
    by_cases c : a = j
    · subst c
      simp [wipe_length]
      by_cases l : a < τ.length
      · simp [l]
      · simp [l]
    · rw [if_neg c, ih]
      simp [show ¬ j = a from fun q => c q.symm]
theorem wipeA_len (vs : List Nat) (s : AS) : (wipeA s vs).length = s.length := by
  induction vs with
  | nil => rfl
  | cons a r ih => unfold wipeA; rw [List.length_set, ih]
theorem wipeA_get (vs : List Nat) (j : Nat) (s : AS) : (wipeA s vs)[j]? = if j ∈ vs then (s[j]?).map (fun _ => Sv.un) else s[j]? := by
  induction vs with
  | nil => simp [wipeA]
  | cons a r ih =>
    unfold wipeA
    rw [List.getElem?_set]
    by_cases c : a = j
    · subst c
      simp [wipeA_len]
      by_cases l : a < s.length
      · simp [l]
      · simp [l]
    · rw [if_neg c, ih]
      simp [show ¬ j = a from fun q => c q.symm]
theorem rstA_len (vs : List Nat) (ss s : AS) : (rstA ss s vs).length = s.length := by
  induction vs with
  | nil => rfl
  | cons a r ih => unfold rstA; rw [List.length_set, ih]
theorem rstA_get (vs : List Nat) (j : Nat) (ss s : AS) : (rstA ss s vs)[j]? = if j ∈ vs then (s[j]?).map (fun _ => keepD ss[j]?) else s[j]? := by
  induction vs with
  | nil => simp [rstA]
  | cons a r ih =>
    unfold rstA
    rw [List.getElem?_set]
    by_cases c : a = j
    · subst c
      simp [rstA_len]
      by_cases l : a < s.length
      · simp [l]
      · simp [l]
    · rw [if_neg c, ih]
      simp [show ¬ j = a from fun q => c q.symm]
theorem Rep.wipe (vs : List Nat) (R : Rep K B H σ ss) : Rep K B H (L2.wipe σ vs) (wipeA ss vs) ∧ ∀ a, Own (L2.wipe σ vs) (wipeA ss vs) a → Own σ ss a := by
  have back : ∀ (j : Nat) (s : Sv), (wipeA ss vs)[j]? = some s → s ≠ .un → j ∉ vs ∧ ss[j]? = some s := fun j s e n => by
    rw [wipeA_get] at e
    split at e
    · cases q : ss[j]? with
      | none => rw [q] at e; cases e
      | some z => rw [q] at e; cases e; exact absurd rfl n
    · rename_i c; exact ⟨c, e⟩
  have nu : ∀ s : Sv, isO s = true → s ≠ .un := fun s h c => by subst c; cases h
  have sg : ∀ (j : Nat), j ∉ vs → (L2.wipe σ vs)[j]? = σ[j]? := fun j hj => by rw [wipe_get, if_neg hj]
  refine ⟨⟨R.ex, by rw [wipeA_len, wipe_length]; exact R.len, fun j s o e1 e2 => ?_, fun j k p s t e1 e2 o1 o2 e3 e4 => ?_⟩, fun a ⟨j, s, e1, es, e2⟩ => ?_⟩
  · by_cases n : s = .un
    · subst n; trivial
    · obtain ⟨c1, c2⟩ := back j s e1 n
      rw [sg j c1] at e2
      exact R.sv j s o c2 e2
  · obtain ⟨c1, c2⟩ := back j _ e1 (nu s o1)
    obtain ⟨c3, c4⟩ := back k _ e2 (nu t o2)
    rw [sg j c1] at e3; rw [sg k c3] at e4
    exact R.dj j k p s t c2 c4 o1 o2 e3 e4
  · obtain ⟨c1, c2⟩ := back j _ e1 (nu s es)
    rw [sg j c1] at e2
    exact ⟨j, s, c2, es, e2⟩
/-- one turn after another; an error within is not told of -/
def compR (vs : List Nat) (tg : Tg) (rc : AS → R Bool) (re : AS → R PyData) : List PyData → List PyData → AS → R (List PyData)
  | [], acc, ss => .ok acc ss
  | d :: r, acc, ss => match tg d (wipeA ss vs) with
    | none => .no
    | some s1 => match rc s1 with
      | .ok true s2 => (match re s2 with
        | .ok y s3 => if acc.length < sizeLine then compR vs tg rc re r (acc ++ [y]) (rstA ss s3 vs) else .no
        | _ => .no)
      | .ok false s2 => compR vs tg rc re r acc (rstA ss s2 vs)
      | _ => .no
def W0 : WX := fun _ _ _ _ => False
def nComp (vs : List Nat) (ri : AS → R (List PyData)) (tg : Tg) (rc : AS → R Bool) (re : AS → R PyData) : AS → R (List PyData) := fun ss => (ri ss).bind fun ds s => compR vs tg rc re ds [] s
/-- back from the comprehension's slots -/
theorem Rep.unwipe {vs : List Nat} {B2 H2 : Hp} {σ2 : L2.St} {s2 : AS} (R : Rep K B H σ ss) (R2 : Rep K B2 H2 σ2 s2) (eb : Ex B B2) (hl : σ2.length = σ.length) (hf : ∀ j, j ∉ vs → σ2[j]? = σ[j]?) :
    Rep K B2 H2 σ (rstA ss s2 vs) ∧ ∀ a, Own σ (rstA ss s2 vs) a → Own σ2 s2 a := by
  have back : ∀ (j : Nat) (s : Sv), (rstA ss s2 vs)[j]? = some s → isO s = true → j ∉ vs ∧ s2[j]? = some s := fun j s e o => by
    rw [rstA_get] at e
    split at e
    · exfalso
      cases q : s2[j]? with
      | none => rw [q] at e; cases e
      | some z =>
        rw [q] at e
        cases q2 : ss[j]? with
        | none => rw [q2] at e; cases e; cases o
        | some w => rw [q2] at e; cases w <;> cases e <;> cases o
    · rename_i c; exact ⟨c, e⟩
  refine ⟨⟨R2.ex, by rw [rstA_len, R2.len]; exact hl, fun j s o e1 e2 => ?_, fun j k p s t e1 e2 o1 o2 e3 e4 => ?_⟩, fun a ⟨j, s, e1, es, e2⟩ => ?_⟩
  · rw [rstA_get] at e1
    split at e1
    · cases q : s2[j]? with
      | none => rw [q] at e1; cases e1
      | some z =>
        rw [q] at e1
        cases q2 : ss[j]? with
        | none => rw [q2] at e1; cases e1; trivial
        | some w =>
          rw [q2] at e1
          have z2 := R.sv j w o q2 e2
          cases w with
          | un => cases e1; trivial
          | own xs => cases e1; trivial
          | tab _ t => cases e1; trivial
          | d x => cases e1; obtain ⟨v, ev, dv⟩ := z2; exact ⟨v, ev, dp_mono eb dv⟩
          | fn f => cases e1; exact z2
    · rename_i c
      rw [← hf j c] at e2
      exact R2.sv j s o e1 e2
  · obtain ⟨c1, c2⟩ := back j s e1 o1
    obtain ⟨c3, c4⟩ := back k t e2 o2
    rw [← hf j c1] at e3; rw [← hf k c3] at e4
    exact R2.dj j k p s t c2 c4 o1 o2 e3 e4
  · obtain ⟨c1, c2⟩ := back j s e1 es
    rw [← hf j c1] at e2
    exact ⟨j, s, c2, es, e2⟩
end
end AX

/-! AX3b: a comprehension's reading -/
namespace AX
open PySem L2 Evl RZ
section
variable {K : PySem.W.Frag} {mg : Str → Option Value} {W : WX} {B H B1 H1 B2 H2 : Hp} {σ σ2 : L2.St} {ss s1 s2 : AS} {m : Nat}
theorem Go.same (h : ∀ a, Own σ2 s2 a → Own σ ss a) (hf : ∀ i, i < m → σ2[i]? = σ[i]?) : Go m B H σ ss B H σ2 s2 := ⟨Ex.refl _, fun _ _ q _ => q, fun _ q => q, fun _ q _ _ => q, fun a q => .inl (h a q), hf⟩
theorem Go.touch {D : Addr} {o : HO} (g : Go m B H σ ss B2 H2 σ2 s2) (h : H D = none) : Go m B H σ ss B2 (upd H2 D o) σ2 s2 := by
  have ne : ∀ a, H a ≠ none → a ≠ D := fun a q c => q (by rw [c]; exact h)
  refine ⟨g.b, fun a u q n => ?_, fun a q => ?_, g.sep, g.own, g.fix⟩
  · rw [upd_ne (ne a (by rw [q]; simp))]; exact g.keep a u q n
  · rw [upd_ne (ne a q)]; exact g.live a q
theorem Rep.touch {D : Addr} {o : HO} {us : List V} (R : Rep K B H σ ss) (hd : H D = some (.lst us)) (hb : B D = none) (n : ¬ Own σ ss D) : Rep K B (upd H D o) σ ss := by
  refine ⟨R.ex.mut hb, R.len, fun i s u e1 e2 => ?_, R.dj⟩
  have z := R.sv i s u e1 e2
  cases s with
  | un => trivial
  | d x => exact z
  | fn f => exact z
  | own xs =>
    obtain ⟨p, vs, e, q1, q2, q3⟩ := z
    subst e
    refine ⟨p, vs, rfl, ?_, q2, q3⟩
    rw [upd_ne (fun c => n ⟨i, _, e1, rfl, by rw [← c]; exact e2⟩)]
    exact q1
  | tab p t =>
    obtain ⟨e, q1, q2⟩ := z
    refine ⟨e, tab_stays q1 fun a u hu nl => ?_, q2⟩
    rw [upd_ne (fun c => nl us (by rw [c, hd] at hu; exact (Option.some.inj hu).symm))]
    exact hu
theorem wipe_back {vs : List Nat} (hl : σ2.length = σ.length) (hf : ∀ j, j ∉ vs → σ2[j]? = (wipe σ vs)[j]?) : wipe σ2 vs = wipe σ vs := by
  apply List.ext_getElem?
  intro j
  rw [wipe_get, wipe_get]
  by_cases c : j ∈ vs
  · rw [if_pos c, if_pos c]
    by_cases l : j < σ.length
    · rw [List.getElem?_eq_getElem l, List.getElem?_eq_getElem (by omega)]; rfl
    · rw [List.getElem?_eq_none (by omega), List.getElem?_eq_none (by omega)]
  · rw [if_neg c, if_neg c]
    have := hf j c
    rw [wipe_get, if_neg c] at this
    exact this
structure CI (K : PySem.W.Frag) (mg : Str → Option Value) (W : WX) (B1 H1 H0 : Hp) (σ : L2.St) (s1 : AS) (D : Addr) (vs : List Nat) (tg : Tg) (rc : AS → R Bool) (re : AS → R PyData) (ds : List PyData) (Q : VK) (i : Nat) (H : Hp) : Prop where
  ex : ∃ (B : Hp) (s : AS) (acc : List PyData) (avs : List V), Go 0 B1 H1 σ s1 B H σ s ∧ Rep K B H σ s ∧ H D = some (.lst avs) ∧ B D = none ∧ DpAll K B avs acc ∧ ¬ Own σ s D ∧ Gets K mg W σ B1 H1 s1 (NewL K σ H0) (compR vs tg rc re (ds.drop i) acc s) Q
theorem en_lc {wi : TI} {g : TG} {tt : TT} {te : TE} {vs ws : List Nat} {ri : AS → R (List PyData)} {tg : Tg} {rc : AS → R Bool} {re : AS → R PyData}
    (hi : EvI K mg W wi ri) (hg : EvG K ws g tg) (hv : ∀ j ∈ ws, j ∈ vs) (hc : EvB K mg W0 tt rc) (he : EvR K mg W0 te re) : EvN K mg W (tLc wi g tt te vs) (nComp vs ri tg rc re) := fun σ B H ss Q R k =>
  hi σ B H ss _ R (gets_bind k fun ds s1 J B1 H1 _ g1 R1 wk h1 => by
    intro D hD
    obtain ⟨gl, Rl, nl⟩ := R1.lay (o := .lst []) hD
    refine ⟨fun i m Hi => m = ds.length - i ∧ i ≤ ds.length ∧ CI K mg W B1 H1 H σ s1 D vs tg rc re ds Q i Hi, ⟨ds.length, by simp, Nat.zero_le _, ⟨B1, s1, [], [], gl, Rl, upd_same, free_of R1.ex hD, .nil, nl, h1⟩⟩, ?_⟩
    rintro i m Hi ⟨rfl, hle, ⟨Bi, si, acc, avs, gi, Ri, hDi, hBi, da, no, hq⟩⟩
    obtain ⟨wstop, wgo⟩ := wk Bi Hi gi.b Ri.ex i
    by_cases hlt : i < ds.length
    · right
      have hd : ds[i]? = some ds[i] := List.getElem?_eq_getElem hlt
      obtain ⟨go, yl⟩ := wgo _ hd
      refine ⟨go, fun Hn => CI K mg W B1 H1 H σ s1 D vs tg rc re ds Q (i + 1) Hn, fun H' c => ⟨ds.length - (i + 1), by omega, rfl, hlt, c⟩, fun x H' y => ?_⟩
      obtain ⟨B2, gn, dx⟩ := yl x H' y
      have R2 := Ri.gn gn
      obtain ⟨Rw, ow⟩ := R2.wipe vs
      rw [List.drop_eq_getElem_cons hlt] at hq
      unfold compR at hq
      cases et : tg ds[i] (wipeA si vs) with
      | none => rw [et] at hq; exact hq.elim
      | some s' =>
        rw [et] at hq
        dsimp only at hq
        refine hg _ B2 H' _ s' x _ _ Rw dx et fun σ2 Rt ot lt ft => ?_
        have lt' : σ2.length = σ.length := lt.trans (wipe_length σ vs)
        refine ⟨wipe_back lt' fun j hj => ft j fun c => hj (hv j c), ?_⟩
        have g0 : Go 0 Bi Hi σ si B2 H' σ2 s' := gn.go.trans (Go.same (fun a q => ow a (ot a q)) fun i hi => absurd hi (by omega))
        have hf2 : ∀ j, j ∉ vs → σ2[j]? = σ[j]? := fun j hj => (ft j fun c => hj (hv j c)).trans (by rw [wipe_get, if_neg hj])
        have HD : Hi D ≠ none := by rw [hDi]; simp
        have stay : ∀ {B3 H3 : Hp} {s3 : AS} {τ : L2.St}, Go 0 Bi Hi σ si B3 H3 τ s3 → H3 D = some (.lst avs) ∧ B3 D = none ∧ ¬ Own τ s3 D := fun {B3 H3 s3 τ} q => ⟨q.keep D _ hDi no, q.sep D hBi HD no, fun z => by
          rcases q.own D z with z | z
          · exact no z
          · exact HD z⟩
        cases ec : rc s' with
        | no => rw [ec] at hq; exact hq.elim
        | ex c s3 => rw [ec] at hq; exact hq.elim
        | ok b s3 =>
          rw [ec] at hq
          refine hc σ2 B2 H' s' _ Rt ?_
          rw [ec]
          intro b' B3 H3 g3 R3 eb
          subst eb
          have g03 := g0.trans g3
          cases b' with
          | false =>
            dsimp only at hq
            rw [if_neg (by simp)]
            obtain ⟨Ru, ou⟩ := Rep.unwipe (vs := vs) Ri R3 g03.b lt' hf2
            have gu : Go 0 Bi Hi σ si B3 H3 σ (rstA si s3 vs) := g03.trans (Go.same ou fun i hi => absurd hi (by omega))
            obtain ⟨a1, a2, a3⟩ := stay gu
            exact ⟨B3, _, acc, avs, gi.trans gu, Ru, a1, a2, dpa_mono gu.b da, a3, hq⟩
          | true =>
            dsimp only at hq
            rw [if_pos rfl]
            cases ee : re s3 with
            | no => rw [ee] at hq; exact hq.elim
            | ex c s4 => rw [ee] at hq; exact hq.elim
            | ok y s4 =>
              rw [ee] at hq
              dsimp only at hq
              refine he σ2 B3 H3 s3 _ R3 ?_
              rw [ee]
              intro yv B4 H4 g4 R4 dy
              have g04 := g03.trans g4
              by_cases cl : acc.length < sizeLine
              · rw [if_pos cl] at hq
                obtain ⟨Ru, ou⟩ := Rep.unwipe (vs := vs) Ri R4 g04.b lt' hf2
                have gu : Go 0 Bi Hi σ si B4 H4 σ (rstA si s4 vs) := g04.trans (Go.same ou fun i hi => absurd hi (by omega))
                obtain ⟨a1, a2, a3⟩ := stay gu
                refine ⟨avs, a1, by rw [dpa_len da]; exact cl, ⟨B4, _, acc ++ [y], avs ++ [yv], (gi.trans gu).touch hD, Ru.touch a1 a2 a3, upd_same, a2, dpa_app (dpa_mono gu.b da) (.cons dy .nil), a3, hq⟩⟩
              · rw [if_neg cl] at hq; exact hq.elim
    · left
      have : ds.drop i = [] := List.drop_eq_nil_of_le (by omega)
      rw [this] at hq
      refine ⟨wstop (by omega), ?_⟩
      exact hq _ Bi Hi gi Ri ⟨D, avs, rfl, go_back g1 hD, hDi, hBi, da, no⟩)
theorem eb_yes : EvB K mg W tYes (fun ss => .ok true ss) := fun σ B H ss Q R g => gets_ok R g _ B H (Gn.refl R.ex) rfl
end
end AX

/-! AX4: statements -/
namespace AX
open PySem L2 Evl RZ
/-- how a statement ends -/
inductive Fl where
  | nx (s : AS)
  | rt (d : PyData) (s : AS)
  | bk (s : AS)
  | ct (s : AS)
  | ex (c : Str) (s : AS)
  | no
def R.fl {α : Type} (r : R α) (k : α → AS → Fl) : Fl := match r with
  | .ok a s => k a s
  | .ex c s => .ex c s
  | .no => .no
def Fl.bind (f : Fl) (k : AS → Fl) : Fl := match f with
  | .nx s => k s
  | .rt d s => .rt d s
  | .bk s => .bk s
  | .ct s => .ct s
  | .ex c s => .ex c s
  | .no => .no
@[simp] theorem fl_ok {α : Type} (a : α) (s : AS) (k : α → AS → Fl) : (R.ok a s).fl k = k a s := rfl
@[simp] theorem fl_ex {α : Type} (c : Str) (s : AS) (k : α → AS → Fl) : (R.ex c s : R α).fl k = .ex c s := rfl
@[simp] theorem fl_no {α : Type} (k : α → AS → Fl) : (R.no : R α).fl k = .no := rfl
@[simp] theorem flb_nx (s : AS) (k : AS → Fl) : (Fl.nx s).bind k = k s := rfl
@[simp] theorem flb_rt (d : PyData) (s : AS) (k : AS → Fl) : (Fl.rt d s).bind k = .rt d s := rfl
@[simp] theorem flb_bk (s : AS) (k : AS → Fl) : (Fl.bk s).bind k = .bk s := rfl
@[simp] theorem flb_ct (s : AS) (k : AS → Fl) : (Fl.ct s).bind k = .ct s := rfl
@[simp] theorem flb_ex (c : Str) (s : AS) (k : AS → Fl) : (Fl.ex c s).bind k = .ex c s := rfl
@[simp] theorem flb_no (k : AS → Fl) : (Fl.no).bind k = .no := rfl
section
variable (K : PySem.W.Frag) (mg : Str → Option Value) (W : WX) (m : Nat)
def GetsS (σ : L2.St) (B H : Hp) (ss : AS) (f : Fl) (D : Ends) : Prop := match f with
  | .nx s2 => ∀ σ2 B2 H2, Go m B H σ ss B2 H2 σ2 s2 → Rep K B2 H2 σ2 s2 → D.nx σ2 H2
  | .rt d s2 => ∀ v σ2 B2 H2, Go m B H σ ss B2 H2 σ2 s2 → Rep K B2 H2 σ2 s2 → Dp K B2 v d → D.rt v H2
  | .bk s2 => ∀ σ2 B2 H2, Go m B H σ ss B2 H2 σ2 s2 → Rep K B2 H2 σ2 s2 → D.bk σ2 H2
  | .ct s2 => ∀ σ2 B2 H2, Go m B H σ ss B2 H2 σ2 s2 → Rep K B2 H2 σ2 s2 → D.ct σ2 H2
  | .ex c s2 => ∀ u σ2 B2 H2, mg c = some u → Go m B H σ ss B2 H2 σ2 s2 → Rep K B2 H2 σ2 s2 → W u none σ2 H2
  | .no => False
def EvS (t : TS) (r : AS → Fl) : Prop := ∀ (σ : L2.St) (B H : Hp) (ss : AS) (D : Ends), Rep K B H σ ss → GetsS K mg W m σ B H ss (r ss) D → t D σ H
end
section
variable {K : PySem.W.Frag} {mg : Str → Option Value} {W : WX} {B H B1 H1 B2 H2 : Hp} {σ σ1 σ2 : L2.St} {ss s1 s2 : AS} {m : Nat}
theorem Go.any (g : Go 0 B H σ ss B2 H2 σ s2) : Go m B H σ ss B2 H2 σ s2 := ⟨g.b, g.keep, g.live, g.sep, g.own, fun _ _ => rfl⟩
theorem Go.to0 (g : Go m B H σ ss B2 H2 σ2 s2) : Go 0 B H σ ss B2 H2 σ2 s2 := ⟨g.b, g.keep, g.live, g.sep, g.own, fun i hi => absurd hi (by omega)⟩
theorem GetsS.after {f : Fl} {D : Ends} (g : Go m B H σ ss B1 H1 σ1 s1) (h : GetsS K mg W m σ B H ss f D) : GetsS K mg W m σ1 B1 H1 s1 f D := by
  cases f with
  | nx s2 => exact fun σ2 B2 H2 k R => h σ2 B2 H2 (g.trans k) R
  | rt d s2 => exact fun v σ2 B2 H2 k R q => h v σ2 B2 H2 (g.trans k) R q
  | bk s2 => exact fun σ2 B2 H2 k R => h σ2 B2 H2 (g.trans k) R
  | ct s2 => exact fun σ2 B2 H2 k R => h σ2 B2 H2 (g.trans k) R
  | ex c s2 => exact fun u σ2 B2 H2 e k R => h u σ2 B2 H2 e (g.trans k) R
  | no => exact h
/-- from an expression to the statement -/
theorem gets_fl {α β : Type} {rel : AS → Hp → Hp → β → α → Prop} {r : R α} {k : α → AS → Fl} {D : Ends} {Q1 : β → Hp → Prop} (h : GetsS K mg W m σ B H ss (r.fl k) D)
    (st : ∀ a s1 v B1 H1, r = .ok a s1 → Go 0 B H σ ss B1 H1 σ s1 → Rep K B1 H1 σ s1 → rel s1 B1 H1 v a → GetsS K mg W m σ B1 H1 s1 (k a s1) D → Q1 v H1) : Gets K mg W σ B H ss rel r Q1 := by
  cases r with
  | ok a s1 => exact fun v B1 H1 g R q => st a s1 v B1 H1 rfl g R q (GetsS.after g.any h)
  | ex c s1 => exact fun u B2 H2 e g R => h u σ B2 H2 e g.any R
  | no => exact h
theorem gets_nx {D : Ends} (R : Rep K B H σ ss) (h : GetsS K mg W m σ B H ss (.nx ss) D) : D.nx σ H := h σ B H Go.refl R

def sNext : AS → Fl := fun ss => .nx ss
theorem es_next : EvS K mg W m tNext sNext := fun σ B H ss D R h => gets_nx R h
def sBrk : AS → Fl := fun ss => .bk ss
def sCont : AS → Fl := fun ss => .ct ss
theorem es_brk : EvS K mg W m tBreak sBrk := fun σ B H ss D R h => h σ B H Go.refl R
theorem es_cont : EvS K mg W m tCont sCont := fun σ B H ss D R h => h σ B H Go.refl R
def sSeq (a b : AS → Fl) : AS → Fl := fun ss => (a ss).bind b
theorem es_seq {t u : TS} {a b : AS → Fl} (ha : EvS K mg W m t a) (hb : EvS K mg W m u b) : EvS K mg W m (tSeq t u) (sSeq a b) := fun σ B H ss D R h => by
  refine ha σ B H ss _ R ?_
  unfold sSeq at h
  cases e : a ss with
  | nx s1 =>
    rw [e] at h
    exact fun σ2 B2 H2 g R2 => hb σ2 B2 H2 s1 D R2 (GetsS.after g h)
  | rt d s2 => rw [e] at h; exact h
  | bk s2 => rw [e] at h; exact h
  | ct s2 => rw [e] at h; exact h
  | ex c s2 => rw [e] at h; exact h
  | no => rw [e] at h; exact h
def sIf (c : AS → R Bool) (a b : AS → Fl) : AS → Fl := fun ss => (c ss).fl fun k s => if k then a s else b s
theorem es_if {tc : TT} {t u : TS} {c : AS → R Bool} {a b : AS → Fl} (hc : EvB K mg W tc c) (ha : EvS K mg W m t a) (hb : EvS K mg W m u b) : EvS K mg W m (tIfS tc t u) (sIf c a b) := fun σ B H ss D R h =>
  hc σ B H ss _ R (gets_fl h fun k s1 v B1 H1 _ _ R1 e h1 => by
    subst e
    cases v with
    | true => exact ha σ B1 H1 s1 D R1 h1
    | false => exact hb σ B1 H1 s1 D R1 h1)
def sRet (re : AS → R PyData) : AS → Fl := fun ss => (re ss).fl fun d s => .rt d s
theorem es_ret {te : TE} {re : AS → R PyData} (he : EvR K mg W te re) : EvS K mg W m (tRet te) (sRet re) := fun σ B H ss D R h =>
  he σ B H ss _ R (gets_fl h fun d s1 v B1 H1 _ _ R1 dv h1 => h1 v σ B1 H1 Go.refl R1 dv)
def sRetN : AS → Fl := fun ss => .rt .none ss
theorem es_retN : EvS K mg W m tRetN sRetN := fun σ B H ss D R h => h .non σ B H Go.refl R .non
def sDrop (re : AS → R PyData) : AS → Fl := fun ss => (re ss).fl fun _ s => .nx s
theorem es_drop {te : TE} {re : AS → R PyData} (he : EvR K mg W te re) : EvS K mg W m (tDrop te) (sDrop re) := fun σ B H ss D R h =>
  he σ B H ss _ R (gets_fl h fun d s1 v B1 H1 _ _ R1 dv h1 => gets_nx R1 h1)
/-- an assignment of data -/
def sAsg (tg : Tg) (re : AS → R PyData) : AS → Fl := fun ss => (re ss).fl fun d s => match tg d s with | some s2 => .nx s2 | none => .no
theorem es_asg {vs : List Nat} {te : TE} {g : TG} {tg : Tg} {re : AS → R PyData} (hg : EvG K vs g tg) (hm : (vs.all fun j => decide (m ≤ j)) = true) (he : EvR K mg W te re) : EvS K mg W m (tAsg te g) (sAsg tg re) := fun σ B H ss D R h =>
  he σ B H ss _ R (gets_fl h fun d s1 v B1 H1 _ _ R1 dv h1 => by
    cases e : tg d s1 with
    | none => rw [e] at h1; exact h1.elim
    | some s2 =>
      rw [e] at h1
      refine hg σ B1 H1 s1 s2 v d _ R1 dv e fun σ2 R2 o2 l2 f2 => h1 σ2 B1 H1 (Go.same o2 fun i hi => f2 i fun hv => ?_) R2
      have := of_decide_eq_true (List.all_eq_true.mp hm i hv)
      omega)
/-- an assignment of a list of one's own -/
def sSetN (i : Nat) (rn : AS → R (List PyData)) : AS → Fl := fun ss => (rn ss).fl fun ds s => .nx (s.set i (.own ds))
theorem es_setN {i : Nat} {te : TE} {rn : AS → R (List PyData)} (hm : m ≤ i) (he : EvN K mg W te rn) : EvS K mg W m (tAsg te (gName i)) (sSetN i rn) := fun σ B H ss D R h => by
  refine he σ B H ss _ R ?_
  unfold sSetN at h
  cases e : rn ss with
  | no => rw [e] at h; exact h
  | ex c s1 => rw [e] at h; exact fun u B2 H2 e2 g R2 => h u σ B2 H2 e2 g.any R2
  | ok ds s1 =>
    rw [e] at h
    rintro v B1 H1 g1 R1 ⟨p, vs, rfl, h0, h1, h2, h3, h4⟩
    have ow : ∀ (j : Nat) (s : Sv) (a : Addr), (s1.set i (Sv.own ds))[j]? = some s → (σ.set i (some (V.ref p)))[j]? = some (some (.ref a)) → (j = i ∧ a = p) ∨ (j ≠ i ∧ s1[j]? = some s ∧ σ[j]? = some (some (.ref a))) := fun j s a e1 e2 => by
      rcases set_get_some e1 with ⟨c1, c2, c3⟩ | ⟨c1, c2⟩
      · subst c1
        left
        rw [List.getElem?_set] at e2
        rw [R1.len] at c3
        simp [c3] at e2
        exact ⟨rfl, e2.symm⟩
      · rw [List.getElem?_set_ne (fun q => c1 q.symm)] at e2
        exact .inr ⟨c1, c2, e2⟩
    refine h (σ.set i (some (.ref p))) B1 H1 ⟨g1.b, g1.keep, g1.live, g1.sep, fun a ⟨j, s, e1, es, e2⟩ => ?_, fun j hj => List.getElem?_set_ne (by omega)⟩ ⟨R1.ex, by rw [List.length_set, List.length_set]; exact R1.len, fun j s o e1 e2 => ?_, fun j k q s t e1 e2 o1 o2 e3 e4 => ?_⟩
    · rcases ow j s a e1 e2 with ⟨_, c⟩ | ⟨_, c1, c2⟩
      · rw [c]; exact .inr h0
      · exact g1.own a ⟨j, s, c1, es, c2⟩
    · rcases set_get_some e1 with ⟨c1, c2, c3⟩ | ⟨c1, c2⟩
      · subst c1; subst c2
        rw [List.getElem?_set] at e2
        rw [R1.len] at c3
        simp [c3] at e2
        subst e2
        exact ⟨p, vs, rfl, h1, h2, h3⟩
      · rw [List.getElem?_set_ne (fun q => c1 q.symm)] at e2
        exact R1.sv j s o c2 e2
    · rcases ow j s q e1 e3 with ⟨c1, c2⟩ | ⟨c1, c2, c3⟩
      · rcases ow k t q e2 e4 with ⟨d1, d2⟩ | ⟨d1, d2, d3⟩
        · rw [c1, d1]
        · exact absurd ⟨k, t, d2, o2, by rw [← c2]; exact d3⟩ h4
      · rcases ow k t q e2 e4 with ⟨d1, d2⟩ | ⟨d1, d2, d3⟩
        · exact absurd ⟨j, s, c2, o1, by rw [← d2]; exact c3⟩ h4
        · exact R1.dj j k q s t c2 d2 o1 o2 c3 d3
/-- the own list of a slot becomes another -/
theorem Rep.write {i : Nat} {p : Addr} {xs ys : List PyData} {us ws : List V} (R : Rep K B H σ ss) (h : ss[i]? = some (.own xs)) (hp : σ[i]? = some (some (.ref p))) (hH : H p = some (.lst us)) (hB : B p = none) (hd : DpAll K B ws ys) :
    Go m B H σ ss B (upd H p (.lst ws)) σ (ss.set i (.own ys)) ∧ Rep K B (upd H p (.lst ws)) σ (ss.set i (.own ys)) := by
  have ne : ∀ a, ¬ Own σ ss a → a ≠ p := fun a n c => n ⟨i, _, h, rfl, by rw [c]; exact hp⟩
  have old : ∀ (j : Nat) (s : Sv), (ss.set i (Sv.own ys))[j]? = some s → isO s = true → ∃ t, ss[j]? = some t ∧ isO t = true := fun j s e o => by
    rcases set_get_some e with ⟨c1, _, _⟩ | ⟨_, c2⟩
    · rw [c1]; exact ⟨_, h, rfl⟩
    · exact ⟨s, c2, o⟩
  refine ⟨⟨Ex.refl _, fun a o q n => by rw [upd_ne (ne a n)]; exact q, fun a q => ?_, fun a q _ _ => q, fun a ⟨j, s, e1, es, e2⟩ => ?_, fun _ _ => rfl⟩, ⟨R.ex.mut hB, by rw [List.length_set]; exact R.len, fun j s o e1 e2 => ?_, fun j k q s t e1 e2 o1 o2 e3 e4 => ?_⟩⟩
  · by_cases c : a = p
    · rw [c, upd_same]; simp
    · rw [upd_ne c]; exact q
  · obtain ⟨t, e3, e4⟩ := old j s e1 es
    exact .inl ⟨j, t, e3, e4, e2⟩
  · rcases set_get_some e1 with ⟨c1, c2, _⟩ | ⟨c1, c2⟩
    · subst c1; subst c2
      rw [hp] at e2; cases e2
      exact ⟨p, ws, rfl, upd_same, hB, hd⟩
    · have z := R.sv j s o c2 e2
      cases s with
      | un => trivial
      | d x => exact z
      | fn f => exact z
      | own zs =>
        obtain ⟨q, vs, e, q1, q2, q3⟩ := z
        subst e
        refine ⟨q, vs, rfl, ?_, q2, q3⟩
        rw [upd_ne (fun c => c1 (R.dj j i p _ _ c2 h rfl rfl (by rw [← c]; exact e2) hp))]
        exact q1
      | tab q t =>
        obtain ⟨e, q1, q2⟩ := z
        refine ⟨e, tab_stays q1 fun a u hu nl => ?_, q2⟩
        rw [upd_ne (fun c => nl us (by rw [c, hH] at hu; exact (Option.some.inj hu).symm))]
        exact hu
  · obtain ⟨z1, q1, r1⟩ := old j s e1 o1
    obtain ⟨z2, q2, r2⟩ := old k t e2 o2
    exact R.dj j k q z1 z2 q1 q2 r1 r2 e3 e4
/-- x.append(e), x a list of one's own -/
def sApp (i : Nat) (re : AS → R PyData) : AS → Fl := fun ss => match ss[i]? with
  | some (.own _) => (re ss).fl fun d s => (match s[i]? with
    | some (.own xs) => if xs.length < sizeLine then .nx (s.set i (.own (xs ++ [d]))) else .no
    | _ => .no)
  | _ => .no
theorem es_app {i : Nat} {te : TE} {re : AS → R PyData} (he : EvR K mg W te re) : EvS K mg W m (tDrop (tBM K "list" rAppend (tVar i) (tCons te tNil))) (sApp i re) := fun σ B H ss D R h => by
  unfold sApp at h
  split at h
  · rename_i xs0 e0
    obtain ⟨p, vs0, hv, q1, q2, q3⟩ := R.mine e0
    refine ⟨_, hv, .inl ⟨rfl, _, sq_of q1⟩, he σ B H ss _ R (gets_fl h fun d s1 v B1 H1 _ _ R1 dv h1 => ?_)⟩
    split at h1
    · rename_i xs e1
      split at h1
      · rename_i c
        obtain ⟨p', vs, hv', w1, w2, w3⟩ := R1.mine e1
        rw [hv] at hv'; cases hv'
        obtain ⟨g2, R2⟩ := R1.write (m := m) (ys := xs ++ [d]) (ws := vs ++ [v]) e1 hv w1 w2 (dpa_app w3 (.cons dv .nil))
        exact ⟨p, vs, v, rfl, rfl, w1, by rw [dpa_len w3]; exact c, h1 σ B1 _ g2 R2⟩
      · exact h1.elim
    · exact h1.elim
  · exact h.elim
/-- x[j] = e, x a list of one's own, j written -/
def sPut (i : Nat) (j : Int) (re : AS → R PyData) : AS → Fl := fun ss => (re ss).fl fun d s => match s[i]? with
  | some (.own xs) => (match ixN xs.length j with | some k => .nx (s.set i (.own (xs.set k d))) | none => .no)
  | _ => .no
theorem es_put {i : Nat} {j : Int} {te : TE} {re : AS → R PyData} (he : EvR K mg W te re) : EvS K mg W m (tAsg te (gSub (tVar i) (tC (.int j)) rSetL)) (sPut i j re) := fun σ B H ss D R h =>
  he σ B H ss _ R (gets_fl h fun d s1 v B1 H1 _ _ R1 dv h1 => by
    split at h1
    · rename_i xs e1
      split at h1
      · rename_i k ek
        obtain ⟨p, vs, hv, w1, w2, w3⟩ := R1.mine e1
        obtain ⟨g2, R2⟩ := R1.write (m := m) (ys := xs.set k d) (ws := vs.set k v) e1 hv w1 w2 (dpa_set dv k w3)
        exact ⟨_, hv, p, vs, j, k, rfl, rfl, w1, by rw [dpa_len w3]; exact ek, h1 σ B1 _ g2 R2⟩
      · exact h1.elim
    · exact h1.elim)
/-- x[j] += e of ints, x a list of one's own, j written -/
def sAugP (i : Nat) (j : Int) (f : Int → Int → Int) (re : AS → R PyData) : AS → Fl := fun ss => match ss[i]? with
  | some (.own xs0) => if 0 ≤ j ∧ j < 2 ^ 62 then (match atI xs0 j with
    | some (.int a) => (re ss).fl fun d s => (match d with
      | .int b => (match s[i]? with
        | some (.own xs) => (match ixN xs.length j with | some k => .nx (s.set i (.own (xs.set k (.int (f a b))))) | none => .no)
        | _ => .no)
      | _ => .no)
    | _ => .no) else .no
  | _ => .no
def rGetL (K : PySem.W.Frag) : V → V → Hp → VK → Prop := fun x y H Q => ∃ p xs i v, x = .ref p ∧ y = .int i ∧ SqL K H p xs ∧ 0 ≤ i ∧ i < 2 ^ 62 ∧ xs[i.toNat]? = some v ∧ Q v H
theorem pget_list {X : Cx} : PGet X (rGetL X.K) := fun pz s0 τ G o i ov iv Q J ro ri h => by
  obtain ⟨p, xs, n, v, rfl, rfl, hq, h1, h2, hx, q⟩ := h
  cases ro
  obtain ⟨t, rfl⟩ := ri
  obtain ⟨its, rv, pl, _⟩ := J.list hq
  obtain ⟨u, hu, ru⟩ := rv.get hx
  exact wpAny_getItem_list pl.isList h1 (by omega) (x := u) (by simpa using hu) ⟨v, G, J, ru, q⟩
theorem atI_nat' {α : Type} {xs : List α} {i : Int} {x : α} (h0 : 0 ≤ i) (h : atI xs i = some x) : xs[i.toNat]? = some x := by
  unfold atI ixN at h
  rw [if_pos h0] at h
  split at h
  · exact h
  · cases h
theorem es_augP {i : Nat} {j : Int} {f : Int → Int → Int} {te : TE} {re : AS → R PyData} (he : EvR K mg W te re) : EvS K mg W m (tAugS (tVar i) (tC (.int j)) te (rGetL K) (ipI f) rSetL) (sAugP i j f re) := fun σ B H ss D R h => by
  unfold sAugP at h
  split at h
  · rename_i xs0 e0
    split at h
    · rename_i hj
      split at h
      · rename_i a ea
        obtain ⟨p, vs0, hv, q1, q2, q3⟩ := R.mine e0
        obtain ⟨v0, hv0, dv0⟩ := atI_dpa q3 ea
        cases dv0
        refine ⟨_, hv, p, vs0, j, _, rfl, rfl, sq_of q1, hj.1, hj.2, atI_nat' hj.1 hv0, he σ B H ss _ R (gets_fl h fun d s1 v B1 H1 er _ R1 dv h1 => ?_)⟩
        split at h1
        · rename_i b
          cases dv
          split at h1
          · rename_i xs e1
            split at h1
            · rename_i k ek
              obtain ⟨p', vs, hv', w1, w2, w3⟩ := R1.mine e1
              rw [hv] at hv'; cases hv'
              obtain ⟨g2, R2⟩ := R1.write (m := m) (ys := xs.set k (.int (f a b))) (ws := vs.set k (.int (f a b))) e1 hv w1 w2 (dpa_set (.int _) k w3)
              exact ⟨a, b, rfl, rfl, p, vs, j, k, rfl, rfl, w1, by rw [dpa_len w3]; exact ek, h1 σ B1 _ g2 R2⟩
            · exact h1.elim
          · exact h1.elim
        · exact h1.elim
      · exact h.elim
    · exact h.elim
  · exact h.elim
/-- x += e of ints -/
def sAug (i : Nat) (f : Int → Int → Int) (re : AS → R PyData) : AS → Fl := fun ss => match ss[i]? with
  | some (.d (.int a)) => (re ss).fl fun d s => (match d with | .int b => .nx (s.set i (.d (.int (f a b)))) | _ => .no)
  | _ => .no
theorem es_aug {i : Nat} {f : Int → Int → Int} {te : TE} {re : AS → R PyData} (hm : m ≤ i) (he : EvR K mg W te re) : EvS K mg W m (tAug i te (ipI f)) (sAug i f re) := fun σ B H ss D R h => by
  unfold sAug at h
  split at h
  · rename_i a e0
    obtain ⟨v0, hv, dv0⟩ := R.data e0
    cases dv0
    refine ⟨_, hv, he σ B H ss _ R (gets_fl h fun d s1 v B1 H1 _ _ R1 dv h1 => ?_)⟩
    cases dv with
    | int b =>
      obtain ⟨R2, o2⟩ := R1.put (i := i) (Dp.int (f a b))
      exact ⟨a, b, rfl, rfl, h1 _ B1 H1 (Go.same o2 fun j hj => List.getElem?_set_ne (by omega)) R2⟩
    | non => exact h1.elim
    | bl _ => exact h1.elim
    | str _ => exact h1.elim
    | lst _ _ => exact h1.elim
    | tup _ _ => exact h1.elim
  · exact h.elim
/-- an error is raised -/
def sRaise (c : Str) : AS → Fl := fun ss => .ex c ss
theorem es_raise {c : Str} {u : Value} (hu : mg c = some u) : EvS K mg W m (fun _ σ H => W u none σ H) (sRaise c) := fun σ B H ss D R h => h u σ B H hu Go.refl R
/-! ### for -/
def forR (tg : Tg) (body : AS → Fl) : List PyData → AS → Fl
  | [], ss => .nx ss
  | d :: r, ss => match tg d ss with
    | none => .no
    | some s1 => match body s1 with
      | .nx s2 => forR tg body r s2
      | .ct s2 => forR tg body r s2
      | .bk s2 => .nx s2
      | .rt d s2 => .rt d s2
      | .ex c s2 => .ex c s2
      | .no => .no
def sFor (ri : AS → R (List PyData)) (tg : Tg) (body : AS → Fl) : AS → Fl := fun ss => (ri ss).fl fun ds s => forR tg body ds s
structure FI (K : PySem.W.Frag) (mg : Str → Option Value) (W : WX) (m : Nat) (B1 H1 : Hp) (σ1 : L2.St) (s1 : AS) (tg : Tg) (body : AS → Fl) (ds : List PyData) (D : Ends) (i : Nat) (τ : L2.St) (H : Hp) : Prop where
  ex : ∃ (B : Hp) (s : AS), Go m B1 H1 σ1 s1 B H τ s ∧ Rep K B H τ s ∧ GetsS K mg W m τ B H s (forR tg body (ds.drop i) s) D
theorem es_for {wi : TI} {g : TG} {tb : TS} {vs : List Nat} {ri : AS → R (List PyData)} {tg : Tg} {body : AS → Fl} (hi : EvI K mg W wi ri) (hg : EvG K vs g tg) (hm : (vs.all fun j => decide (m ≤ j)) = true) (hb : EvS K mg W m tb body) :
    EvS K mg W m (tFor wi g tb) (sFor ri tg body) := fun σ B H ss D R h =>
  hi σ B H ss _ R (gets_fl h fun ds s1 J B1 H1 _ _ R1 wk h1 => by
    refine ⟨fun i n τ Hi => n = ds.length - i ∧ i ≤ ds.length ∧ FI K mg W m B1 H1 σ s1 tg body ds D i τ Hi, ⟨ds.length, by simp, Nat.zero_le _, ⟨B1, s1, Go.refl, R1, h1⟩⟩, ?_⟩
    rintro i n τ Hi ⟨rfl, hle, ⟨Bi, si, gi, Ri, hq⟩⟩
    obtain ⟨wstop, wgo⟩ := wk Bi Hi gi.b Ri.ex i
    by_cases hlt : i < ds.length
    · right
      have hd : ds[i]? = some ds[i] := List.getElem?_eq_getElem hlt
      obtain ⟨go, yl⟩ := wgo _ hd
      refine ⟨go, fun τ' Hn => FI K mg W m B1 H1 σ s1 tg body ds D (i + 1) τ' Hn, fun τ' H' c => ⟨ds.length - (i + 1), by omega, rfl, hlt, c⟩, fun x H' y => ?_⟩
      obtain ⟨B2, gn, dx⟩ := yl x H' y
      have R2 := Ri.gn gn
      rw [List.drop_eq_getElem_cons hlt] at hq
      unfold forR at hq
      cases et : tg ds[i] si with
      | none => rw [et] at hq; exact hq.elim
      | some s' =>
        rw [et] at hq
        dsimp only at hq
        refine hg τ B2 H' si s' x _ _ R2 dx et fun σ2 Rt ot lt ft => ?_
        have g0 : Go m Bi Hi τ si B2 H' σ2 s' := gn.go.trans (Go.same ot fun j hj => ft j fun hv => by
          have := of_decide_eq_true (List.all_eq_true.mp hm j hv)
          omega)
        refine hb σ2 B2 H' s' _ Rt ?_
        have hq' := GetsS.after g0 hq
        cases eb : body s' with
        | nx s3 =>
          rw [eb] at hq'
          exact fun σ3 B3 H3 g3 R3 => ⟨B3, s3, (gi.trans g0).trans g3, R3, GetsS.after g3 hq'⟩
        | ct s3 =>
          rw [eb] at hq'
          exact fun σ3 B3 H3 g3 R3 => ⟨B3, s3, (gi.trans g0).trans g3, R3, GetsS.after g3 hq'⟩
        | bk s3 => rw [eb] at hq'; exact fun σ3 B3 H3 g3 R3 => hq' σ3 B3 H3 g3 R3
        | rt d s3 => rw [eb] at hq'; exact hq'
        | ex c s3 => rw [eb] at hq'; exact hq'
        | no => rw [eb] at hq'; exact hq'
    · left
      have : ds.drop i = [] := List.drop_eq_nil_of_le (by omega)
      rw [this] at hq
      exact ⟨wstop (by omega), gets_nx Ri hq⟩)
end
end AX

/-! AX5: defs and their calls -/
namespace AX
open PySem L2 Evl RZ PyProof.Rows
/-- an argument: data, the slot of a name that is handed on as it is, a def -/
inductive Ag where
  | dt (d : PyData)
  | lk (i : Nat)
  | fn (f : Addr)
def agSv (s : AS) : Ag → Sv
  | .dt d => .d d
  | .lk i => s.getD i .un
  | .fn f => .fn f
def lks : List Ag → List Nat
  | [] => []
  | .lk i :: r => i :: lks r
  | _ :: r => lks r
def findLk : List Ag → Nat → Option Nat
  | [], _ => none
  | .lk k :: r, i => if k = i then some 0 else (findLk r i).map (· + 1)
  | _ :: r, i => (findLk r i).map (· + 1)
def chg : Option Sv → Bool
  | some s => isO s
  | none => false
/-- what a callee left in the lists that were handed on -/
def wb : List Ag → AS → AS → AS
  | .lk i :: gs, c :: cs, s => wb gs cs (if chg s[i]? then s.set i c else s)
  | _ :: gs, _ :: cs, s => wb gs cs s
  | _, _, s => s
theorem findLk_mem : ∀ {gs : List Ag} {i j : Nat}, findLk gs i = some j → gs[j]? = some (.lk i)
  | .lk k :: r, i, j, h => by
    unfold findLk at h
    split at h
    · rename_i c; cases h; rw [c]; rfl
    · cases q : findLk r i with
      | none => rw [q] at h; cases h
      | some n => rw [q] at h; cases h; exact findLk_mem (gs := r) q
  | .dt d :: r, i, j, h => by
    unfold findLk at h
    cases q : findLk r i with
    | none => rw [q] at h; cases h
    | some n => rw [q] at h; cases h; exact findLk_mem (gs := r) q
  | .fn f :: r, i, j, h => by
    unfold findLk at h
    cases q : findLk r i with
    | none => rw [q] at h; cases h
    | some n => rw [q] at h; cases h; exact findLk_mem (gs := r) q
  | [], _, _, h => by cases h
theorem findLk_none : ∀ {gs : List Ag} {i : Nat}, findLk gs i = none → i ∉ lks gs
  | .lk k :: r, i, h => by
    unfold findLk at h
    split at h
    · cases h
    · rename_i c
      intro hm
      unfold lks at hm
      rcases List.mem_cons.mp hm with e | e
      · exact c e.symm
      · exact findLk_none (gs := r) (by cases q : findLk r i with | none => rfl | some n => rw [q] at h; cases h) e
  | .dt d :: r, i, h => fun hm => findLk_none (gs := r) (by unfold findLk at h; cases q : findLk r i with | none => rfl | some n => rw [q] at h; cases h) hm
  | .fn f :: r, i, h => fun hm => findLk_none (gs := r) (by unfold findLk at h; cases q : findLk r i with | none => rfl | some n => rw [q] at h; cases h) hm
  | [], _, _ => fun hm => by cases hm
theorem lks_mem : ∀ {gs : List Ag} {i j : Nat}, gs[j]? = some (.lk i) → i ∈ lks gs
  | .lk k :: r, i, 0, h => by simp at h; subst h; exact List.mem_cons_self ..
  | .lk k :: r, i, j + 1, h => List.mem_cons_of_mem _ (lks_mem (gs := r) (j := j) (by simpa using h))
  | .dt d :: r, i, 0, h => by simp at h
  | .fn d :: r, i, 0, h => by simp at h
  | .dt d :: r, i, j + 1, h => lks_mem (gs := r) (j := j) (by simpa using h)
  | .fn d :: r, i, j + 1, h => lks_mem (gs := r) (j := j) (by simpa using h)
  | [], _, _, h => by simp at h
theorem wb_len : ∀ (gs : List Ag) (c s : AS), (wb gs c s).length = s.length
  | .lk i :: gs, c :: cs, s => by
    unfold wb
    rw [wb_len gs cs]
    split
    · rw [List.length_set]
    · rfl
  | .dt _ :: gs, c :: cs, s => wb_len gs cs s
  | .fn _ :: gs, c :: cs, s => wb_len gs cs s
  | [], _, _ => by unfold wb; rfl
  | .lk _ :: _, [], _ => by unfold wb; rfl
  | .dt _ :: _, [], _ => by unfold wb; rfl
  | .fn _ :: _, [], _ => by unfold wb; rfl
theorem wb_get : ∀ (gs : List Ag) (c s : AS), c.length = gs.length → (lks gs).Nodup → ∀ i : Nat, (wb gs c s)[i]? = match findLk gs i with
    | some j => if chg s[i]? then c[j]? else s[i]?
    | none => s[i]?
  | [], c, s, _, _, i => by unfold wb findLk; rfl
  | .dt d :: gs, [], s, h, _, i => by cases h
  | .fn d :: gs, [], s, h, _, i => by cases h
  | .lk d :: gs, [], s, h, _, i => by cases h
  | .dt d :: gs, c :: cs, s, h, hn, i => by
    have ih := wb_get gs cs s (by simpa using h) hn i
    unfold wb findLk
    rw [ih]
    cases findLk gs i with
    | none => rfl
    | some j => simp
  | .fn d :: gs, c :: cs, s, h, hn, i => by
    have ih := wb_get gs cs s (by simpa using h) hn i
    unfold wb findLk
    rw [ih]
    cases findLk gs i with
    | none => rfl
    | some j => simp
  | .lk k :: gs, c :: cs, s, h, hn, i => by
    unfold lks at hn
    rw [List.nodup_cons] at hn
    have ih := wb_get gs cs (if chg s[k]? then s.set k c else s) (by simpa using h) hn.2 i
    unfold wb findLk
    rw [ih]
    by_cases e : k = i
    · subst e
      rw [if_pos rfl]
      cases q : findLk gs k with
      | some j => exact absurd (lks_mem (findLk_mem q)) hn.1
      | none =>
        dsimp only
        by_cases q2 : chg s[k]? = true
        · rw [if_pos q2, if_pos q2]
          have lt : k < s.length := by
            rcases Nat.lt_or_ge k s.length with l | l
            · exact l
            · rw [List.getElem?_eq_none l] at q2; cases q2
          rw [List.getElem?_set]
          simp [lt]
        · rw [if_neg q2, if_neg q2]
    · rw [if_neg e]
      have same : (if chg s[k]? then s.set k c else s)[i]? = s[i]? := by
        split
        · exact List.getElem?_set_ne e
        · rfl
      rw [same]
      cases findLk gs i with
      | none => rfl
      | some j => simp
section
variable {K : PySem.W.Frag} {mg : Str → Option Value} {W : WX} {B H B1 H1 B2 H2 : Hp} {σ : L2.St} {ss s1 s2 : AS} {m : Nat}
def ArgAt (K : PySem.W.Frag) (B : Hp) (σ : L2.St) (v : V) : Ag → Prop
  | .dt d => Dp K B v d
  | .lk i => σ[i]? = some (some v)
  | .fn f => v = .ref f
def EvA (K : PySem.W.Frag) (mg : Str → Option Value) (W : WX) (t : TA) (r : AS → R (List Ag)) : Prop := ∀ (σ : L2.St) (B H : Hp) (ss : AS) (Q : List V → Hp → Prop), Rep K B H σ ss → Gets K mg W σ B H ss (fun _ B2 _ vs gs => Paired (fun v g => ArgAt K B2 σ v g) vs gs) (r ss) Q → t σ H Q
def aNil : AS → R (List Ag) := fun ss => .ok [] ss
def aDt (ra : AS → R PyData) (rl : AS → R (List Ag)) : AS → R (List Ag) := fun ss => (ra ss).bind fun a s1 => (rl s1).bind fun l s2 => .ok (.dt a :: l) s2
def hasS : Option Sv → Bool
  | some .un => false
  | some _ => true
  | none => false
def aLk (i : Nat) (rl : AS → R (List Ag)) : AS → R (List Ag) := fun ss => if hasS ss[i]? then (rl ss).bind fun l s2 => .ok (.lk i :: l) s2 else .no
def aFn (f : Addr) (rl : AS → R (List Ag)) : AS → R (List Ag) := fun ss => (rl ss).bind fun l s2 => .ok (.fn f :: l) s2
theorem ea_nil' : EvA K mg W tNil aNil := fun σ B H ss Q R g => gets_ok R g [] B H (Gn.refl R.ex) .nil
theorem argAt_mono {v : V} {g : Ag} (e : Ex B B2) (h : ArgAt K B σ v g) : ArgAt K B2 σ v g := by
  cases g with
  | dt d => exact dp_mono e h
  | lk i => exact h
  | fn f => exact h
theorem ea_dt {ta : TE} {tl : TA} {ra : AS → R PyData} {rl : AS → R (List Ag)} (ha : EvR K mg W ta ra) (hl : EvA K mg W tl rl) : EvA K mg W (tCons ta tl) (aDt ra rl) := fun σ B H ss Q R g =>
  ha σ B H ss _ R (gets_bind g fun a s1 v B1 H1 _ _ R1 d1 h1 => hl σ B1 H1 s1 _ R1 (gets_bind h1 fun l s2 vs B2 H2 _ g2 R2 d2 h2 =>
    gets_ok R2 h2 _ B2 H2 (Gn.refl R2.ex) (.cons (show ArgAt K B2 σ v (.dt a) from dp_mono g2.b d1) d2)))
theorem has_valS {i : Nat} (R : Rep K B H σ ss) (h : hasS ss[i]? = true) : ∃ v, σ[i]? = some (some v) := by
  cases e : ss[i]? with
  | none => rw [e] at h; cases h
  | some s =>
    cases s with
    | un => rw [e] at h; cases h
    | fn f =>
      obtain ⟨o, ho⟩ := get_of_len R e
      have := R.sv i _ o e ho
      exact ⟨_, ho.trans (by rw [show o = some (.ref f) from this])⟩
    | tab p t =>
      obtain ⟨o, ho⟩ := get_of_len R e
      obtain ⟨e2, _⟩ := R.sv i _ o e ho
      exact ⟨_, ho.trans (by rw [e2])⟩
    | d x => obtain ⟨v, e, _⟩ := R.data e; exact ⟨v, e⟩
    | own xs => obtain ⟨p, vs, e, _⟩ := R.mine e; exact ⟨_, e⟩
theorem ea_lk {i : Nat} {tl : TA} {rl : AS → R (List Ag)} (hl : EvA K mg W tl rl) : EvA K mg W (tCons (tVar i) tl) (aLk i rl) := fun σ B H ss Q R g => by
  unfold aLk at g
  split at g
  · rename_i c
    obtain ⟨v, hv⟩ := has_valS R c
    exact ⟨v, hv, hl σ B H ss _ R (gets_bind g fun l s2 vs B2 H2 _ g2 R2 d2 h2 => gets_ok R2 h2 _ B2 H2 (Gn.refl R2.ex) (.cons (show ArgAt K B2 σ v (.lk i) from hv) d2))⟩
  · exact g.elim
theorem ea_fn {f : Addr} {tl : TA} {rl : AS → R (List Ag)} (hl : EvA K mg W tl rl) : EvA K mg W (tCons (tC (.ref f)) tl) (aFn f rl) := fun σ B H ss Q R g =>
  hl σ B H ss _ R (gets_bind g fun l s2 vs B2 H2 _ g2 R2 d2 h2 => gets_ok R2 h2 _ B2 H2 (Gn.refl R2.ex) (.cons (show ArgAt K B2 σ (.ref f) (.fn f) from rfl) d2))
/-- the promise of a def, told by what it makes of its slots -/
def spA (K : PySem.W.Frag) (mg : Str → Option Value) (n : Nat) (g : AS → R PyData) : Sp := fun vs H Q E => ∃ (B : Hp) (css : AS), vs.length = n ∧ css.length = n ∧ Rep K B H (vs.map some) css ∧
  Gets K mg (fun u d _ H => E u d H) (vs.map some) B H css (fun _ B2 _ v d => Dp K B2 v d) (g css) Q
def eCall (n : Nat) (g : AS → R PyData) (ra : AS → R (List Ag)) : AS → R PyData := fun ss => (ra ss).bind fun gs s1 => if gs.length = n ∧ (lks gs).Nodup then (match g (gs.map (agSv s1)) with
  | .ok d c2 => if c2.length = n then .ok d (wb gs c2 s1) else .no
  | .ex c c2 => if c2.length = n then .ex c (wb gs c2 s1) else .no
  | .no => .no) else .no
theorem paired_get {α β : Type} {P : α → β → Prop} : ∀ {l : List α} {r : List β} {j : Nat} {b : β}, Paired P l r → r[j]? = some b → ∃ a, l[j]? = some a ∧ P a b
  | _, _, _, _, .nil, e => by simp at e
  | _, _, 0, _, .cons h _, e => by simp at e; subst e; exact ⟨_, rfl, h⟩
  | _, _, j + 1, b, .cons _ h, e => by
    obtain ⟨a, h1, h2⟩ := paired_get (j := j) (b := b) h (by simpa using e)
    exact ⟨a, by simpa using h1, h2⟩
/-- the callee's slots -/
theorem callee_rep {gs : List Ag} {vs : List V} (R1 : Rep K B1 H1 σ s1) (P : Paired (fun v g => ArgAt K B1 σ v g) vs gs) (nd : (lks gs).Nodup) :
    Rep K B1 H1 (vs.map some) (gs.map (agSv s1)) ∧ ∀ (j : Nat) (s : Sv) (a : Addr), (gs.map (agSv s1))[j]? = some s → isO s = true → (vs.map some)[j]? = some (some (.ref a)) → ∃ i : Nat, gs[j]? = some (.lk i) ∧ s1[i]? = some s ∧ σ[i]? = some (some (.ref a)) := by
  have back : ∀ (j : Nat) (s : Sv) (a : Addr), (gs.map (agSv s1))[j]? = some s → isO s = true → (vs.map some)[j]? = some (some (.ref a)) → ∃ i : Nat, gs[j]? = some (.lk i) ∧ s1[i]? = some s ∧ σ[i]? = some (some (.ref a)) := fun j s a e1 es e2 => by
    rw [List.getElem?_map] at e1 e2
    cases eg : gs[j]? with
    | none => rw [eg] at e1; cases e1
    | some g =>
      rw [eg] at e1
      obtain ⟨v, hv, av⟩ := paired_get P eg
      rw [hv] at e2
      cases e2
      cases g with
      | dt d => cases e1; cases es
      | fn f => cases e1; cases es
      | lk i =>
        refine ⟨i, rfl, ?_, av⟩
        have e1' : s1.getD i .un = s := Option.some.inj e1
        rw [List.getD_eq_getElem?_getD] at e1'
        cases q : s1[i]? with
        | none => rw [q] at e1'; subst e1'; cases es
        | some z => rw [q] at e1'; exact congrArg some e1'
  refine ⟨⟨R1.ex, by rw [List.length_map, List.length_map, Paired.length P], fun j s o e1 e2 => ?_, fun j k p s t e1 e2 o1 o2 e3 e4 => ?_⟩, back⟩
  · rw [List.getElem?_map] at e1 e2
    cases eg : gs[j]? with
    | none => rw [eg] at e1; cases e1
    | some g =>
      rw [eg] at e1
      obtain ⟨v, hv, av⟩ := paired_get P eg
      rw [hv] at e2
      cases e2; cases e1
      cases g with
      | dt d => exact ⟨v, rfl, av⟩
      | fn f => exact congrArg some av
      | lk i =>
        show SvAt K B1 H1 (s1.getD i .un) (some v)
        rw [List.getD_eq_getElem?_getD]
        cases q : s1[i]? with
        | none => trivial
        | some z => exact R1.sv i z _ q av
  · obtain ⟨i1, a1, a2, a3⟩ := back j s p e1 o1 e3
    obtain ⟨i2, b1, b2, b3⟩ := back k t p e2 o2 e4
    have := R1.dj i1 i2 p s t a2 b2 o1 o2 a3 b3
    subst this
    have nodup_ix : ∀ (gs : List Ag) (j k : Nat), (lks gs).Nodup → gs[j]? = some (.lk i1) → gs[k]? = some (.lk i1) → j = k := by
      intro gs
      induction gs with
      | nil => intro j k _ h _; simp at h
      | cons g r ih =>
        intro j k hn h1 h2
        have hr : (lks r).Nodup := by
          cases g with
          | dt d => exact hn
          | fn f => exact hn
          | lk i => exact (List.nodup_cons.mp hn).2
        cases j with
        | zero =>
          cases k with
          | zero => rfl
          | succ k =>
            simp at h1 h2
            subst h1
            exact absurd (lks_mem h2) (List.nodup_cons.mp hn).1
        | succ j =>
          cases k with
          | zero =>
            simp at h1 h2
            subst h2
            exact absurd (lks_mem h1) (List.nodup_cons.mp hn).1
          | succ k =>
            simp at h1 h2
            rw [ih j k hr h1 h2]
    exact nodup_ix gs j k nd a1 b1
/-- back from the callee -/
theorem call_back {gs : List Ag} {vs : List V} {c2 : AS} (R1 : Rep K B1 H1 σ s1) (P : Paired (fun v g => ArgAt K B1 σ v g) vs gs) (nd : (lks gs).Nodup) (hc : c2.length = gs.length)
    (g2 : Go 0 B1 H1 (vs.map some) (gs.map (agSv s1)) B2 H2 (vs.map some) c2) (R2 : Rep K B2 H2 (vs.map some) c2) : Go 0 B1 H1 σ s1 B2 H2 σ (wb gs c2 s1) ∧ Rep K B2 H2 σ (wb gs c2 s1) := by
  obtain ⟨RC, back⟩ := callee_rep R1 P nd
  have oc : ∀ a, Own (vs.map some) (gs.map (agSv s1)) a → Own σ s1 a := fun a ⟨j, s, e1, es, e2⟩ => by
    obtain ⟨i, _, b, c⟩ := back j s a e1 es e2
    exact ⟨i, s, b, es, c⟩
  have ow : ∀ (i : Nat) (s : Sv), (wb gs c2 s1)[i]? = some s → isO s = true → ∃ t, s1[i]? = some t ∧ isO t = true := fun i s e es => by
    rw [wb_get gs c2 s1 hc nd] at e
    have hs : ∀ (z : Option Sv), z = some s → z = s1[i]? → ∃ t, s1[i]? = some t ∧ isO t = true := fun z e1 e2 => ⟨s, e2.symm.trans e1, es⟩
    cases q : findLk gs i with
    | none => rw [q] at e; exact hs _ e rfl
    | some j =>
      rw [q] at e
      dsimp only at e
      split at e
      · rename_i c
        cases q2 : s1[i]? with
        | none => rw [q2] at c; cases c
        | some t => rw [q2] at c; exact ⟨t, rfl, c⟩
      · exact hs _ e rfl
  -- where nobody of the callee's lists stands
  have off : ∀ a, H1 a ≠ none → ¬ Own (vs.map some) (gs.map (agSv s1)) a → ∀ o, H1 a = some o → H2 a = some o := fun a _ n o h => g2.keep a o h n
  refine ⟨⟨g2.b, fun a o q n => g2.keep a o q fun z => n (oc a z), g2.live, fun a hb ha n => g2.sep a hb ha fun z => n (oc a z), fun a ⟨i, s, e1, es, e2⟩ => ?_, fun _ _ => rfl⟩, ⟨R2.ex, by rw [wb_len]; exact R1.len, fun i s o e1 e2 => ?_, fun i k p s t e1 e2 o1 o2 e3 e4 => ?_⟩⟩
  · obtain ⟨t, h1, h2⟩ := ow i s e1 es
    exact .inl ⟨i, t, h1, h2, e2⟩
  · rw [wb_get gs c2 s1 hc nd] at e1
    have plain : s1[i]? = some s → (isO s = true → findLk gs i = none) → SvAt K B2 H2 s o := fun h hn => by
      have z := R1.sv i s o h e2
      have no : isO s = true → ∀ p, o = some (.ref p) → ¬ Own (vs.map some) (gs.map (agSv s1)) p := fun os p eo ⟨j, t, z1, zo, z2⟩ => by
        subst eo
        obtain ⟨i', b0, b1, b2⟩ := back j t p z1 zo z2
        have := R1.dj i i' p s t h b1 os zo e2 b2
        subst this
        exact findLk_none (hn os) (lks_mem b0)
      cases s with
      | un => trivial
      | d x => obtain ⟨v, e, q⟩ := z; exact ⟨v, e, dp_mono g2.b q⟩
      | fn f => exact z
      | own xs =>
        obtain ⟨p, ws, e, q1, q2, q3⟩ := z
        exact ⟨p, ws, e, g2.keep p _ q1 (no rfl p e), g2.sep p q2 (by rw [q1]; simp) (no rfl p e), dpa_mono g2.b q3⟩
      | tab p t =>
        obtain ⟨e, q1, q2⟩ := z
        obtain ⟨ps, t1, t2, t3⟩ := q1
        refine ⟨e, ⟨ps, g2.keep p _ t1 (no rfl p e), t2, fun pos cv hcv => ?_⟩, g2.sep p q2 (by rw [t1]; simp) (no rfl p e)⟩
        obtain ⟨c, c1, c2'⟩ := t3 pos cv hcv
        refine ⟨c, c1, g2.keep c _ c2' fun ow => ?_⟩
        rcases (RC.own_free ow).2.2 with ⟨us, hu⟩ | ⟨us, hu⟩
        · rw [c2'] at hu; unfold LamX.CodeO at hu; cases hu
        · rw [c2'] at hu; unfold LamX.CodeO at hu; cases hu
    cases q : findLk gs i with
    | none =>
      rw [q] at e1
      exact plain e1 fun _ => q
    | some j =>
      rw [q] at e1
      dsimp only at e1
      split at e1
      · have hj := findLk_mem q
        obtain ⟨v, hv, av⟩ := paired_get P hj
        have hv' : (vs.map some)[j]? = some o := by
          rw [List.getElem?_map, hv]
          have : σ[i]? = some (some v) := av
          rw [this] at e2
          exact e2
        exact R2.sv j s o e1 hv'
      · rename_i c
        exact plain e1 fun os => absurd (by rw [e1]; exact os) c
  · obtain ⟨z1, q1, r1⟩ := ow i s e1 o1
    obtain ⟨z2, q2, r2⟩ := ow k t e2 o2
    exact R1.dj i k p z1 z2 q1 q2 r1 r2 e3 e4
theorem er_call {n : Nat} {g : AS → R PyData} {ta : TA} {ra : AS → R (List Ag)} (ha : EvA K mg W ta ra) : EvR K mg W (tCallS (spA K mg n g) (WE W) ta) (eCall n g ra) := fun σ B H ss Q R k =>
  ha σ B H ss _ R (gets_bind k fun gs s1 vs B1 H1 _ g1 R1 P h1 => by
    by_cases c : gs.length = n ∧ (lks gs).Nodup
    · rw [if_pos c] at h1
      obtain ⟨RC, _⟩ := callee_rep R1 P c.2
      refine ⟨B1, gs.map (agSv s1), (Paired.length P).trans c.1, by rw [List.length_map]; exact c.1, RC, ?_⟩
      cases e : g (gs.map (agSv s1)) with
      | no => rw [e] at h1; exact h1
      | ok d c2 =>
        rw [e] at h1
        by_cases l : c2.length = n
        · simp only [if_pos l] at h1
          intro v B2 H2 g2 R2 dv
          obtain ⟨g3, R3⟩ := call_back R1 P c.2 (l.trans c.1.symm) g2 R2
          exact h1 v B2 H2 g3 R3 dv
        · simp only [if_neg l] at h1; exact h1.elim
      | ex cx c2 =>
        rw [e] at h1
        by_cases l : c2.length = n
        · simp only [if_pos l] at h1
          intro u B2 H2 hu g2 R2
          obtain ⟨g3, R3⟩ := call_back R1 P c.2 (l.trans c.1.symm) g2 R2
          exact h1 u B2 H2 hu g3 R3
        · simp only [if_neg l] at h1; exact h1.elim
    · rw [if_neg c] at h1; exact h1.elim)
def isD (s : Sv) : Bool := !isO s
/-- what a def makes of its parameters' slots: n parameters, the first m of them never stored, len names in all -/
def fnR (m n len : Nat) (body : AS → Fl) : AS → R PyData := fun css => if css.length = n ∧ (css.drop m).all isD = true then (match body (css ++ List.replicate (len - n) .un) with
  | .nx s => .ok .none (s.take m ++ css.drop m)
  | .rt d s => .ok d (s.take m ++ css.drop m)
  | .ex c s => .ex c (s.take m ++ css.drop m)
  | _ => .no) else .no
theorem def_start {vs : List V} {css : AS} {len : Nat} (R : Rep K B H (vs.map some) css) : Rep K B H (vs.map some ++ List.replicate len none) (css ++ List.replicate len .un) ∧ ∀ a, Own (vs.map some ++ List.replicate len none) (css ++ List.replicate len .un) a → Own (vs.map some) css a := by
  have back : ∀ (i : Nat) (s : Sv), (css ++ List.replicate len Sv.un)[i]? = some s → s = .un ∨ (i < css.length ∧ css[i]? = some s) := fun i s e => by
    rcases Nat.lt_or_ge i css.length with l | l
    · rw [List.getElem?_append_left l] at e; exact .inr ⟨l, e⟩
    · rw [List.getElem?_append_right l, List.getElem?_replicate] at e
      split at e
      · cases e; exact .inl rfl
      · cases e
  have hs : ∀ i, i < css.length → (vs.map some ++ List.replicate len (none : Option V))[i]? = (vs.map some)[i]? := fun i l => List.getElem?_append_left (by rw [← R.len]; exact l)
  have bo : ∀ (i : Nat) (s : Sv), (css ++ List.replicate len Sv.un)[i]? = some s → isO s = true → i < css.length ∧ css[i]? = some s := fun i s e os => by
    rcases back i s e with c | c
    · subst c; cases os
    · exact c
  refine ⟨⟨R.ex, by simp [R.len], fun i s o e1 e2 => ?_, fun i k p s t e1 e2 o1 o2 e3 e4 => ?_⟩, fun a ⟨i, s, e1, es, e2⟩ => ?_⟩
  · rcases back i s e1 with c | ⟨l, c⟩
    · subst c; trivial
    · rw [hs i l] at e2; exact R.sv i s o c e2
  · obtain ⟨l, c⟩ := bo i s e1 o1
    obtain ⟨l', c'⟩ := bo k t e2 o2
    rw [hs i l] at e3; rw [hs k l'] at e4
    exact R.dj i k p s t c c' o1 o2 e3 e4
  · obtain ⟨l, c⟩ := bo i s e1 es
    rw [hs i l] at e2; exact ⟨i, s, c, es, e2⟩
theorem def_end {vs : List V} {css s2 : AS} {len : Nat} {σ2 : L2.St} (hmn : m ≤ css.length) (hd : (css.drop m).all isD = true) (R : Rep K B H (vs.map some) css)
    (g : Go m B H (vs.map some ++ List.replicate len none) (css ++ List.replicate len .un) B2 H2 σ2 s2) (R2 : Rep K B2 H2 σ2 s2) (hl : m ≤ s2.length) :
    Go 0 B H (vs.map some) css B2 H2 (vs.map some) (s2.take m ++ css.drop m) ∧ Rep K B2 H2 (vs.map some) (s2.take m ++ css.drop m) := by
  obtain ⟨_, os⟩ := def_start (len := len) R
  have lt : (s2.take m).length = m := by rw [List.length_take]; omega
  have gx : ∀ (i : Nat) (s : Sv), (s2.take m ++ css.drop m)[i]? = some s → (i < m ∧ s2[i]? = some s) ∨ (m ≤ i ∧ css[i]? = some s) := fun i s e => by
    rcases Nat.lt_or_ge i m with l | l
    · rw [List.getElem?_append_left (by omega), List.getElem?_take_of_lt l] at e
      exact .inl ⟨l, e⟩
    · rw [List.getElem?_append_right (by omega), lt, List.getElem?_drop] at e
      rw [show m + (i - m) = i by omega] at e
      exact .inr ⟨l, e⟩
  have sg : ∀ i, i < m → σ2[i]? = (vs.map some)[i]? := fun i l => by
    rw [g.fix i l, List.getElem?_append_left (by rw [← R.len]; omega)]
  have nod : ∀ (i : Nat) (s : Sv), m ≤ i → css[i]? = some s → isO s = true → False := fun i s l e os => by
    have hm : s ∈ css.drop m := by
      refine List.mem_of_getElem? (i := i - m) ?_
      rw [List.getElem?_drop, show m + (i - m) = i by omega]
      exact e
    have := List.all_eq_true.mp hd _ hm
    unfold isD at this
    rw [os] at this
    cases this
  have ow : ∀ (i : Nat) (s : Sv) (a : Addr), (s2.take m ++ css.drop m)[i]? = some s → isO s = true → (vs.map some)[i]? = some (some (.ref a)) → s2[i]? = some s ∧ σ2[i]? = some (some (.ref a)) := fun i s a e1 es e2 => by
    rcases gx i _ e1 with ⟨l, c⟩ | ⟨l, c⟩
    · exact ⟨c, (sg i l).trans e2⟩
    · exact (nod i s l c es).elim
  refine ⟨⟨g.b, fun a o q n => g.keep a o q fun z => n (os a z), g.live, fun a hb ha n => g.sep a hb ha fun z => n (os a z), fun a ⟨i, s, e1, es, e2⟩ => ?_, fun _ _ => rfl⟩, ⟨R2.ex, ?_, fun i s o e1 e2 => ?_, fun i k p s t e1 e2 o1 o2 e3 e4 => ?_⟩⟩
  · obtain ⟨c1, c2⟩ := ow i s a e1 es e2
    rcases g.own a ⟨i, s, c1, es, c2⟩ with z | z
    · exact .inl (os a z)
    · exact .inr z
  · rw [List.length_append, lt, List.length_drop, ← R.len]; omega
  · rcases gx i _ e1 with ⟨l, c⟩ | ⟨l, c⟩
    · exact R2.sv i s o c ((sg i l).trans e2)
    · have z := R.sv i s o c e2
      cases s with
      | un => trivial
      | d x => obtain ⟨v, e, q⟩ := z; exact ⟨v, e, dp_mono g.b q⟩
      | fn f => exact z
      | own xs => exact (nod i _ l c rfl).elim
      | tab _ t => exact (nod i _ l c rfl).elim
  · obtain ⟨a1, a2⟩ := ow i s p e1 o1 e3
    obtain ⟨b1, b2⟩ := ow k t p e2 o2 e4
    exact R2.dj i k p s t a1 b1 o1 o2 a2 b2
/-- the body's reading, from the promise -/
theorem body_run {vs : List V} {N ps : List Str} {t : TS} {body : AS → Fl} {Q : VK} {E : XK} (hp : ps.length ≤ N.length) (hm : m ≤ ps.length) (hb : EvS K mg (fun u d _ H => E u d H) m t body)
    (h : spA K mg ps.length (fnR m ps.length N.length body) vs H Q E) : t { nx := fun _ H' => Q .non H', rt := Q } (start N vs) H := by
  obtain ⟨B, css, hv, hc, R, g⟩ := h
  have est : start N vs = vs.map some ++ List.replicate (N.length - ps.length) none := by
    unfold L2.start
    rw [hv]
  unfold fnR at g
  by_cases c : css.length = ps.length ∧ (css.drop m).all isD = true
  · rw [if_pos c] at g
    obtain ⟨R0, _⟩ := def_start (len := N.length - ps.length) R
    rw [est]
    have ln : ∀ {σ2 : L2.St} {s2 : AS} {B2 H2 : Hp}, Go m B H (vs.map some ++ List.replicate (N.length - ps.length) none) (css ++ List.replicate (N.length - ps.length) .un) B2 H2 σ2 s2 → Rep K B2 H2 σ2 s2 → m ≤ s2.length := fun {σ2 s2 B2 H2} k R2 => by
      rcases Nat.eq_zero_or_pos m with z | z
      · omega
      · have := k.fix (m - 1) (by omega)
        rw [List.getElem?_append_left (by rw [List.length_map]; omega)] at this
        have l : m - 1 < σ2.length := by
          rcases Nat.lt_or_ge (m - 1) σ2.length with q | q
          · exact q
          · rw [List.getElem?_eq_none q] at this
            have z2 := List.getElem?_eq_none_iff.mp this.symm
            rw [List.length_map] at z2
            omega
        rw [R2.len]; omega
    refine hb _ B H _ _ R0 ?_
    cases e : body (css ++ List.replicate (N.length - ps.length) .un) with
    | nx s2 =>
      rw [e] at g
      intro σ2 B2 H2 k R2
      obtain ⟨g3, R3⟩ := def_end (by omega) c.2 R k R2 (ln k R2)
      exact g .non B2 H2 g3 R3 .non
    | rt d s2 =>
      rw [e] at g
      intro v σ2 B2 H2 k R2 dv
      obtain ⟨g3, R3⟩ := def_end (by omega) c.2 R k R2 (ln k R2)
      exact g v B2 H2 g3 R3 dv
    | ex cx s2 =>
      rw [e] at g
      intro u σ2 B2 H2 hu k R2
      obtain ⟨g3, R3⟩ := def_end (by omega) c.2 R k R2 (ln k R2)
      exact g u B2 H2 hu g3 R3
    | bk s2 => rw [e] at g; exact g.elim
    | ct s2 => rw [e] at g; exact g.elim
    | no => rw [e] at g; exact g.elim
  · rw [if_neg c] at g; exact g.elim
theorem spA_len {n : Nat} {g : AS → R PyData} : ∀ (vs : List V) (H : Hp) (Q : VK) (E : XK), spA K mg n g vs H Q E → vs.length = n := fun _ _ _ _ ⟨_, _, h, _⟩ => h
end
section
variable {P : Program} {w : World} {K : PySem.W.Frag} {mg : Str → Option Value} {base : Heap}
/-- THE RULE for a def -/
theorem def_ok {x qual : Str} {st : Stmt} {f : Addr} {fd : FuncData} {N ps : List Str} {k m : Nat} {body : AS → Fl} (F : Fun K x qual st f fd) (S : FnScope N ps (defScope st)) (hp : ps.length ≤ N.length) (hm : m ≤ ps.length)
    (hbody : ∀ (cdv : Value) (A : Around) (outer : List Env) (s : Shared) (H : Hp) (E : XK), Room k (A.deeper (envOfC qual (defScope st) s.heap.objs.size f cdv)) →
      ∃ t, PSs (cxOf (L2.CX P w) P w K mg base N qual (defScope st) f cdv A outer s H E) (defBody st) t ∧ EvS K mg (fun u d _ H => E u d H) m t body) :
    FnOk P w K mg base (L2.CX P w) (k + 1) f fd ps (spA K mg ps.length (fnR m ps.length N.length body)) :=
  F.okX S spA_len fun cdv A outer s H vs Q E hr h => by
    obtain ⟨t, h1, h2⟩ := hbody cdv A outer s H E hr
    exact ⟨t, h1, body_run hp hm h2 h⟩
end
end AX

/-! AX6: callees by name, defs as arguments, errors without fields, lists unpacked -/
namespace AX
open PySem L2 Evl RZ PyProof.Rows
/-- a def that can be called, by its name, its place and what it makes of its slots -/
structure Cal (P : Program) (w : World) (K : PySem.W.Frag) (mg : Str → Option Value) (base : Heap) (f : Addr) (x : Str) (ps : List Str) (k : Nat) (g : AS → R PyData) : Prop where
  ex : ∃ fd, FnOk P w K mg base (L2.CX P w) k f fd ps (spA K mg ps.length g) ∧ L2.Binds K fd ps []
  gl : mg x = some (.ref f)
  kp : PySem.W.keepIn K (.ref f) = true
/-- a def of the text -/
structure Def (K : PySem.W.Frag) (mg : Str → Option Value) (x : Str) (st : Stmt) (f : Addr) (ps : List Str) : Prop where
  ex : ∃ fd, Fun K x x st f fd ∧ L2.Binds K fd ps []
  gl : mg x = some (.ref f)
  kp : PySem.W.keepIn K (.ref f) = true
section
variable {P : Program} {w : World} {K : PySem.W.Frag} {mg : Str → Option Value} {base : Heap}
theorem cal_ok {x : Str} {st : Stmt} {f : Addr} {N ps : List Str} {k m : Nat} {body : AS → Fl} (F : Def K mg x st f ps) (S : FnScope N ps (defScope st)) (hp : ps.length ≤ N.length) (hm : m ≤ ps.length)
    (hbody : ∀ (cdv : Value) (A : Around) (outer : List Env) (s : Shared) (H : Hp) (E : XK), Room k (A.deeper (envOfC x (defScope st) s.heap.objs.size f cdv)) →
      ∃ t, PSs (cxOf (L2.CX P w) P w K mg base N x (defScope st) f cdv A outer s H E) (defBody st) t ∧ EvS K mg (fun u d _ H => E u d H) m t body) :
    Cal P w K mg base f x ps (k + 1) (fnR m ps.length N.length body) := by
  obtain ⟨fd, F1, b⟩ := F.ex
  exact ⟨⟨fd, def_ok F1 S hp hm hbody, b⟩, F.gl, F.kp⟩
end
section
variable {X : Cx} {f : Addr} {x y : Str} {ps : List Str} {k i n : Nat} {g : AS → R PyData} {W : WX} {p pos : Pos} {e : Expr} {es : List Expr} {t : TA}
theorem pe_cal (C : Cal X.prog X.w X.K X.mg X.base f x ps k g) (hr : Room k X.A) (hg : Gl X x) (tk : Takes X W) (ha : PA X (e :: es) t)
    (hn : ps.length = n := by rfl) (hdb : (x == ("__debug__" : Str)) = false := by decide) (he : starEach (e :: es) X.env = (false, eval e X.env) :: starEach es X.env := by rfl) (hpl : (backTo pos (starEach es X.env)).any (·.1) = false := by rfl) :
    PE X (.Call (.Name x p) (e :: es) [] pos) (tCallS (spA X.K X.mg n g) (WE W) t) := by
  subst hn
  obtain ⟨fd, F, b⟩ := C.ex
  exact pe_callS F hr hg C.gl C.kp b (fun σ => passAt tk σ) ha hdb he hpl
/-- the call of a local name that holds the def -/
theorem pe_calL (C : Cal X.prog X.w X.K X.mg X.base f y ps k g) (hr : Room k X.A) (hN : X.N[i]? = some x) (hv : Vis X.env.scope x) (tk : Takes X W0) (ha : PA X (e :: es) t)
    (hn : ps.length = n := by rfl) (hdb : (x == ("__debug__" : Str)) = false := by decide) (hcd : (x == ("__classdict__" : Str)) = false := by decide)
    (he : starEach (e :: es) X.env = (false, eval e X.env) :: starEach es X.env := by rfl) (hpl : (backTo pos (starEach es X.env)).any (·.1) = false := by rfl) :
    PE X (.Call (.Name x p) (e :: es) [] pos) (fun σ H Q => σ[i]? = some (some (.ref f)) ∧ t σ H fun vs H1 => spA X.K X.mg n g vs H1 Q (fun _ _ _ => False)) := by
  subst hn
  obtain ⟨fd, F, b⟩ := C.ex
  have h := pe_callL (p := p) (dvs := []) (E := fun _ _ _ => False) F hr hN hv C.kp b .nil (fun pins σ H s e s' I c => passAt tk σ pins H s e s' I c) ha hdb hcd he hpl
  refine ⟨fun pins s σ H Q I q => h.run pins s σ H Q I ⟨q.1, ?_⟩⟩
  have e0 : (fun (vs : List V) (H1 : Hp) => spA X.K X.mg ps.length g (vs ++ []) H1 Q (fun _ _ _ => False)) = fun vs H1 => spA X.K X.mg ps.length g vs H1 Q (fun _ _ _ => False) := by
    funext vs H1
    rw [List.append_nil]
  rw [e0]
  exact q.2
end
section
variable {K : PySem.W.Frag} {mg : Str → Option Value} {W : WX} {B H B1 H1 B2 H2 : Hp} {σ : L2.St} {ss s1 s2 : AS} {m : Nat}
def isFn (f : Addr) : Option Sv → Bool
  | some (.fn f') => decide (f' = f)
  | _ => false
def eCallL (i : Nat) (f : Addr) (n : Nat) (g : AS → R PyData) (ra : AS → R (List Ag)) : AS → R PyData := fun ss => if isFn f ss[i]? then eCall n g ra ss else .no
theorem er_callL {i n : Nat} {f : Addr} {g : AS → R PyData} {ta : TA} {ra : AS → R (List Ag)} (ha : EvA K mg W0 ta ra) :
    EvR K mg W0 (fun σ H Q => σ[i]? = some (some (.ref f)) ∧ ta σ H fun vs H1 => spA K mg n g vs H1 Q (fun _ _ _ => False)) (eCallL i f n g ra) := fun σ B H ss Q R k => by
  unfold eCallL at k
  split at k
  · rename_i c
    refine ⟨?_, er_call ha σ B H ss Q R k⟩
    cases e : ss[i]? with
    | none => rw [e] at c; cases c
    | some s =>
      rw [e] at c
      cases s with
      | fn f' =>
        have : f' = f := of_decide_eq_true c
        subst this
        obtain ⟨o, ho⟩ := get_of_len R e
        exact ho.trans (congrArg some (R.sv i _ o e ho))
      | un => cases c
      | d x => cases c
      | own xs => cases c
      | tab _ t => cases c
  · exact k.elim
/-! ### a tuple or a list unpacked -/
def gSeq (K : PySem.W.Frag) (n : Nat) (t : TGs) : TG := fun v σ H Q => gTup K n t v σ H Q ∨ gLst K n t v σ H Q
theorem pg_seq {X : Cx} {es : List Expr} {k : Nat} {t : TGs} {n : Nat} {pos : Pos} (hc : X.calm = true) (h : PGs X es t) (hn : (assignEach es X.env).length = n := by rfl) (hst : (assignEach es X.env).findIdx? (·.1) = none := by rfl) :
    PG X (.Tuple es k pos) (gSeq X.K n t) := ⟨fun pins s σ H v u Q I r hw => hw.elim (fun q => (pg_tup hc h hn hst).run pins s σ H v u Q I r q) (fun q => (pg_lst hc h hn hst).run pins s σ H v u Q I r q)⟩
def gS (n : Nat) (u : Tgs) : Tg := fun d ss => match d with
  | .tuple xs => if xs.length = n then u xs ss else none
  | .list xs => if xs.length = n then u xs ss else none
  | _ => none
theorem eg_seq {vs : List Nat} {n : Nat} {gs : TGs} {u : Tgs} (h1 : EvGs K vs gs u) : EvG K vs (gSeq K n gs) (gS n u) := fun σ B H ss s2 v d Q R h e k => by
  cases h with
  | tup sv av =>
    unfold gS at e
    dsimp only at e
    split at e
    · rename_i c
      exact .inl ⟨_, _, rfl, ex_t R.ex sv, (dpa_len av).trans c, h1 σ B H ss s2 _ _ Q R av e k⟩
    · cases e
  | lst sv av =>
    unfold gS at e
    dsimp only at e
    split at e
    · rename_i c
      exact .inr ⟨_, _, rfl, ex_l R.ex sv, (dpa_len av).trans c, h1 σ B H ss s2 _ _ Q R av e k⟩
    · cases e
  | non => cases e
  | bl _ => cases e
  | int _ => cases e
  | str _ => cases e
/-! ### an own list and a new one in a row -/
def nCatV (i : Nat) (rb : AS → R (List PyData)) : AS → R (List PyData) := fun ss => match ss[i]? with
  | some (.own _) => (rb ss).bind fun b s2 => (match s2[i]? with
    | some (.own a) => if a.length + b.length ≤ sizeLine then .ok (a ++ b) s2 else .no
    | _ => .no)
  | _ => .no
theorem en_catV {i : Nat} {tb : TE} {rb : AS → R (List PyData)} (hb : EvN K mg W tb rb) : EvN K mg W (tOp rCat (tVar i) tb) (nCatV i rb) := fun σ B H ss Q R g => by
  unfold nCatV at g
  split at g
  · rename_i xs0 e0
    obtain ⟨p, vs0, hv, q1, q2, q3⟩ := R.mine e0
    refine ⟨_, hv, hb σ B H ss _ R (gets_bind g fun b s2 w B2 H2 _ g2 R2 ⟨q, ws, ew, j0, j1, j2, j3, j4⟩ k2 => ?_)⟩
    split at k2
    · rename_i a e2
      split at k2
      · rename_i c
        obtain ⟨p', vs, hv', w1, w2, w3⟩ := R2.mine e2
        rw [hv] at hv'; cases hv'
        exact ⟨p, q, vs, ws, rfl, ew, w1, j1, by rw [dpa_len w3, dpa_len j3]; exact c, gets_new (α := Unit) R2 (fun p hp => go_back g2 hp) k2 (dpa_app w3 j3)⟩
      · exact k2.elim
    · exact k2.elim
  · exact g.elim
end
/-- X(), X an own error class without own __init__ -/
theorem pmk_own0 {X : Cx} {C : Addr} {bmB : List Value} {B newId initId : String} {x : Str} {p pos : Pos} (F : ExcBaseFacts B newId initId bmB) (q : PySem.W.excIn X.K C bmB newId = true) (gC : X.mg x = some (.ref C))
    (kC : PySem.W.keepIn X.K (.ref C) = true) (r : Raises X (.ref C)) (hg : Gl X x) (hdb : (x == ("__debug__" : Str)) = false := by decide) : PMk X (.Call (.Name x p) [] [] pos) (fun _ H Q => Q (.ref C) none H) := by
  intro pz s0 τ G Q J h
  apply wpAny_Call_Name_kw
  apply ld_glob J hg gC _ hdb
  apply PySem.W.callWith_K0 J.kIn kC
  obtain ⟨bm, N, nm, qn, bs, hdct, sn, sub, ab, col, dd, k0, k1, k2, k3, k5, mN, hC, hN, hni, T⟩ := exc_obj J.kIn q
  exact wpAny_call_exc_subT F T hC hN hni (fun h' e hm => mk_of J hm r h (J.hok.gone hm.new)) (Nat.zero_le _)
/-- what the top tells of an error class -/
structure Err (K : PySem.W.Frag) (mg : Str → Option Value) (x : Str) (C : Addr) (bmB : List Value) (newId : String) : Prop where
  gl : mg x = some (.ref C)
  kp : PySem.W.keepIn K (.ref C) = true
  ex : PySem.W.excIn K C bmB newId = true
  sub : PySem.W.subIn K (.ref C) (.type "BaseException") = some true
  ty : PySem.W.typeIn K (.ref C) = some (.type "type")
theorem ps_raise0 {X : Cx} {W : WX} {C : Addr} {bmB : List Value} {B newId initId : String} {x : Str} {p pos pos2 : Pos} (F : ExcBaseFacts B newId initId bmB) (T : Err X.K X.mg x C bmB newId) (hc : X.calm = true) (tk : Takes X W) (hg : Gl X x)
    (hdb : (x == ("__debug__" : Str)) = false := by decide) : PS X (.Raise (some (.Call (.Name x p) [] [] pos)) none pos2) (fun _ σ H => W (.ref C) none σ H) :=
  ps_raise hc tk (pmk_own0 F T.ex T.gl T.kp (raises_own T.sub T.ty) hg hdb)
end AX

/-! AX7: zip of three tuples -/
namespace AX
open PySem L2 Evl RZ PyProof.Rows
def Itz3 (K : PySem.W.Frag) (a b c : Addr) : It where
  go := fun i H => ∃ (xs ys zs : List V) (x y z : V), (SqT K H a xs ∧ xs[i]? = some x) ∧ (SqT K H b ys ∧ ys[i]? = some y) ∧ (SqT K H c zs ∧ zs[i]? = some z)
  yld := fun i H v H' => ∃ T x y z, v = .ref T ∧ H T = none ∧ H' = upd H T (.tup [x, y, z]) ∧ (∀ xs, SqT K H a xs → xs[i]? = some x) ∧ (∀ ys, SqT K H b ys → ys[i]? = some y) ∧ ∀ zs, SqT K H c zs → zs[i]? = some z
  stop := fun i H => ∃ (xs ys zs : List V), (SqT K H a xs ∧ SqT K H b ys ∧ SqT K H c zs) ∧ i = min (min xs.length ys.length) zs.length
def St3 (z TI TO i1 i2 i3 a b c : Addr) (i : Nat) (h : Heap) : Prop := IsZip h z TI TO .none ∧ IsTupOf3 h TI (.ref i1) (.ref i2) (.ref i3) ∧ (∃ x y u, IsTupOf3 h TO x y u) ∧ h.IsTupleIter i1 a i ∧ h.IsTupleIter i2 b i ∧ h.IsTupleIter i3 c i
theorem mem6 {c z TI TO i1 i2 i3 : Addr} (h : c ∈ [z, TI, TO, i1, i2, i3]) : c = z ∨ c = TI ∨ c = TO ∨ c = i1 ∨ c = i2 ∨ c = i3 := by simpa using h
theorem St3.live {z TI TO i1 i2 i3 a b c : Addr} {i : Nat} {h : Heap} (s : St3 z TI TO i1 i2 i3 a b c i h) : ∀ d ∈ [z, TI, TO, i1, i2, i3], ∃ o, h.get? d = some o ∧ ∀ v, o.data ≠ .cell v := by
  obtain ⟨hz, hTI, ⟨x, y, u, hTO⟩, ⟨o1, e1, _, d1⟩, ⟨o2, e2, _, d2⟩, ⟨o3, e3, _, d3⟩⟩ := s
  intro d hd
  rcases mem6 hd with q | q | q | q | q | q <;> subst q
  · exact ⟨_, hz, fun v q => nomatch q⟩
  · exact ⟨_, hTI, fun v q => nomatch q⟩
  · exact ⟨_, hTO, fun v q => nomatch q⟩
  · exact ⟨o1, e1, fun v q => by rw [d1] at q; cases q⟩
  · exact ⟨o2, e2, fun v q => by rw [d2] at q; cases q⟩
  · exact ⟨o3, e3, fun v q => by rw [d3] at q; cases q⟩
theorem turn3 {P : Program} {w : World} {K : PySem.W.Frag} {elts : List Expr} {kk : Nat} {tpos : Pos} {a b c z TI TO i1 i2 i3 : Addr} (S : ZipSep3 z TI TO i1 i2 i3 [i1, a] [i2, b] [i3, c]) :
    Turn P w K (.Tuple elts kk tpos) (Itz3 K a b c) [z, TI, TO, i1, i2, i3] z (St3 z TI TO i1 i2 i3 a b c) where
  mem := by simp
  obj := fun i h st d hd => st.live d hd
  keep := fun i h h' st k => by
    obtain ⟨hz, hTI, ⟨x, y, u, hTO⟩, h1, h2, h3⟩ := st
    exact ⟨k z (by simp) _ hz, k TI (by simp) _ hTI, ⟨x, y, u, k TO (by simp) _ hTO⟩, h1.at fun o q => k i1 (by simp) o q, h2.at fun o q => k i2 (by simp) o q, h3.at fun o q => k i3 (by simp) o q⟩
  item := by
    intro X hP hw hK hc i pins s σ H E I hf st hg
    subst hP hw hK
    have live := st.live
    obtain ⟨hz, hTI, ⟨x0, y0, u0, hTO⟩, h1, h2, h3⟩ := st
    obtain ⟨xs, ys, zs, x, y, u, ⟨hqx, hx⟩, ⟨hqy, hy⟩, ⟨hqz, hu⟩⟩ := hg
    obtain ⟨its, rv, p, _⟩ := I.tuple hqx
    obtain ⟨its2, rv2, p2, _⟩ := I.tuple hqy
    obtain ⟨its3, rv3, p3, _⟩ := I.tuple hqz
    have hh : X.A.handled = none := I.ok.hd hc
    have lt : ∀ {vs : List V} {us : List Value} {v : V}, Vals vs us → vs[i]? = some v → i < us.toArray.size := fun {vs us v} r e => by
      obtain ⟨w, hw, _⟩ := r.get e
      rcases Nat.lt_or_ge i us.length with l | l
      · simpa using l
      · rw [List.getElem?_eq_none l] at hw; cases hw
    have tz : ∀ {d : Addr}, d ∈ [z, TI, TO, i1, i2, i3] → d < s.heap.objs.size := fun {d} hd => by
      obtain ⟨o, e, _⟩ := live d hd
      exact Heap.lt_size e
    refine wpAny_pyNext_zipD3_item S (Draws.tuple (A := X.A.in1) hh i1 a (fun q => ?_) its.toArray) (Draws.tuple (A := X.A.in1) hh i2 b (fun q => ?_) its2.toArray) (Draws.tuple (A := X.A.in1) hh i3 c (fun q => ?_) its3.toArray) hz hTI hTO ⟨h1, p⟩ ⟨h2, p2⟩ ⟨h3, p3⟩ (lt rv hx) (lt rv2 hy) (lt rv3 hu) fun x1 x2 x3 h' tk q1 q2 q3 hz' hTO' g1 g2 g3 hT hsz hk => ?_
    · subst q; obtain ⟨o, e, c1, _⟩ := id p; obtain ⟨o', e', cc, _⟩ := h1; rw [e] at e'; cases e'; rw [c1] at cc; exact absurd (Value.type.inj cc) (by decide)
    · subst q; obtain ⟨o, e, c1, _⟩ := id p2; obtain ⟨o', e', cc, _⟩ := h2; rw [e] at e'; cases e'; rw [c1] at cc; exact absurd (Value.type.inj cc) (by decide)
    · subst q; obtain ⟨o, e, c1, _⟩ := id p3; obtain ⟨o', e', cc, _⟩ := h3; rw [e] at e'; cases e'; rw [c1] at cc; exact absurd (Value.type.inj cc) (by decide)
    refine ⟨_, rfl, wpAny_letOwnedTupleGo_zip (s := { s with heap := h', toks := tk }) hz' fun h'' z'' sb => ?_⟩
    have ne : ∀ {d : Addr}, d ∈ [z, TI, TO, i1, i2, i3] → d ≠ s.heap.objs.size := fun hd => Nat.ne_of_lt (tz hd)
    have hT2 : h''.get? s.heap.objs.size = some { cls := .type "tuple", data := .seq #[x1, x2, x3] } := (sb.2 _ (ne (by simp)).symm).trans hT
    obtain ⟨w1, e1, r1⟩ := rv.get hx
    obtain ⟨w2, e2, r2⟩ := rv2.get hy
    obtain ⟨w3, e3, r3⟩ := rv3.get hu
    have f1 : x1 = w1 := Option.some.inj (q1.symm.trans (by simpa using e1))
    have f2 : x2 = w2 := Option.some.inj (q2.symm.trans (by simpa using e2))
    have f3 : x3 = w3 := Option.some.inj (q3.symm.trans (by simpa using e3))
    subst f1 f2 f3
    have new : ObjOk X.prog X.w (upd H s.heap.objs.size (.tup [x, y, u])) h'' s.heap.objs.size (.tup [x, y, u]) :=
      ⟨by show 3 ≤ sizeLine; decide, [x1, x2, x3], .cons r1 (.cons r2 (.cons r3 .nil)), ⟨_, hT2, rfl, _, rfl⟩⟩
    have kk : ∀ (d : Addr) (o : Obj), d ∉ [z, TI, TO, i1, i2, i3] → s.heap.get? d = some o → h''.get? d = some o := fun d o hd q =>
      (sb.2 d (fun q' => hd (by simp [q']))).trans (hk d o (fun q' => hd (by simp [q'])) (fun q' => hd (by simp [q'])) (fun q' => hd (by simp [q'])) (fun q' => hd (by simp [q'])) (fun q' => hd (by simp [q'])) q)
    have I1 : Inv X pins σ (upd H s.heap.objs.size (.tup [x, y, u])) { s with heap := h'', toks := tk } :=
      I.turnedNew (t' := tk) (ch := [z, TI, TO, i1, i2, i3]) kk hf (Nat.le_refl _) new
    refine ⟨.ref s.heap.objs.size, _, I1, rfl, ⟨_, x, y, u, rfl, I.hok.fresh (Nat.le_refl _), rfl, fun l hl => by rw [I.tuple_inj hl hqx]; exact hx, fun l hl => by rw [I.tuple_inj hl hqy]; exact hy, fun l hl => by rw [I.tuple_inj hl hqz]; exact hu⟩, ⟨z'', ?_, ⟨x1, x2, x3, ?_⟩, ?_, ?_, ?_⟩, fun d hd => ?_⟩
    · exact (sb.2 _ S.TIz).trans (hk _ _ S.TIz S.TITO S.TIi1 S.TIi2 S.TIi3 hTI)
    · exact (sb.2 _ S.TOz).trans hTO'
    · exact g1.1.at fun o q => (sb.2 _ (fun q' => S.zf1 (by simp [q']))).trans q
    · exact g2.1.at fun o q => (sb.2 _ (fun q' => S.zf2 (by simp [q']))).trans q
    · exact g3.1.at fun o q => (sb.2 _ (fun q' => S.zf3 (by simp [q']))).trans q
    · rw [upd_ne (ne hd)]
      exact (hf d hd).1
  done := by
    intro X hP hw hK hc i pins s σ H E I hf st hg
    subst hP hw hK
    obtain ⟨hz, hTI, ⟨x0, y0, u0, hTO⟩, h1, h2, h3⟩ := st
    obtain ⟨xs, ys, zs, ⟨hqx, hqy, hqz⟩, hend⟩ := hg
    obtain ⟨its, rv, p, _⟩ := I.tuple hqx
    obtain ⟨its2, rv2, p2, _⟩ := I.tuple hqy
    obtain ⟨its3, rv3, p3, _⟩ := I.tuple hqz
    have hh : X.A.handled = none := I.ok.hd hc
    have l1 : its.toArray.size = xs.length := by rw [List.size_toArray]; exact rv.length.symm
    have l2 : its2.toArray.size = ys.length := by rw [List.size_toArray]; exact rv2.length.symm
    have l3 : its3.toArray.size = zs.length := by rw [List.size_toArray]; exact rv3.length.symm
    refine wpAny_pyNext_zipD3_end S (Draws.tuple (A := X.A.in1) hh i1 a (fun q => ?_) its.toArray) (Draws.tuple (A := X.A.in1) hh i2 b (fun q => ?_) its2.toArray) (Draws.tuple (A := X.A.in1) hh i3 c (fun q => ?_) its3.toArray) hz hTI hTO ⟨h1, p⟩ ⟨h2, p2⟩ ⟨h3, p3⟩
      (by omega) (by omega) (by omega) (by omega) fun h' tk hk => ⟨rfl, I.turnedL (t' := tk) (ch := [z, TI, TO, i1, i2, i3]) (fun d o hb q =>
        hk d o (fun q' => hb (by simp [q'])) (fun q' => hb (by simp [q'])) (fun q' => hb (by simp [q'])) (fun q' => hb (by simp [q'])) (fun q' => hb (by simp [q'])) q) hf⟩
    · subst q; obtain ⟨o, e, c1, _⟩ := id p; obtain ⟨o', e', cc, _⟩ := h1; rw [e] at e'; cases e'; rw [c1] at cc; exact absurd (Value.type.inj cc) (by decide)
    · subst q; obtain ⟨o, e, c1, _⟩ := id p2; obtain ⟨o', e', cc, _⟩ := h2; rw [e] at e'; cases e'; rw [c1] at cc; exact absurd (Value.type.inj cc) (by decide)
    · subst q; obtain ⟨o, e, c1, _⟩ := id p3; obtain ⟨o', e', cc, _⟩ := h3; rw [e] at e'; cases e'; rw [c1] at cc; exact absurd (Value.type.inj cc) (by decide)
  self := fun A i s Q E st h => wpAny_pyIter_zip st.1 h
def iZip3 (K : PySem.W.Frag) (ta : TA) : TI := fun σ H R => ta σ H fun vs H1 => ∃ a b c xs ys zs, vs = [.ref a, .ref b, .ref c] ∧ (SqT K H1 a xs ∧ SqT K H1 b ys ∧ SqT K H1 c zs) ∧ R (Itz3 K a b c) H1
theorem pi_zip3 {X : Cx} {e e2 e3 : Expr} {ta : TA} {p pos tpos : Pos} {elts : List Expr} {kk : Nat} (hg : Gl X "zip") (hm : X.mg "zip" = none) (ha : PA X [e, e2, e3] ta)
    (hs : starEach [e, e2, e3] X.env = (false, eval e X.env) :: starEach [e2, e3] X.env := by rfl) (hpl : (backTo pos (starEach [e2, e3] X.env)).any (·.1) = false := by rfl) :
    PI X (.Tuple elts kk tpos) (.Call (.Name "zip" p) [e, e2, e3] [] pos) (iZip3 X.K ta) := by
  constructor
  intro pz s0 τ G Rw J0 hw
  refine Call_ ?_
  apply ld_blt J0 hg hm PyProof.Rows.boot_zip
  apply PyProof.Rows.callWith_type1 _ hs hpl
  apply thn (ha.run pos pz s0 τ G _ J0 hw)
  rintro us s1 ⟨vs, H1, I1, r1, a, b, c, xs, ys, zs, ev, ⟨hqx, hqy, hqz⟩, q⟩
  subst ev
  cases r1 with
  | cons ra rr =>
    cases rr with
    | cons rb rr =>
      cases rr with
      | cons rc rr =>
        cases rr
        cases ra; cases rb; cases rc
        obtain ⟨its, rv, p1, _⟩ := I1.tuple hqx
        obtain ⟨its2, rv2, p2, _⟩ := I1.tuple hqy
        obtain ⟨its3, rv3, p3, _⟩ := I1.tuple hqz
        obtain ⟨o1, ho1, _⟩ := id p1
        obtain ⟨o2, ho2, _⟩ := id p2
        obtain ⟨o3, ho3, _⟩ := id p3
        refine zip_begins3 (begins_tuple a its.toArray) (begins_tuple b its2.toArray) (begins_tuple c its3.toArray) p1 p2 p3 fun h' hz hTI hTO e1 e2 e3 hsz hk => wpAny_pyIter_zip hz ?_
        have sep := zip_sep3 (N := s1.heap.objs.size) (fp1 := [a]) (fp2 := [b]) (fp3 := [c]) (by simpa using Heap.lt_size ho1) (by simpa using Heap.lt_size ho2) (by simpa using Heap.lt_size ho3)
        have I2 : Inv X pz τ H1 { s1 with heap := h' } := I1.kept (t' := s1.toks) hk
        refine ⟨s1.heap.objs.size + 5, [s1.heap.objs.size + 5, s1.heap.objs.size + 3, s1.heap.objs.size + 4, s1.heap.objs.size, s1.heap.objs.size + 1, s1.heap.objs.size + 2], _, _, H1, rfl, I2, turn3 sep, ⟨hz, hTI, ⟨_, _, _, hTO⟩, ⟨_, e1, rfl, rfl⟩, ⟨_, e2, rfl, rfl⟩, ⟨_, e3, rfl, rfl⟩⟩, fun d hd => ?_, q⟩
        have hle : s1.heap.objs.size ≤ d := by
          rcases mem6 hd with q | q | q | q | q | q <;> rw [q]
          · exact Nat.le_add_right _ _
          · exact Nat.le_add_right _ _
          · exact Nat.le_add_right _ _
          · exact Nat.le_refl _
          · exact Nat.le_add_right _ _
          · exact Nat.le_add_right _ _
        exact I1.fpOk hle (I1.hok.fresh hle)
section
variable {K : PySem.W.Frag} {mg : Str → Option Value} {W : WX} {B H B1 H1 : Hp} {σ : L2.St} {ss s1 : AS}
def zip3D : List PyData → List PyData → List PyData → List PyData
  | x :: xs, y :: ys, z :: zs => .tuple [x, y, z] :: zip3D xs ys zs
  | _, _, _ => []
theorem zip3_get : ∀ {xs ys zs : List PyData} {i : Nat} {d : PyData}, (zip3D xs ys zs)[i]? = some d → ∃ x y z, xs[i]? = some x ∧ ys[i]? = some y ∧ zs[i]? = some z ∧ d = .tuple [x, y, z]
  | x :: xs, y :: ys, z :: zs, 0, d, e => by simp [zip3D] at e; exact ⟨x, y, z, rfl, rfl, rfl, e.symm⟩
  | x :: xs, y :: ys, z :: zs, i + 1, d, e => by
    obtain ⟨a, b, c, h1, h2, h3, h4⟩ := zip3_get (xs := xs) (ys := ys) (zs := zs) (i := i) (d := d) (by simpa [zip3D] using e)
    exact ⟨a, b, c, by simpa using h1, by simpa using h2, by simpa using h3, h4⟩
  | [], _, _, i, d, e => by simp [zip3D] at e
  | _ :: _, [], _, i, d, e => by simp [zip3D] at e
  | _ :: _, _ :: _, [], i, d, e => by simp [zip3D] at e
theorem zip3_len : ∀ (xs ys zs : List PyData), (zip3D xs ys zs).length = min (min xs.length ys.length) zs.length
  | x :: xs, y :: ys, z :: zs => by simp only [zip3D, List.length_cons, zip3_len xs ys zs]; omega
  | [], _, _ => by simp [zip3D]
  | _ :: _, [], _ => by simp [zip3D]
  | _ :: _, _ :: _, [] => by simp [zip3D]
theorem walks3 {a b c : Addr} {vs ws us : List V} {ds es fs : List PyData} (h1 : SqT K B a vs) (d1 : DpAll K B vs ds) (h2 : SqT K B b ws) (d2 : DpAll K B ws es) (h3 : SqT K B c us) (d3 : DpAll K B us fs) : Walks K B (Itz3 K a b c) (zip3D ds es fs) := fun B' H' e1 e2 i => by
  have k1 := ex_t (e1.trans e2) h1
  have k2 := ex_t (e1.trans e2) h2
  have k3 := ex_t (e1.trans e2) h3
  refine ⟨fun hi => ⟨vs, ws, us, ⟨k1, k2, k3⟩, by rw [dpa_len d1, dpa_len d2, dpa_len d3, ← zip3_len]; exact hi.symm⟩, fun d e => ?_⟩
  obtain ⟨x, y, z, ex, ey, ez, rfl⟩ := zip3_get e
  obtain ⟨v, hv, dv⟩ := dpa_get d1 ex
  obtain ⟨w, hw, dw⟩ := dpa_get d2 ey
  obtain ⟨u, hu, du⟩ := dpa_get d3 ez
  refine ⟨⟨vs, ws, us, v, w, u, ⟨k1, hv⟩, ⟨k2, hw⟩, ⟨k3, hu⟩⟩, fun q H2 yl => ?_⟩
  obtain ⟨T, x', y', z', rfl, hT, rfl, q1, q2, q3⟩ := yl
  have a1 := (q1 vs k1).symm.trans hv
  have a2 := (q2 ws k2).symm.trans hw
  have a3 := (q3 us k3).symm.trans hu
  cases a1; cases a2; cases a3
  have g := Gn.new (o := .tup [v, w, u]) e2 hT
  exact ⟨_, g, .tup (st_of upd_same) (.cons (dp_mono (e1.trans g.b) dv) (.cons (dp_mono (e1.trans g.b) dw) (.cons (dp_mono (e1.trans g.b) du) .nil)))⟩
def iZp3 (rl : AS → R (List PyData)) : AS → R (List PyData) := fun ss => (rl ss).bind fun l s => match l with
  | [.tuple xs, .tuple ys, .tuple zs] => .ok (zip3D xs ys zs) s
  | _ => .no
theorem ei_zip3 {tl : TA} {rl : AS → R (List PyData)} (h : EvL K mg W tl rl) : EvI K mg W (iZip3 K tl) (iZp3 rl) := fun σ B H ss Q R g =>
  h σ B H ss _ R (gets_bind g fun l s1 vs B1 H1 _ _ R1 d1 h1 => by
    split at h1
    · cases d1 with
      | cons da dr =>
        obtain ⟨v, w, rfl, dv, dw⟩ := dpa2 dr
        cases da with
        | tup sa aa =>
          cases dv with
          | tup sv av =>
            cases dw with
            | tup sw aw => exact ⟨_, _, _, _, _, _, rfl, ⟨ex_t R1.ex sa, ex_t R1.ex sv, ex_t R1.ex sw⟩, gets_ok R1 h1 _ B1 H1 (Gn.refl R1.ex) (walks3 sa aa sv av sw aw)⟩
    · exact h1.elim)
end
end AX

/-! AX8: t[::-1] of tuples and lists -/
namespace AX
open PySem L2 Evl RZ PyProof.Rows HT
section
variable {prog : Program} {w : World} {A : Around} {E : Value → Shared → Prop} {s : Shared}
theorem places_rev (n : Nat) : Builtin.Slice.sliceAdjust none none (-1) (n : Int) = ((n : Int) - 1, -1) ∧ Builtin.Slice.slicePlaces ((n : Int) - 1) (-1) (-1) = n := by
  constructor
  · unfold Builtin.Slice.sliceAdjust
    simp
  · unfold Builtin.Slice.slicePlaces
    rw [if_neg (by decide)]
    by_cases h : n = 0
    · subst h; decide
    · rw [if_pos (by omega)]
      have : ((n : Int) - 1 - -1 - 1) / (- -1) + 1 = n := by
        rw [show (- -1 : Int) = 1 by decide, Int.ediv_one]
        omega
      rw [this]
      simp
theorem applied_rev {sl : Addr} {u : Tok} {n : Nat} {Q : Int × Int × Nat → Shared → Prop} {vs : Value} (hs : s.heap.IsSliceOf sl .none .none vs) (pk : IsPart vs (some (-1))) (h : Q ((n : Int) - 1, -1, n) s) :
    wpAny (model prog w) A (Builtin.Slice.sliceApplied (.ref sl) (pure (n : Int))) Q E s := by
  obtain ⟨ob, e1, e2, e3⟩ := id hs
  unfold Builtin.Slice.sliceApplied Builtin.Slice.sliceFields
  apply wpAny_bind
  refine wpAny_bind (wpAny_field e1 e3 (x := .none) rfl (wpAny_bind (wpAny_field e1 e3 (x := .none) rfl (wpAny_bind (wpAny_field e1 e3 (x := vs) rfl (wpAny_pure ?_))))))
  apply wpAny_bind
  apply slicePart_ pk
  show wpAny _ _ (if ((-1 : Int) == 0) = true then _ else _) _ _ s
  rw [if_neg (by decide)]
  apply wpAny_bind
  apply slicePart_none
  apply wpAny_bind
  apply slicePart_none
  apply wpAny_bind
  apply wpAny_pure
  show wpAny _ _ (match Builtin.Slice.sliceAdjust none none (-1) (n : Int) with | (lo, hi) => pure (lo, (-1 : Int), Builtin.Slice.slicePlaces lo hi (-1))) _ _ s
  rw [(places_rev n).1]
  show wpAny _ _ (pure ((n : Int) - 1, (-1 : Int), Builtin.Slice.slicePlaces ((n : Int) - 1) (-1) (-1))) _ _ s
  rw [(places_rev n).2]
  exact wpAny_pure h
theorem fm_congr {α β : Type} {f g : α → Option β} : ∀ (l : List α), (∀ k ∈ l, f k = g k) → l.filterMap f = l.filterMap g
  | [], _ => rfl
  | a :: r, h => by
    rw [List.filterMap_cons, List.filterMap_cons, h a (List.mem_cons_self ..), fm_congr r fun k hk => h k (List.mem_cons_of_mem _ hk)]
theorem pick_rev (xs : Array Value) : ((List.range xs.size).filterMap fun (k : Nat) => xs[((xs.size : Int) - 1 + (k : Int) * -1).toNat]?).toArray = xs.toList.reverse.toArray := by
  congr 1
  have e : (List.range xs.size).filterMap (fun (k : Nat) => xs[((xs.size : Int) - 1 + (k : Int) * -1).toNat]?) = (List.range xs.size).filterMap (fun k => xs.toList.reverse[k]?) := by
    apply fm_congr
    intro k hk
    have hk := List.mem_range.mp hk
    rw [List.getElem?_reverse (by simpa using hk), Array.length_toList, Array.getElem?_toList]
    congr 1
    omega
  rw [e]
  have gen : ∀ (l : List Value), (List.range l.length).filterMap (fun k => l[k]?) = l := fun l => by
    have := PySem.W.krv_all l.toArray
    simpa using this
  have := gen xs.toList.reverse
  rw [List.length_reverse, Array.length_toList] at this
  exact this
theorem item_rev {t sl : Addr} {items : Array Value} {Q : Value → Shared → Prop} {vs : Value} {u : Tok} (ht : IsTup s.heap t items) (hs : s.heap.IsSliceOf sl .none .none vs) (pk : IsPart vs (some (-1)))
    (h : Q (.ref s.heap.objs.size) { s with heap := s.heap.push { cls := .type "tuple", data := .seq items.toList.reverse.toArray } }) (hz : items.size ≤ sizeLine) : wpAny (model prog w) A (getItem (.ref t) (.ref sl)) Q E s := by
  have so : sizeOk (.seq items.toList.reverse.toArray) := by
    show items.toList.reverse.toArray.size ≤ sizeLine
    rw [List.size_toArray, List.length_reverse, Array.length_toList]
    exact hz
  obtain ⟨ob, e1, e2, e3⟩ := id hs
  have ty : s.TypeIs (.ref sl) "slice" := ⟨ob, e1, e2⟩
  unfold getItem
  try with_reducible refine wpAny_holding ?_
  first | refine wpAny_bind (wpAny_pure ?_) | skip
  apply wpAny_bind
  apply wpAny_sequenceKey ht.typeIs (by decide)
  apply wpAny_bind
  apply wpAny_callSpecial?_slot (name := Str.ofString "__getitem__") ht.typeIs PyProof.Rows.slot_tuple_getitem
  refine wpAny_call_entry PyProof.Rows.slot_tuple_getitem ht.typeIs entry_tuple_getitem ?_ (args_tuple_getitem _ _)
  show wpAny _ _ (Builtin.Tuple.tupleItemsOf (.ref t) >>= _) _ _ s
  apply wpAny_bind
  apply tupleItemsOf_ ht
  apply wpAny_bind
  apply wpAny_typeOf ty
  rw [if_pos (by decide)]
  apply wpAny_bind
  apply applied_rev (u := u) hs pk
  have hn : ¬ ((((items.size : Int) - 1) == 0 && (-1 : Int) == 1 && items.size == items.size) = true) := by
    intro q
    rw [Bool.and_eq_true, Bool.and_eq_true] at q
    exact absurd q.1.2 (by decide)
  show wpAny _ _ (if (((items.size : Int) - 1) == 0 && (-1 : Int) == 1 && items.size == items.size) = true then _ else _) _ _ s
  rw [if_neg hn, pick_rev]
  first
    | exact wpAny_bind (m := Builtin.Tuple.tupleExact _) (wpAny_newObj_type (wpAny_pure ⟨_, rfl, wpAny_pure h⟩) so)
    | exact wpAny_bind (m := Builtin.Tuple.tupleExact _) (wpAny_newObj_type (wpAny_bind (wpAny_pure (wpAny_pure ⟨_, rfl, wpAny_pure h⟩))) so)
    | exact wpAny_bind (wpAny_bind (m := Builtin.Tuple.tupleExact _) (wpAny_newObj_type (wpAny_pure (wpAny_pure ⟨_, rfl, wpAny_pure h⟩)) so))
    | exact wpAny_bind (wpAny_bind (m := Builtin.Tuple.tupleExact _) (wpAny_newObj_type (wpAny_pure ⟨_, rfl, wpAny_pure h⟩) so))
end
/-- t[::-1]: a tuple, a list -/
def tRevA (K : PySem.W.Frag) (te : TE) : TE := fun σ H Q => te σ H fun x H1 => ∃ a xs, x = .ref a ∧ ((SqT K H1 a xs ∧ ∀ p, H1 p = none → Q (.ref p) (upd H1 p (.tup xs.reverse))) ∨ (SqL K H1 a xs ∧ ∀ p, H1 p = none → Q (.ref p) (upd H1 p (.lst xs.reverse))))
theorem pe_revA {X : Cx} {e : Expr} {te : TE} {k : Nat} {p1 p2 p3 pos : Pos} (he : PE X e te) : PE X (.Subscript e (.Slice none none (some (.UnaryOp .USub (.Constant (.int 1) k p1) p2)) p3) pos) (tRevA X.K te) := by
  constructor
  intro pz s0 τ G Q J0 h
  apply Subscript_
  apply thn (he.run pz s0 τ G _ J0 h)
  rintro v s1 ⟨x, H1, I1, r1, a, xs, ex, q⟩
  subst ex
  cases r1
  have hst : PO X (some (.UnaryOp .USub (.Constant (.int 1) k p1) p2)) (tPart (tUn (rU fun i => .int (-i)) (tC (.int 1)))) := po_some (pe_un un_neg pe_int)
  apply wpAny_Slice
  apply thn (po_none.run pz s1 τ H1 (fun o H2 => o = none ∧ H2 = H1) I1 ⟨rfl, rfl⟩)
  rintro vl s2 ⟨l, H2, I2, pl, rfl, rfl⟩
  apply thn (po_none.run pz s2 τ H2 (fun o H3 => o = none ∧ H3 = H2) I2 ⟨rfl, rfl⟩)
  rintro vu s3 ⟨u, H3, I3, pu, rfl, rfl⟩
  apply thn (hst.run pz s3 τ H3 (fun o H4 => o = some (-1) ∧ H4 = H3) I3 ⟨1, rfl, -1, rfl, rfl, rfl⟩)
  rintro vs s4 ⟨o, H4, I4, ps, rfl, rfl⟩
  have I5 : Inv X pz τ H4 { s4 with heap := s4.heap.push { cls := .type "slice", data := .fields #[vl, vu, vs] } } := I4.kept (t' := s4.toks) fun b ob q => Heap.get?_push_of_some _ q
  show wpAny (model X.prog X.w) X.A (subscriptTail e (.Slice none none (some (.UnaryOp .USub (.Constant (.int 1) k p1) p2)) p3) (.ref a) (.ref s4.heap.objs.size)) (EP X pz τ Q) X.xe { s4 with heap := s4.heap.push { cls := .type "slice", data := .fields #[vl, vu, vs] } }
  have el : vl = .none := by cases pl; rfl
  have eu : vu = .none := by cases pu; rfl
  subst el eu
  rcases q with ⟨hx, q⟩ | ⟨hx, q⟩
  · obtain ⟨its, r, ht, hz⟩ := I5.tuple hx
    have hlen := r.length
    apply tail_any (ops := [.ref a, .ref s4.heap.objs.size]) ht.typeIs PyProof.Rows.slot_tuple_getitem.lookup _ (by with_unfolding_all rfl)
    apply item_rev (u := 0) ht (Heap.IsSliceOf.new _ .none .none vs) ps _ (by rw [List.size_toArray]; omega)
    refine ⟨.ref _, _, I5.laid (t' := s4.toks) (o := .tup xs.reverse) (fun b ob q => Heap.get?_push_of_some _ q) (Nat.le_refl _) ?_, rfl, q _ (I5.hok.fresh (Nat.le_refl _))⟩
    exact ⟨by rw [List.length_reverse]; exact hz, _, r.reverse, IsTup.new _ _⟩
  · obtain ⟨its, r, ht, hz⟩ := I5.list hx
    have hlen := r.length
    apply tail_any (ops := [.ref a, .ref s4.heap.objs.size]) ht.isList.typeIs (PySem.slot_list_getitem.lookup) _ (by with_unfolding_all rfl)
    apply wpAny_getItem_list_slice ht.isList (Heap.IsSliceOf.new _ .none .none vs) .none .none ps (by decide) _ (by rw [List.size_toArray]; omega)
    rw [PySem.W.krv_pick]
    refine ⟨.ref _, _, I5.laid (t' := s4.toks) (o := .lst xs.reverse) (fun b ob q => Heap.get?_push_of_some _ q) (Nat.le_refl _) ?_, rfl, q _ (I5.hok.fresh (Nat.le_refl _))⟩
    exact ⟨by rw [List.length_reverse]; exact hz, _, 0, r.reverse, Heap.get?_push_size _ rfl⟩
section
variable {K : PySem.W.Frag} {mg : Str → Option Value} {W : WX}
def pyRev : PyData → Option PyData
  | .tuple xs => some (.tuple xs.reverse)
  | .list xs => some (.list xs.reverse)
  | _ => none
theorem er_rev {te : TE} {ra : AS → R PyData} (ha : EvR K mg W te ra) : EvR K mg W (tRevA K te) (eUn pyRev ra) := fun σ B H ss Q R g =>
  ha σ B H ss _ R (gets_bind g fun d s1 v B1 H1 _ _ R1 d1 h1 => by
    obtain ⟨z, hz, q⟩ := gets_lift R1 h1
    unfold pyRev at hz
    split at hz
    · cases hz
      cases d1 with
      | @tup a ws _ sl da =>
        refine ⟨a, ws, rfl, .inl ⟨ex_t R1.ex sl, fun p hp => ?_⟩⟩
        have g1 := Gn.new (o := .tup ws.reverse) R1.ex hp
        exact q _ _ _ g1 (.tup (st_of upd_same) (dpa_rev (dpa_mono g1.b da)))
    · cases hz
      cases d1 with
      | @lst a ws _ sl da =>
        refine ⟨a, ws, rfl, .inr ⟨ex_l R1.ex sl, fun p hp => ?_⟩⟩
        have g1 := Gn.new (o := .lst ws.reverse) R1.ex hp
        exact q _ _ _ g1 (.lst (sq_of upd_same) (dpa_rev (dpa_mono g1.b da)))
    · cases hz)
end
end AX

/-! AX9: repr, and the defs that ask it: they run where nothing is being shown -/
namespace AX
open PySem L2 Evl RZ PyProof.Rows
def rRepr (K : PySem.W.Frag) : List V → Hp → VK → Prop := fun xs H Q => ∃ x d, xs = [x] ∧ Dp K H x d ∧ (d.showable = true ∧ d.hasDict = false ∧ d.depth ≤ 64 ∧ d.shown.length ≤ sizeLine) ∧ Q (.str d.shown) H
theorem call_repr {X : Cx} (hg : X.A.guards = some []) (hu : X.A.units + 128 < cLine) : CallR X (.builtin "repr") (rRepr X.K) := fun pz s0 τ G xs us Q J rv h => by
  obtain ⟨x, d, rfl, hd, ⟨h1, h2, h3, h4⟩, q⟩ := h
  cases rv with
  | cons r rr =>
    cases rr
    have key : ∀ (h' : Heap) (u : Tok) (tk : Nat), (∀ b o, s0.heap.get? b = some o → h'.get? b = some o) → EP X pz τ Q (.str d.shown u) { s0 with heap := h', toks := tk } := fun h' u tk hk => ⟨.str d.shown, G, J.kept hk, ⟨u, rfl⟩, q⟩
    cases hd with
    | non =>
      cases (show _ = Value.none from r)
      exact PySem.P.repr_of_none (by have := key s0.heap s0.toks (s0.toks + 1) (fun _ _ e => e); simpa [PyData.shown] using this)
    | bl b =>
      cases (show _ = Value.bool b from r)
      exact PySem.P.repr_of_bool (by have := key s0.heap s0.toks (s0.toks + 1) (fun _ _ e => e); simpa [PyData.shown] using this)
    | int i =>
      obtain ⟨t, rfl⟩ := r
      exact PySem.P.repr_of_int (by simpa [PyData.showable] using h1) (by have := key s0.heap s0.toks (s0.toks + 1) (fun _ _ e => e); simpa [PyData.shown] using this)
    | str y =>
      obtain ⟨t, rfl⟩ := r
      exact PySem.P.repr_of_str (by have := key s0.heap s0.toks (s0.toks + 1) (fun _ _ e => e); simpa [PyData.shown] using this) (by simpa [PyData.shown] using h4)
    | lst sl da =>
      obtain ⟨as, rd⟩ := Dp.reads J _ _ _ (Dp.lst sl da) r
      cases r
      exact repr_of_reads' rd h1 (PyData.noDict_hsm h2) hg (by omega) (fun _ _ e => e) (fun h' u tk hk => key h' u tk hk) h4
    | tup sl da =>
      obtain ⟨as, rd⟩ := Dp.reads J _ _ _ (Dp.tup sl da) r
      cases r
      exact repr_of_reads' rd h1 (PyData.noDict_hsm h2) hg (by omega) (fun _ _ e => e) (fun h' u tk hk => key h' u tk hk) h4
def pyRepr (d : PyData) : Option PyData := if d.showable = true ∧ d.hasDict = false ∧ d.depth ≤ 64 ∧ d.shown.length ≤ sizeLine then some (.str d.shown) else none
theorem ok_repr {K : PySem.W.Frag} : CallOk K (rRepr K) (py1 pyRepr) := ok_1 fun B H v d z Q eb hd hz k => by
  unfold pyRepr at hz
  split at hz
  · rename_i c; cases hz
    exact ⟨v, d, rfl, dp_mono eb hd, c, k _ B H (Gn.refl eb) (.str _)⟩
  · cases hz
/-- a def that runs where nothing is being shown -/
structure FnG (P : Program) (w : World) (K : PySem.W.Frag) (mg : Str → Option Value) (base : Heap) (CX : CXT) (k : Nat) (f : Addr) (fd : FuncData) (ps : List Str) (sp : Sp) : Prop where
  len : ∀ vs H Q E, sp vs H Q E → vs.length = ps.length
  run : ∀ (Ar : Around) (fs : List Env) (st : Shared) (G : Hp) (as : Args) (us : List Value) (vs : List V) (Q : VK) (E : XK), Room k Ar → Ar.guards = some [] → Env0 P w K mg base Ar fs st G → BindsTo st fd as (ps.zip us) → Vals vs us → sp vs G Q E →
    codeAny (model P w) Ar (.call (.ref f) as) (CR CX fs P w G st Q E) st
theorem FnG.of {P : Program} {w : World} {K : PySem.W.Frag} {mg : Str → Option Value} {base : Heap} {CX : CXT} {k : Nat} {f : Addr} {fd : FuncData} {ps : List Str} {sp : Sp} (F : FnOk P w K mg base CX k f fd ps sp) : FnG P w K mg base CX k f fd ps sp :=
  ⟨F.len, fun Ar fs st G as us vs Q E hr _ e b v h => F.run Ar fs st G as us vs Q E hr e b v h⟩
theorem guards_deeper {A : Around} {env : Env} : (A.deeper env).guards = A.guards := by
  first | rfl | simp [Around.deeper]
section
variable {P : Program} {w : World} {K : PySem.W.Frag} {mg : Str → Option Value} {base : Heap}
theorem fnG_mk {x qual : Str} {st : Stmt} {f : Addr} {fd : FuncData} {N ps : List Str} {k : Nat} {sp : Sp} (F : Fun K x qual st f fd) (S : FnScope N ps (defScope st)) (len : ∀ vs H Q E, sp vs H Q E → vs.length = ps.length)
    (hbody : ∀ (cdv : Value) (Ar : Around) (fs : List Env) (s0 : Shared) (G : Hp) (vs : List V) (Q : VK) (E : XK), Room k (Ar.deeper (envOfC qual (defScope st) s0.heap.objs.size f cdv)) → Ar.guards = some [] → sp vs G Q E →
      ∃ t, PSs (cxOf (L2.CX P w) P w K mg base N qual (defScope st) f cdv Ar fs s0 G E) (defBody st) t ∧ t { nx := fun _ H' => Q .non H', rt := Q } (L2.start N vs) G) : FnG P w K mg base (L2.CX P w) (k + 1) f fd ps sp := by
  obtain ⟨oc, od, kV, doc, pm, an, cdv, ct, osl, rfl, lk, hcd⟩ := F.ex
  constructor
  · exact len
  intro Ar fs s0 G as us vs Q E hr hgd e0 hb rv hsp
  have hl := len _ _ _ _ hsp
  have kin : K.In s0.heap := e0.mod.kin.keeps fun b o e => (e0.bs b o e).1
  have lim : s0.heap.NoLimit := e0.mod.nolimit.keeps fun b o e => (e0.bs b o e).1
  have kinds : ∀ y ∈ ps.zip us, (defScope st).names.lookup y.1 = some .local ∨ ((defScope st).names.lookup y.1 = some .cell ∧ ((cellsFrom (s0.heap.objs.size + 1) (defScope st).names []).lookup y.1).isSome = true) := by
    rintro ⟨n, v⟩ hy
    have hn : n ∈ ps := (List.of_mem_zip hy).1
    cases S.par n hn with
    | inl q => exact .inl q
    | inr q => exact .inr ⟨q, PySem.W.cellsFrom_some _ _ _ (.inl q)⟩
  apply codeAny_call_function hr.depth (kin _ _ lk) rfl S.co S.gen rfl (PySem.W.codeRec_of kin hcd)
  apply hb
  apply wpAny_newFunctionEnv_cells S.kind kinds
  intro env he s1 xc
  subst he
  constructor
  · exact lim.keeps xc.toInCall.keep
  apply codeAny_func
  obtain ⟨t, ht, hq⟩ := hbody cdv Ar fs s0 G vs Q E (hr.deeper _) hgd hsp
  have J : Inv (cxOf (L2.CX P w) P w K mg base N qual (defScope st) f cdv Ar fs s0 G E) [] (L2.start N vs) G s1 := inv_start S hr.hd e0 hl rv xc
  apply wpAny_mono (ht.run [] s1 (L2.start N vs) G _ J hq) _ fun e s' hs => hs
  intro fl s' hs
  cases fl with
  | ret u =>
    obtain ⟨v, σ', H', J', r', q'⟩ := hs
    exact ⟨v, H', J'.os, J'.bare, J'.base, J'.hok, r', q'⟩
  | next =>
    obtain ⟨σ', H', J', q'⟩ := hs
    exact ⟨V.non, H', J'.os, J'.bare, J'.base, J'.hok, rfl, q'⟩
  | brk => exact hs.elim fun _ h => h.elim fun _ h => h.2.elim
  | cont => exact hs.elim fun _ h => h.elim fun _ h => h.2.elim
structure CalG (P : Program) (w : World) (K : PySem.W.Frag) (mg : Str → Option Value) (base : Heap) (f : Addr) (x : Str) (ps : List Str) (k : Nat) (g : AS → R PyData) : Prop where
  ex : ∃ fd, FnG P w K mg base (L2.CX P w) k f fd ps (spA K mg ps.length g) ∧ L2.Binds K fd ps []
  gl : mg x = some (.ref f)
  kp : PySem.W.keepIn K (.ref f) = true
theorem CalG.of {f : Addr} {x : Str} {ps : List Str} {k : Nat} {g : AS → R PyData} (C : Cal P w K mg base f x ps k g) : CalG P w K mg base f x ps k g := by
  obtain ⟨fd, F, b⟩ := C.ex
  exact ⟨⟨fd, .of F, b⟩, C.gl, C.kp⟩
theorem calG_ok {x : Str} {st : Stmt} {f : Addr} {N ps : List Str} {k m : Nat} {body : AS → Fl} (F : Def K mg x st f ps) (S : FnScope N ps (defScope st)) (hp : ps.length ≤ N.length) (hm : m ≤ ps.length)
    (hbody : ∀ (cdv : Value) (A : Around) (outer : List Env) (s : Shared) (H : Hp) (E : XK), Room k (A.deeper (envOfC x (defScope st) s.heap.objs.size f cdv)) → A.guards = some [] →
      ∃ t, PSs (cxOf (L2.CX P w) P w K mg base N x (defScope st) f cdv A outer s H E) (defBody st) t ∧ EvS K mg (fun u d _ H => E u d H) m t body) :
    CalG P w K mg base f x ps (k + 1) (fnR m ps.length N.length body) := by
  obtain ⟨fd, F1, b⟩ := F.ex
  refine ⟨⟨fd, fnG_mk F1 S spA_len fun cdv A outer s H vs Q E hr hg h => ?_, b⟩, F.gl, F.kp⟩
  obtain ⟨t, h1, h2⟩ := hbody cdv A outer s H E hr hg
  exact ⟨t, h1, body_run hp hm h2 h⟩
end
section
variable {X : Cx} {f : Addr} {x y : Str} {ps : List Str} {k i n : Nat} {g : AS → R PyData} {W : WX} {p pos : Pos} {e : Expr} {es : List Expr} {t : TA}
theorem pe_calG (C : CalG X.prog X.w X.K X.mg X.base f x ps k g) (hr : Room k X.A) (hgd : X.A.guards = some []) (hg : Gl X x) (tk : Takes X W) (ha : PA X (e :: es) t)
    (hn : ps.length = n := by rfl) (hdb : (x == ("__debug__" : Str)) = false := by decide) (he : starEach (e :: es) X.env = (false, eval e X.env) :: starEach es X.env := by rfl) (hpl : (backTo pos (starEach es X.env)).any (·.1) = false := by rfl) :
    PE X (.Call (.Name x p) (e :: es) [] pos) (tCallS (spA X.K X.mg n g) (WE W) t) := by
  subst hn
  obtain ⟨fd, F, hb⟩ := C.ex
  constructor
  intro pz s0 τ G Q J h
  apply wpAny_Call_Name_kw
  apply ld_glob J hg C.gl _ hdb
  apply PySem.W.callWith_K (h₀ := X.base) J.ok.mod.kin C.kp _ he hpl
  apply thn (ha.run pos pz s0 τ G _ J h)
  rintro us s1 ⟨vs, H1, J1, rv, q⟩
  refine ⟨J1.kIn, ?_⟩
  have hl : us.length = ps.length := (Paired.length rv).symm.trans (F.len _ _ _ _ q)
  have bb := hb s1 us J1.kIn (by rw [List.append_nil]; exact hl)
  rw [List.append_nil] at bb
  apply wpAny_call
  apply codeAny_mono (F.run X.A X.stack s1 H1 ⟨us, []⟩ us vs Q (WE W τ) hr hgd J1.env0 bb rv q)
  intro r s2 hq
  cases r with
  | error e => exact passAt tk τ pz H1 s1 e s2 J1 hq
  | ok fl =>
    cases fl with
    | ret u => exact J1.after hq
    | next => exact hq.elim
    | brk => exact hq.elim
    | cont => exact hq.elim
end
end AX

/-! AX10: x(lambda: body), x a def that calls what it got and tells an error of one class -/
namespace AX
open PySem L2 Evl RZ PyProof.Rows LamX
/-- all but the table at P stays -/
def ButT (P : Addr) (H H1 : Hp) : Prop := (∀ b o, H b = some o → b ≠ P → H1 b = some o) ∧ ∀ b, H b ≠ none → H1 b ≠ none
section
variable {X : Cx} {pins : List (Addr × Obj)} {σ : L2.St} {H : Hp} {s : Shared}
/-- a lambda is made: its code object is new, or stands in the table -/
theorem lam_made {c P : Addr} {params : Arguments} {body : Expr} {scope : Scope} {pos : Pos} {E : Value → Shared → Prop} {Q : Value → Shared → Prop} (J : Inv X pins σ H s) (TB : LamX.TabB X.base X.mg c P) (hcode : X.env.code = .ref c)
    (tab : TabS H P (X.env.qual ++ "<lambda>")) (hdef : defaultsOf params X.env = ([], [])) (hfree : ∀ y ∈ scope.names, y.2 = .free → ∃ c, X.env.cells.lookup y.1 = some c)
    (k : ∀ (f d : Addr) (pm ctv : Value) (G : Hp) (st : Shared), Inv X pins σ G st → ButT P H G → TabS G P (X.env.qual ++ "<lambda>") →
      st.heap.get? f = some (PySem.W.kla_obj "<lambda>" (X.env.qual ++ "<lambda>") params body scope (cloFrom X.env.cells scope.names []) pm d ctv) → G f = none → f ∉ frs X.stack → G d = some (CodeO d (X.env.qual ++ "<lambda>")) → Q (.ref f) st) :
    wpAny (model X.prog X.w) X.A (eval (.Lambda params body scope pos) X.env) Q E s := by
  obtain ⟨ps, tP, tok, among⟩ := id tab
  apply PySem.W.kla_eval hdef
  have bP : s.heap.BuiltinsAt X.mg P := TB.bm.keeps J.bk
  have gP : s.heap.get? P = some { cls := .none, data := .fields ps } := J.hok P _ tP
  have away : ∀ f, s.heap.objs.size ≤ f → f ∉ frs X.stack := by
    intro f hf z
    cases List.mem_cons.mp (J.stkSub _ z) with
    | inl e => have := J.lt; rw [← e] at this; exact Nat.lt_irrefl _ (Nat.lt_of_lt_of_le this hf)
    | inr e => exact J.nofs hf e
  cases hc : codeAmong pos ps.toList with
  | some cv =>
    obtain ⟨d, e, hd⟩ := among pos cv hc
    subst e
    apply PySem.W.kla_makeFunctionHit (mg := X.mg) (c := c) (P := P) (ps := ps) (closure_ok hfree) J.ok.glob (J.mod.glob.keeps J.bk) hcode (TB.code.keeps J.bk) gP tok hc bP
    intro ctv g tk hx hsz
    have J1 : Inv X pins σ H { s with heap := g.push (PySem.W.kla_obj "<lambda>" (X.env.qual ++ "<lambda>") params body scope (cloFrom X.env.cells scope.names []) ((X.mg "__name__").getD .none) d ctv), toks := tk } := J.kept fun b o e => Heap.get?_push_of_some _ (hx b o e)
    exact k g.objs.size d _ ctv H _ J1 ⟨fun _ _ h _ => h, fun _ h => h⟩ tab (Heap.get?_push_size _ rfl) (J.hok.fresh hsz) (away _ hsz) hd
  | none =>
    apply PySem.W.kla_makeFunction (mg := X.mg) (c := c) (P := P) (ps := ps) (closure_ok hfree) J.ok.glob (J.mod.glob.keeps J.bk) hcode (TB.code.keeps J.bk) gP tok hc TB.gP bP
    intro d ctv g tk hx hge hlt hrec htb
    obtain ⟨d2, oc, vs, t, e2, hoc, hdt, hv⟩ := hrec
    cases e2
    have hsz : s.heap.objs.size ≤ g.objs.size := Nat.le_trans hge (Nat.le_of_lt hlt)
    have nd : H d = none := J.hok.fresh hge
    have J1 := inv_table (t' := tk) (more := #[rawInt pos.line, rawInt pos.col, .ref d]) (h' := g.push (PySem.W.kla_obj "<lambda>" (X.env.qual ++ "<lambda>") params body scope (cloFrom X.env.cells scope.names []) ((X.mg "__name__").getD .none) d ctv)) J tP
      (fun b o hb e => Heap.get?_push_of_some _ (hx b o hb e)) (Heap.get?_push_of_some _ htb) hge ⟨oc, vs, t, Heap.get?_push_of_some _ hoc, hdt, hv⟩
    have nP : d ≠ P := fun z => by rw [z, tP] at nd; cases nd
    have but : ButT P H (upd (upd H P (.tbl (ps ++ #[rawInt pos.line, rawInt pos.col, .ref d]))) d (CodeO d (X.env.qual ++ "<lambda>"))) := by
      constructor
      · intro b o e n
        rw [upd_ne (ne_of_none e nd), upd_ne n]
        exact e
      · intro b hb
        by_cases z : b = d
        · rw [z, upd_same]; simp
        · rw [upd_ne z]
          by_cases z2 : b = P
          · rw [z2, upd_same]; simp
          · rw [upd_ne z2]; exact hb
    have el : (ps ++ #[rawInt pos.line, rawInt pos.col, .ref d]).toList = ps.toList ++ [rawInt pos.line, rawInt pos.col, .ref d] := by simp
    refine k g.objs.size d ((X.mg "__name__").getD .none) ctv _ _ J1 but ⟨_, by rw [upd_ne nP.symm, upd_same], by rw [el]; exact PySem.TriplesOk_snoc _ _ _ _ tok, fun p' cv hcv => ?_⟩ (Heap.get?_push_size _ rfl) ?_ (away _ hsz) upd_same
    · rw [el] at hcv
      rcases among_app _ tok hcv with z | z
      · obtain ⟨c0, e1, e2⟩ := among p' cv z
        exact ⟨c0, e1, but.1 _ _ e2 fun w => by rw [w, tP] at e2; unfold CodeO at e2; cases e2⟩
      · exact ⟨d, z, upd_same⟩
    · have n1 : g.objs.size ≠ d := Nat.ne_of_gt hlt
      have n2 : g.objs.size ≠ P := Nat.ne_of_gt (Nat.lt_of_lt_of_le (Heap.lt_size gP) hsz)
      rw [upd_ne n1, upd_ne n2]
      exact J.hok.fresh hsz
end
def tLamP (P : Addr) (q : Str) (TT : (XK → Hp → VK → Prop) → Hp → VK → Prop) (t : XK → TE) : TE := fun σ H Q => TabS H P q ∧ ∀ H1, ButT P H H1 → TabS H1 P q → TT (fun E H' Q' => t E σ H' Q') H1 Q
/-- x(lambda: body) -/
theorem pe_lam {X : Cx} {TT : (XK → Hp → VK → Prop) → Hp → VK → Prop} {x a : Str} {g c P : Addr} {k : Nat} {st : Stmt} {Ng : List Str} {params : Arguments} {body : Expr} {scope : Scope} {t : XK → TE} {p lpos pos : Pos} {q : Str}
    (hq : X.env.qual ++ "<lambda>" = q) (D : Def X.K X.mg x st g [a]) (Sg : FnScope Ng [a] (defScope st)) (hNg : Ng[0]? = some a) (hva : Vis (defScope st) a)
    (hG : ∀ cdv, GivesTo X Ng x (defScope st) g cdv (defBody st) a (X.env.qual ++ "<lambda>") TT)
    (TB : LamX.TabB X.base X.mg c P) (hcode : X.env.code = .ref c) (hr : Room (k + 2) X.A) (hg : Gl X x) (L : LamS X.env.scope scope) (hdef : defaultsOf params X.env = ([], []))
    (hbind : ∀ (q : Str) (cl : List (Str × Addr)) (pm cv ctv : Value), bindArgs (PySem.W.kla_fn "<lambda>" q params body scope cl pm cv ctv) ⟨[], []⟩ = pure [])
    (hbody : ∀ (A : Around) (outer : List Env) (s : Shared) (H : Hp) (E : XK) (f c' : Addr), Room k (A.deeper (lamEnv X scope s.heap.objs.size f c')) → PE (lamCx X A outer s H E scope f c') body (t E))
    (hdb : (x == ("__debug__" : Str)) = false := by decide) (hd : (a == ("__debug__" : Str)) = false := by decide) (hcd : (a == ("__classdict__" : Str)) = false := by decide) :
    PE X (.Call (.Name x p) [.Lambda params body scope lpos] [] pos) (tLamP P q TT t) := by
  subst hq
  obtain ⟨fd, ⟨⟨oc, od, kV, doc, pm, an, cdv, ct, osl, rfl, lk, hcd0⟩, _⟩, hb⟩ := D.ex
  constructor
  intro pz s0 τ G Q J ⟨hT, h⟩
  apply wpAny_Call_Name_kw
  apply ld_glob J hg D.gl _ hdb
  refine PySem.W.callWith_K (h₀ := X.base) J.ok.mod.kin D.kp ?_ (by rfl) (by rfl)
  show wpAny _ _ (spliced ((false, eval (.Lambda params body scope lpos) X.env) :: backTo pos (starEach [] X.env))) _ _ s0
  apply Calls.spliced_cons
  apply lam_made J TB hcode hT hdef (L.has J.ok)
  intro f d pm' ctv H1 s1 J1 but T1 hf hfn hfr hco
  refine Calls.spliced_nil ⟨J1.kIn, ?_⟩
  have rc : codeAny (model X.prog X.w) X.A (.call (.ref g) ⟨[.ref f], []⟩) (CR C8.CX0 X.stack X.prog X.w H1 s1 Q C8.E0) s1 := by
    refine run_ofS (N := Ng) (ps := [a]) (us := [.ref f]) (vs := [.ref f]) lk hcd0 Sg hr J1.env0 (hb s1 [.ref f] J1.kIn rfl) (.cons rfl .nil) rfl fun hr' => ?_
    obtain ⟨t', ht', hq'⟩ := hG cdv f d s1 H1 Q (fun E H' Q' => t E τ H' Q') (fun W pn xe E p1 p2 tk hW => pe_act (i := 0) J1 L hf hfn hfr (hbind _ _ _ _ _) tk hW hr' (fun A outer s H hr2 => hbody A outer s H E f d hr2) hNg hva hd hcd) hco (h H1 but T1)
    exact ⟨t', ht'.nox, hq'⟩
  apply wpAny_call
  apply codeAny_mono rc
  intro r s2 hq
  cases r with
  | error e => exact (show False from hq).elim
  | ok fl =>
    cases fl with
    | ret u => exact J1.after hq
    | next => exact hq.elim
    | brk => exact hq.elim
    | cont => exact hq.elim
/-- try: return (word, a()) / except x: return (ret,) -/
def TTup (K : PySem.W.Frag) (CS : Addr) (word ret : Str) : (XK → Hp → VK → Prop) → Hp → VK → Prop := fun tl H Q =>
  tl (fun cls _ H' => ∃ b, PySem.W.exmOne K cls (.ref CS) = some b ∧ (b = true → ∀ p, H' p = none → Q (.ref p) (upd H' p (.tup [.str ret]))) ∧ (b = false → False)) H fun v H' => [V.str word, v].length ≤ sizeLine ∧ ∀ p, H' p = none → Q (.ref p) (upd H' p (.tup [.str word, v]))
theorem tup_gives {X : Cx} {Ng : List Str} {x a e q word ret : Str} {sg : Scope} {g CS : Addr} {cdg : Value} {j j2 n1 n2 : Nat} {p1 p2 p3 p4 p5 p6 p7 p8 p9 p10 p11 : Pos} (hge : sg.names.lookup e = some .globalImplicit) (hme : X.mg e = some (.ref CS)) (hde : (e == ("__debug__" : Str)) = false) (h0 : ∀ f : Addr, (L2.start Ng [V.ref f])[0]? = some (some (V.ref f))) :
    GivesTo X Ng x sg g cdg [.Try [.Return (some (.Tuple [.Constant (.str word) j2 p9, .Call (.Name a p1) [] [] p2] n1 p10)) p3] [.ExceptHandler (some (.Name e p4)) none [.Return (some (.Tuple [.Constant (.str ret) j p5] n2 p11)) p6] p7] [] [] p8] a q (TTup X.K CS word ret) := by
  intro f d s0 G Q tl act hc h
  have hgl : Gl (cxOf C8.CX0 X.prog X.w X.K X.mg X.base Ng x sg g cdg X.A X.stack s0 G C8.E0).nox e := hge
  refine ⟨_, pss_one (ps_try_only (X := (cxOf C8.CX0 X.prog X.w X.K X.mg X.base Ng x sg g cdg X.A X.stack s0 G C8.E0).nox) (c := .ref CS)
      (tb := fun W D σ H => ∃ Ech : XK, (∀ cls d σ' H', Ech cls d H' → W cls d σ' H') ∧ σ[0]? = some (some (.ref f)) ∧ H d = some (CodeO d q) ∧ tl Ech H fun v H1 => [V.str word, v].length ≤ sizeLine ∧ ∀ p, H1 p = none → D.rt (.ref p) (upd H1 p (.tup [.str word, v])))
      rfl rfl ⟨hgl, hde, .inl hme⟩ LamX.takes0 (fun W pn xe tk _ => ?_) (fun a oe cls d pn _ _ => pss_one (ps_ret (pe_tup (pa_cons pe_str pa_nil))))), ?_⟩
  · constructor
    intro pz s1 τ H1 D J ⟨Ech, hW, h1, h2, h3⟩
    have hp := act W pn xe Ech p1 p2 tk hW
    have hq := pss_one (ps_ret (pos := p3) (pe_tup (pos := p10) (x1 := n1) (pa_cons (pe_str (x := word) (j := j2) (pos := p9)) (pa_cons hp pa_nil))))
    exact hq.run pz s1 τ H1 D J ⟨h1, h2, h3⟩
  · exact ⟨fun cls _ H' => ∃ b, PySem.W.exmOne X.K cls (.ref CS) = some b ∧ (b = true → ∀ p, H' p = none → Q (.ref p) (upd H' p (.tup [.str ret]))) ∧ (b = false → False),
      fun cls d σ' H' ⟨b, e1, e2, e3⟩ => ⟨b, e1, fun hb a _ => ⟨by show 1 ≤ sizeLine; decide, e2 hb⟩, fun hb => e3 hb⟩, h0 f, hc, h⟩
section
variable {K : PySem.W.Frag} {mg : Str → Option Value} {W : WX} {B H B1 H1 B2 H2 : Hp} {σ : L2.St} {ss s1 s2 : AS} {m : Nat}
def isTab (P : Addr) (q : Str) : Option Sv → Bool
  | some (.tab P' q') => decide (P' = P) && decide (q' = q)
  | _ => false
theorem isTab_eq {P : Addr} {q : Str} : ∀ {s : Option Sv}, isTab P q s = true → s = some (.tab P q)
  | some (.tab P' q'), h => by
    obtain ⟨h1, h2⟩ := Bool.and_eq_true_iff.mp h
    rw [of_decide_eq_true h1, of_decide_eq_true h2]
  | some .un, h => nomatch h
  | some (.d _), h => nomatch h
  | some (.own _), h => nomatch h
  | some (.fn _), h => nomatch h
  | none, h => nomatch h
def eHeard (i : Nat) (P : Addr) (q c word ret : Str) (rb : AS → R PyData) : AS → R PyData := fun ss => if isTab P q ss[i]? then (match rb ss with
  | .ok d s2 => .ok (.tuple [.str word, d]) s2
  | .ex c' s2 => if c' = c then .ok (.tuple [.str ret]) s2 else .no
  | .no => .no) else .no
theorem Rep.tabAt {i : Nat} {q : Str} {P : Addr} (R : Rep K B H σ ss) (h : ss[i]? = some (.tab P q)) : σ[i]? = some (some (.ref P)) ∧ LamX.TabS H P q ∧ B P = none := by
  obtain ⟨o, ho⟩ := get_of_len R h
  obtain ⟨e, q1, q2⟩ := R.sv i _ o h ho
  subst e
  exact ⟨ho, q1, q2⟩
theorem Rep.tabbed {i : Nat} {q : Str} {P : Addr} (R : Rep K B H σ ss) (h : ss[i]? = some (.tab P q)) (but : ButT P H H1) (t : TabS H1 P q) : Go 0 B H σ ss B H1 σ ss ∧ Rep K B H1 σ ss := by
  obtain ⟨hP, ⟨ps0, u1, _⟩, hb⟩ := R.tabAt h
  refine ⟨⟨Ex.refl _, fun a o e n => but.1 a o e fun c => n ⟨i, _, h, rfl, by rw [c]; exact hP⟩, but.2, fun a q _ _ => q, fun _ q => .inl q, fun _ _ => rfl⟩,
    ⟨fun a o e => but.1 a o (R.ex a o e) (fun c => by rw [c, hb] at e; cases e), R.len, fun j s o e1 e2 => ?_, R.dj⟩⟩
  have z := R.sv j s o e1 e2
  have off : isO s = true → j ≠ i → ∀ {p : Addr}, o = some (.ref p) → p ≠ P := fun os ne {p} eo c => by
    subst c; subst eo
    exact ne (R.dj j i _ s _ e1 h os rfl e2 hP)
  cases s with
  | un => trivial
  | d x => exact z
  | fn f => exact z
  | own xs =>
    obtain ⟨p, vs, e, q1, q2, q3⟩ := z
    have ne : j ≠ i := fun c => by rw [c, h] at e1; cases e1
    exact ⟨p, vs, e, but.1 _ _ q1 (off rfl ne e), q2, q3⟩
  | tab P2 q2 =>
    by_cases c : j = i
    · subst c
      rw [h] at e1; cases e1
      exact ⟨z.1, t, hb⟩
    · obtain ⟨e, ⟨ps, t1, t2, t3⟩, q3⟩ := z
      refine ⟨e, ⟨ps, but.1 _ _ t1 (off rfl c e), t2, fun pos cv hcv => ?_⟩, q3⟩
      obtain ⟨d, c1, c2⟩ := t3 pos cv hcv
      refine ⟨d, c1, but.1 _ _ c2 fun w => ?_⟩
      rw [w, u1] at c2
      unfold CodeO at c2
      cases c2
theorem er_heard {i : Nat} {q c word ret : Str} {P CS : Addr} {t : XK → TE} {rb : AS → R PyData} (hc : mg c = some (.ref CS)) (hm : PySem.W.exmOne K (.ref CS) (.ref CS) = some true)
    (hb : ∀ E : XK, EvR K mg (fun u d _ H => E u d H) (t E) rb) : EvR K mg W (tLamP P q (TTup K CS word ret) t) (eHeard i P q c word ret rb) := fun σ B H ss Q R k => by
  unfold eHeard at k
  split at k
  · rename_i ht
    have e := isTab_eq ht
    obtain ⟨hσ, tS, _⟩ := R.tabAt e
    refine ⟨tS, fun H1 but t1 => ?_⟩
    obtain ⟨g1, R1⟩ := R.tabbed e but t1
    refine hb _ σ B H1 ss _ R1 ?_
    cases r : rb ss with
    | no => rw [r] at k; exact k
    | ok d s2 =>
      rw [r] at k
      intro v B2 H2 g2 R2 dv
      refine ⟨by show 2 ≤ sizeLine; decide, fun p hp => ?_⟩
      have gn := Gn.new (o := .tup [.str word, v]) R2.ex hp
      exact k (.ref p) _ _ ((g1.trans g2).trans gn.go) (R2.gn gn) (.tup (st_of upd_same) (.cons (.str word) (.cons (dp_mono gn.b dv) .nil)))
    | ex c' s2 =>
      rw [r] at k
      dsimp only at k
      split at k
      · rename_i ec
        subst ec
        intro u B2 H2 hu g2 R2
        have eu : u = .ref CS := Option.some.inj (hu.symm.trans hc)
        subst eu
        refine ⟨true, hm, fun _ p hp => ?_, fun q => nomatch q⟩
        have gn := Gn.new (o := .tup [.str ret]) R2.ex hp
        exact k (.ref p) _ _ ((g1.trans g2).trans gn.go) (R2.gn gn) (.tup (st_of upd_same) (.cons (.str ret) .nil))
      · exact k.elim
  · exact k.elim
end
end AX

/-! AX11: what the top's Hook tells, in AX's words; the law's own def, with a slot for its table; the end -/
namespace AX
open PySem PySem.Spec L2 Evl RZ PyProof.Rows
/-! ### from the Hook -/
section
variable {K : PySem.W.Frag} {h : Heap} {mg : Str → Option Value}
theorem Fun.of_D {x qual : Str} {st : Stmt} {f : Addr} {fd : FuncData} (F : FunD K x qual (defArgs st) (defBody st) (defScope st) [] [] f fd) : Fun K x qual st f fd := by
  obtain ⟨⟨o1, o2, dv, kv, o3, o4, o5, o6, o7, o8, q1, q2, q3, dz, _⟩, kp⟩ := F
  have e : dv = .none := by
    rcases dz with ⟨_, e⟩ | ⟨n, _⟩
    · exact e
    · exact (n rfl).elim
  subst e
  exact ⟨⟨o1, o2, kv, o3, o4, o5, o6, o7, o8, q1, q2, q3⟩, kp⟩
theorem def_of {fa : List He.Fa} {fn : List He.DefD} (X : K.In h) (G : h.Ns mainGlobals mg) (c : He.SaysD fa fn K) {x : Str} {st : Stmt} {ps : List Str} (hfn : ∃ i : Nat, fn[i]? = some (⟨(x, none), x, x, defArgs st, defBody st, defScope st, [], []⟩ : He.DefD)) (hfa : He.Fa.glo x ∈ fa)
    (hb : ∀ (kv dc pm : Value) (an : Option Addr) (cd ct : Value) (us : List Value), us.length = ps.length → bindArgs (PySem.W.fnOf x x (defArgs st) (defBody st) (defScope st) .none kv dc pm an cd ct) ⟨us, []⟩ = pure (ps.zip us)) : Def K mg x st (He.ga K x) ps := by
  obtain ⟨i, hi⟩ := hfn
  obtain ⟨fd, F⟩ := c.def_ i hi
  have F2 := Fun.of_D F
  exact ⟨⟨fd, F2, F2.binds hb⟩, He.glo_ok X G (c.facts hfa), F2.kp⟩
theorem err_of {fa : List He.Fa} {fn : List He.DefD} (X : K.In h) (G : h.Ns mainGlobals mg) (c : He.SaysD fa fn K) {x : Str} (h1 : He.Fa.glo x ∈ fa) (h2 : He.Fa.exc x ∈ fa) : Err K mg x (He.ga K x) [.type "ValueError", .type "Exception", .type "BaseException", .type "object"] "ValueError.__new__" := by
  obtain ⟨a1, a2, a3, a4⟩ := He.exc_ok (c.facts h2)
  exact ⟨He.glo_ok X G (c.facts h1), a2, a1, a3, a4⟩
end
/-! ### a slot that no name sees -/
theorem Inv.ghost {X : Cx} {pins : List (Addr × Obj)} {σ : L2.St} {H : Hp} {s : Shared} {i : Nat} {v : V} (J : Inv X pins σ H s) (hv : ∀ x, X.N[i]? = some x → ¬ Vis X.env.scope x) : Inv X pins (σ.set i (some v)) H s := by
  obtain ⟨m, hm, hl⟩ := J.loc
  refine ⟨J.ok, J.os, J.bare, J.base, ⟨m, hm, fun j x u e1 e2 e3 => ?_⟩, J.cell, J.free, J.freeC, J.pin, J.hok, by rw [List.length_set]; exact J.len⟩
  by_cases c : j = i
  · subst c
    exact absurd e3 (hv x e1)
  · rw [List.getElem?_set_ne (fun z => c z.symm)] at e2
    exact hl j x u e1 e2 e3
/-- the law's def, run where nothing is shown, its ghost slot filled -/
def LawRun (P : Program) (w : World) (K : PySem.W.Frag) (mg : Str → Option Value) (base : Heap) (k : Nat) (f : Addr) (fd : FuncData) (x : Str) (g : Nat) (tab : Addr) (N : List Str) (tt : TS → Prop) : Prop :=
  ∀ (Z : Around) (stk : List Env) (s0 : Shared) (G : Hp) (us : List Value) (a : Addr) (Q : VK), Room k Z → Z.guards = some [] → Env0 P w K mg base Z stk s0 G → BindsTo s0 fd ⟨us, []⟩ ([x].zip us) → Vals [V.ref a] us →
    (∀ t, tt t → t { nx := fun _ G' => Q .non G', rt := Q } ((L2.start N [.ref a]).set g (some (.ref tab))) G) → codeAny (model P w) Z (.call (.ref f) ⟨us, []⟩) (CR (L2.CX P w) stk P w G s0 Q (fun _ _ _ => False)) s0
section
variable {P : Program} {w : World} {K : PySem.W.Frag} {mg : Str → Option Value} {base : Heap}
theorem law_run {x qual : Str} {st : Stmt} {f tab : Addr} {fd : FuncData} {N : List Str} {k g : Nat} {at_ : Str × Option Str} {tt : TS → Prop} (F : Fun K x qual st f fd) (hf : f = He.fAd K at_) (S : FnScope N ["script"] (defScope st)) (hv : ∀ y, N[g]? = some y → ¬ Vis (defScope st) y)
    (hbody : ∀ (Z : Around) (stk : List Env) (s0 : Shared) (G : Hp), Room k (Z.deeper (envOfC qual (defScope st) s0.heap.objs.size f (.ref (He.codeOf K at_)))) → Z.guards = some [] →
      ∃ t, PSs (cxOf (L2.CX P w) P w K mg base N qual (defScope st) f (.ref (He.codeOf K at_)) Z stk s0 G (fun _ _ _ => False)) (defBody st) t ∧ tt t) : LawRun P w K mg base (k + 1) f fd "script" g tab N tt := by
  obtain ⟨o1, o2, kv, o3, o4, o5, cd0, o7, o8, rfl, lk, hco⟩ := F.ex
  intro Z stk s0 G us a Q hr hgd e0 hb rv hq
  obtain ⟨cc, ecc⟩ := He.codeIn_ref hco
  subst ecc
  have ecd : He.codeOf K at_ = cc := He.codeOf_eq (by rw [← hf]; exact lk) rfl
  rw [ecd] at hbody
  have kin : K.In s0.heap := e0.mod.kin.keeps fun b o e => (e0.bs b o e).1
  have lim : s0.heap.NoLimit := e0.mod.nolimit.keeps fun b o e => (e0.bs b o e).1
  have kinds : ∀ y ∈ (["script"] : List Str).zip us, (defScope st).names.lookup y.1 = some .local ∨ ((defScope st).names.lookup y.1 = some .cell ∧ ((cellsFrom (s0.heap.objs.size + 1) (defScope st).names []).lookup y.1).isSome = true) := by
    rintro ⟨n, v⟩ hy
    have hn : n ∈ (["script"] : List Str) := (List.of_mem_zip hy).1
    cases S.par n hn with
    | inl q => exact .inl q
    | inr q => exact .inr ⟨q, PySem.W.cellsFrom_some _ _ _ (.inl q)⟩
  apply codeAny_call_function hr.depth (kin _ _ lk) rfl S.co S.gen rfl (PySem.W.codeRec_of kin hco)
  apply hb
  apply wpAny_newFunctionEnv_cells S.kind kinds
  intro env he s1 xc
  subst he
  constructor
  · exact lim.keeps xc.toInCall.keep
  apply codeAny_func
  obtain ⟨t, ht, h3⟩ := hbody Z stk s0 G (hr.deeper _) hgd
  have J : Inv (cxOf (L2.CX P w) P w K mg base N qual (defScope st) f (.ref cc) Z stk s0 G (fun _ _ _ => False)) [] (L2.start N [.ref a]) G s1 := inv_start S hr.hd e0 rfl rv xc
  have J2 := Inv.ghost (i := g) (v := .ref tab) J hv
  apply wpAny_mono (ht.run [] s1 _ G _ J2 (hq t h3)) _ fun e s' hs => hs
  intro fl s' hs
  cases fl with
  | ret u =>
    obtain ⟨v, σ', H', J', r', q'⟩ := hs
    exact ⟨v, H', J'.os, J'.bare, J'.base, J'.hok, r', q'⟩
  | next =>
    obtain ⟨σ', H', J', q'⟩ := hs
    exact ⟨V.non, H', J'.os, J'.bare, J'.base, J'.hok, rfl, q'⟩
  | brk => exact hs.elim fun _ h => h.elim fun _ h => h.2.elim
  | cont => exact hs.elim fun _ h => h.elim fun _ h => h.2.elim
end
end AX

/-! AX12: the end of a law whose def runs where nothing is shown, with its table of code objects -/
namespace AX
open PySem PySem.Spec L2 Evl RZ PyProof.Rows
theorem un128 {A : Around} {k : Nat} (r : Room k A) : A.units + 128 < cLine := by have := r.un; omega
theorem ghost_ok {N : List Str} {g : Nat} {sc : Scope} {x : Str} (h : N[g]? = some x) (hx : sc.names.lookup x = none) : ∀ y, N[g]? = some y → ¬ Vis sc y := fun y e v => by
  have : x = y := Option.some.inj (h.symm.trans e)
  subst this
  unfold Vis at v
  rw [hx] at v
  rcases v with v | v | v <;> cases v
/-- the table as it stands at the start -/
abbrev noCodes : Obj := { cls := .none, data := .fields #[] }
abbrev scriptO (us : List Value) : Obj := { cls := .type "list", data := .seq us.toArray }
/-- the abstract heap at the start: the table, the script unless the top holds it -/
structure H0Ok (K : PySem.W.Frag) (H : Hp) (T a : Addr) (us : List Value) (ns : List Int) : Prop where
  tb : H T = some (.tbl #[])
  sc : H a = none ∨ (H a = some (.frz (scriptO us) (.lst (ns.map V.int))) ∧ K.lookup a = none)
  no : ∀ b, b ≠ T → b ≠ a → H b = none
section
variable {P : Program} {w : World} {K : PySem.W.Frag} {mg mb : Str → Option Value} {k g : Nat} {fa a c T : Addr} {fd : FuncData} {x : Str} {N : List Str} {tt : TS → Prop} {s : Shared} {us : List Value} {ns : List Int} {H : Hp}
theorem law_core (KX : K.In s.heap) (hmg : s.heap.Ns mainGlobals mg) (hmb : s.heap.Ns builtinsNs mb) (hboot : ∀ y : Str, y ≠ "__name__" → mb y = bootBuiltins y) (hnl : s.heap.NoLimit) (hgen : s.gens = #[])
    (hT : s.heap.get? T = some noCodes) (nT : K.lookup T = none) (C : PySem.W.CodeHd s.heap c T)
    (hbm : ∃ (bm : Addr) (ob : Obj), mg "__builtins__" = some (.ref bm) ∧ bm ≠ builtinsNs ∧ s.heap.get? bm = some ob ∧ ob.cls = .type "module" ∧ ob.dict = some builtinsNs ∧ ob.data = .plain)
    (ha : s.heap.get? a = some (scriptO us)) (rv : Vals (ns.map V.int) us) (hl : ns.length ≤ sizeLine) (hr : Room k callerA) (H0 : H0Ok K H T a us ns)
    (F : ∀ base : Heap, K.In base → base.Ns mainGlobals mg → LamX.TabB base mg c T → LawRun P w K mg base k fa fd x g T N tt) (hbind : ∀ (z : Shared) (u : Value), BindsTo z fd ⟨[u], []⟩ [(x, u)])
    (hq : ∀ t, tt t → t { nx := fun _ _ => V.non = .bl true, rt := fun v _ => v = .bl true } ((L2.start N [.ref a]).set g (some (.ref T))) H) :
    codeAny (model P w) callerA (.call (.ref fa) ⟨[.ref a], []⟩) (fun r z => r = .ok (.ret (.bool true)) ∧ OldK s.heap z.heap ∧ z.os = s.os ∧ AllBare z.gens) s := by
  have aT : a ≠ T := fun e => by
    rw [e, hT] at ha
    exact nomatch (show Data.fields #[] = Data.seq us.toArray _ from congrArg Obj.data (Option.some.inj ha))
  have hok : HOk P w H s.heap := fun b u e => by
    by_cases e1 : b = T
    · subst e1
      rw [H0.tb] at e
      cases e
      exact hT
    · by_cases e2 : b = a
      · subst e2
        rcases H0.sc with q | ⟨q, _⟩
        · rw [q] at e; cases e
        · rw [q] at e
          cases e
          exact ⟨ha, by rw [List.length_map]; exact hl, us, _, rv, ha⟩
      · rw [H0.no b e1 e2] at e; cases e
  have hid : ∀ {b : Addr} {o : Obj}, s.heap.get? b = some o → (∀ vs n, o.data ≠ .seq vs n) → o.data ≠ .fields #[] → H b = none := fun {b o} e h1 h2 => by
    by_cases e1 : b = T
    · subst e1; rw [hT] at e; cases e; exact (h2 rfl).elim
    · by_cases e2 : b = a
      · subst e2; rw [ha] at e; cases e; exact (h1 _ _ rfl).elim
      · exact H0.no b e1 e2
  have nsd : ∀ {b : Addr} {m : Str → Option Value}, s.heap.Ns b m → (hidT s.heap H).Ns b m := fun {b m} ⟨o, es, ep, e, d, r⟩ =>
    ⟨o, es, ep, hidT_get e (hid e (fun vs n z => by rw [d] at z; cases z) fun z => by rw [d] at z; cases z), d, r⟩
  have kb : K.In (hidT s.heap H) := fun b o e => hidT_get (KX b o e) (by
    by_cases e1 : b = T
    · subst e1; rw [nT] at e; cases e
    · by_cases e2 : b = a
      · subst e2
        rcases H0.sc with q | ⟨_, q⟩
        · exact q
        · rw [q] at e; cases e
      · exact H0.no b e1 e2)
  have md : L2.Mod K mg (hidT s.heap H) := ⟨kb, nsd hmg, ⟨mb, nsd hmb, hboot⟩, let ⟨mc, z1, z2⟩ := hnl; ⟨mc, nsd z1, z2⟩⟩
  have gT : mainGlobals ≠ T := fun z => by
    obtain ⟨o, es, ep, e, d, _⟩ := hmg
    rw [z, hT] at e
    cases e
    cases d
  have tb : LamX.TabB (hidT s.heap H) mg c T := by
    refine ⟨?_, ?_, gT⟩
    · obtain ⟨o, q0, q1, q2, q3, q4, q5, q6, q7, e1, r1, r2, r3, rest⟩ := C
      refine ⟨o, q0, q1, q2, q3, q4, q5, q6, q7, hidT_get e1 (hid e1 (fun vs n z => ?_) fun z => ?_), r1, r2, r3, rest⟩
      · rw [r2] at z; cases z
      · rw [r2] at z; cases z; simp at r3
    · obtain ⟨bm, ob, b1, b2, b3, b4, b5, b6⟩ := hbm
      refine ⟨bm, ob, b1, b2, fun z => ?_, fun z => ?_, hidT_get b3 (hid b3 (fun vs n z => ?_) fun z => ?_), b4, b5, b6⟩
      · obtain ⟨o, es, ep, e, d, _⟩ := hmg
        rw [z, e] at b3; cases b3; rw [d] at b6; cases b6
      · rw [z, hT] at b3; cases b3; cases b6
      · rw [b6] at z; cases z
      · rw [b6] at z; cases z
  have e0 : Env0 P w K mg (hidT s.heap H) callerA [] s H := ⟨rfl, md, fun _ _ e => of_hidT e, Nat.le_of_eq (hidT_size _ _), trivial, fun _ z => (nomatch z), hok, .of_eq hgen⟩
  have run := F _ kb (nsd hmg) tb callerA [] s H [.ref a] a (fun v _ => v = .bl true) hr rfl e0 (hbind s (.ref a)) (.cons rfl .nil) hq
  refine codeAny_mono run fun r z hz => ?_
  cases r with
  | error e =>
    obtain ⟨_, _, _, _, _, _, _, _, _, _, _, _, no⟩ := (show L2.CX P w [] H s (fun _ _ _ => False) e z from hz)
    exact no.elim
  | ok fl =>
    cases fl with
    | next => exact hz.elim
    | brk => exact hz.elim
    | cont => exact hz.elim
    | ret u =>
      obtain ⟨v, H2, q1, q2, un, ok2, q3, q4⟩ := hz
      have q4 : v = .bl true := q4
      subst q4
      obtain rfl : u = Value.bool true := q3
      obtain ⟨more, hm⟩ := un.tbls T #[] H0.tb
      have hm2 : z.heap.get? T = some { cls := .none, data := .fields (#[] ++ more) } := ok2 T _ hm
      have stay : ∀ b o, b ≠ T → s.heap.get? b = some o → z.heap.get? b = some o := fun b o nb e => by
        cases qb : H b with
        | none => exact un.keep b o e qb (fun y => nomatch y) fun y => nomatch y
        | some t =>
          by_cases e2 : b = a
          · subst e2
            rcases H0.sc with y | ⟨y, _⟩
            · rw [y] at qb; cases qb
            · have y2 := ok2 b _ (un.frzs b _ _ y)
              rw [ha] at e; cases e
              exact y2.1
          · rw [H0.no b nb e2] at qb; cases qb
      refine ⟨rfl, ⟨fun b o e => ?_, fun b o e => ?_⟩, q1, q2⟩
      · by_cases e1 : b = T
        · subst e1
          rw [hT] at e; cases e
          exact .inr (.inl ⟨(C.tab hT).isCodeTable, rfl, #[], more, rfl, by rw [hm2]⟩)
        · exact .inl (stay b o e1 e)
      · by_cases e1 : b = T
        · subst e1; exact ⟨_, hm2⟩
        · exact ⟨o, stay b o e1 e⟩
end
/-- the script as data, in the part that never changes -/
def onlyAt (a : Addr) (H : Hp) : Hp := fun b => if b = a then H b else none
theorem onlyAt_same {a : Addr} {H : Hp} : onlyAt a H a = H a := if_pos rfl
theorem onlyAt_ne {a b : Addr} {H : Hp} (h : b ≠ a) : onlyAt a H b = none := if_neg h
theorem onlyAt_ex {a : Addr} {H : Hp} : Ex (onlyAt a H) H := fun b o e => by
  by_cases c : b = a
  · subst c; rw [onlyAt_same] at e; exact e
  · rw [onlyAt_ne c] at e; cases e
theorem script_dp {K : PySem.W.Frag} {H : Hp} {T a : Addr} {us : List Value} {ns : List Int} (H0 : H0Ok K H T a us ns) (hl : ns.length ≤ sizeLine) (rv : Vals (ns.map V.int) us) (aT : a ≠ T) (hK : H a = none → K.lookup a = some (scriptO us)) :
    ∃ B : Hp, Ex B H ∧ B T = none ∧ Dp K B (.ref a) (.list (ns.map PyData.int)) := by
  have da : ∀ (B : Hp) (l : List Int), DpAll K B (l.map V.int) (l.map PyData.int) := fun B l => by
    induction l with
    | nil => exact .nil
    | cons i r ih => exact .cons (.int i) ih
  refine ⟨onlyAt a H, onlyAt_ex, onlyAt_ne (fun z => aT z.symm), ?_⟩
  rcases H0.sc with q | ⟨q, _⟩
  · exact .lst (.inr ⟨_, us.toArray, _, hK q, rfl, rfl, rfl, by rw [List.size_toArray, ← rv.length, List.length_map]; exact hl, by simpa using rv⟩) (da _ _)
  · exact .lst (.inl (.inr ⟨scriptO us, onlyAt_same.trans q⟩)) (da _ _)
/-- the law's slots at the start: the script, n names, the table -/
def lawSs (n : Nat) (T : Addr) (q : Str) (ns : List Int) : AS := Sv.d (.list (ns.map PyData.int)) :: (List.replicate n Sv.un ++ [Sv.tab T q])
def lawSt (n : Nat) (T a : Addr) : L2.St := some (V.ref a) :: (List.replicate n none ++ [some (V.ref T)])
theorem lawSt_eq {N : List Str} {n : Nat} {T a : Addr} (h : N.length = n + 2) : (L2.start N [.ref a]).set (n + 1) (some (.ref T)) = lawSt n T a := by
  unfold L2.start lawSt
  rw [h]
  show (some (V.ref a) :: List.replicate (n + 1) none).set (n + 1) _ = _
  rw [List.set_cons_succ, List.replicate_succ', List.set_append_right _ _ (by simp)]
  simp
theorem law_rep {K : PySem.W.Frag} {B H : Hp} {n : Nat} {T a : Addr} {q : Str} {ns : List Int} (hx : Ex B H) (hB : B T = none) (hT : H T = some (.tbl #[])) (hd : Dp K B (.ref a) (.list (ns.map PyData.int))) : Rep K B H (lawSt n T a) (lawSs n T q ns) := by
  have at_ : ∀ (i : Nat) (s : Sv) (o : Option V), (lawSs n T q ns)[i]? = some s → (lawSt n T a)[i]? = some o → (i = 0 ∧ s = .d (.list (ns.map PyData.int)) ∧ o = some (.ref a)) ∨ s = .un ∨ (i = n + 1 ∧ s = .tab T q ∧ o = some (.ref T)) := fun i s o e1 e2 => by
    unfold lawSs at e1
    unfold lawSt at e2
    cases i with
    | zero => cases e1; cases e2; exact .inl ⟨rfl, rfl, rfl⟩
    | succ j =>
      rw [List.getElem?_cons_succ] at e1 e2
      rcases Nat.lt_or_ge j n with l | l
      · rw [List.getElem?_append_left (by simpa using l), List.getElem?_replicate, if_pos l] at e1
        cases e1
        exact .inr (.inl rfl)
      · rw [List.getElem?_append_right (by simpa using l), List.length_replicate] at e1 e2
        cases hj : j - n with
        | zero =>
          rw [hj] at e1 e2
          cases e1; cases e2
          exact .inr (.inr ⟨by omega, rfl, rfl⟩)
        | succ m => rw [hj] at e1; cases e1
  refine ⟨hx, by simp [lawSs, lawSt], fun i s o e1 e2 => ?_, fun i j p s t e1 e2 o1 o2 e3 e4 => ?_⟩
  · rcases at_ i s o e1 e2 with ⟨_, z, y⟩ | z | ⟨_, z, y⟩
    · subst z; subst y; exact ⟨_, rfl, hd⟩
    · subst z; trivial
    · subst z; subst y; exact ⟨rfl, LamX.TabS.nil hT, hB⟩
  · rcases at_ i s _ e1 e3 with ⟨_, z, _⟩ | z | ⟨z1, z, _⟩
    · subst z; cases o1
    · subst z; cases o1
    · rcases at_ j t _ e2 e4 with ⟨_, y, _⟩ | y | ⟨y1, y, _⟩
      · subst y; cases o2
      · subst y; cases o2
      · exact z1.trans y1.symm
/-- what is to be known of a law: its def's body, as AX tells it, answers True -/
def LawIs (prog : Program) (w : World) (K : PySem.W.Frag) (h : Heap) (mg : Str → Option Value) (fa : Addr) (k most : Nat) : Prop :=
  ∃ (fd : FuncData) (c T : Addr) (n : Nat) (N : List Str) (q : Str) (body : AS → Fl), h.get? T = some noCodes ∧ K.lookup T = none ∧ PySem.W.CodeHd h c T ∧ (∀ (z : Shared) (u : Value), BindsTo z fd ⟨[u], []⟩ [("script", u)]) ∧ N.length = n + 2 ∧
    (∀ base : Heap, K.In base → base.Ns mainGlobals mg → LamX.TabB base mg c T → LawRun prog w K mg base k fa fd "script" (n + 1) T N fun t => EvS K mg (fun _ _ _ _ => False) 0 t body) ∧
    ∀ ns : List Int, ns.length ≤ most → (∀ z ∈ ns, Builtin.Int.intBits z ≤ 1048576) → ∃ s2, body (lawSs n T q ns) = .rt (.bool true) s2
theorem law_walk {l : PySem.W.OpenLaw} {n k : Nat} {q : Program} {loose : List Str} {XP : (Str → Option Value) → Heap → Prop} {YP : World → Heap → Prop} {d : DefRec} (hn : l.most = some n) (hn2 : n ≤ sizeLine) (hdf : d.params.defaults = []) (hr : Room k callerA)
    (F : ∀ (w : World) (mg : Str → Option Value) (fa : Addr) (h : Heap), YP w h → h.Ns mainGlobals mg → mg d.name = some (.ref fa) → ∃ K : PySem.W.Frag, K.In h ∧ LawIs l.prog w K h mg fa k n) :
    PySem.W.WalkO q loose XP YP l.row.toRowW d [] (fun f vs => PySem.call f vs) := by
  refine Att.attach_callB hn hdf fun w s0 s mg mb fa _ _ _ _ a us ns Gd Y _ _ _ hmg hobj hints hlen hbits hgen => ?_
  obtain ⟨K, KX, fd, c, T, m, N, qn, body, hT, nT, C, hb, hN, hrun, hpl⟩ := F w mg fa _ Y Gd.T.g hmg
  have rv : Vals (ns.map V.int) us := vals_ints hints
  have hl : ns.length ≤ sizeLine := Nat.le_trans hlen hn2
  have aT : a ≠ T := fun e => by
    rw [e, hT] at hobj
    exact nomatch (show Data.fields #[] = Data.seq us.toArray _ from congrArg Obj.data (Option.some.inj hobj))
  have go : ∀ H : Hp, H0Ok K H T a us ns → (H a = none → K.lookup a = some (scriptO us)) → _ := fun H H0 hK =>
    law_core (a := a) (us := us) (ns := ns) (H := H) KX Gd.T.g Gd.T.b Gd.T.builtins Gd.T.nolimit hgen hT nT C Gd.T.bmain hobj rv hl hr H0 hrun hb fun t ht => by
      rw [lawSt_eq hN]
      obtain ⟨B, hx, hB, hd⟩ := script_dp H0 hl rv aT hK
      obtain ⟨s2, e⟩ := hpl ns hlen hbits
      refine ht _ B H (lawSs m T qn ns) _ (law_rep hx hB H0.tb hd) ?_
      rw [e]
      intro v σ2 B2 H2 _ _ dv
      cases dv
      rfl
  cases hk : K.lookup a with
  | some o =>
    have e := KX a o hk
    have eo : o = scriptO us := Option.some.inj (e.symm.trans hobj)
    subst eo
    refine go (fun b => if b = T then some (.tbl #[]) else none) ⟨if_pos rfl, .inl (if_neg aT), fun b h1 _ => if_neg h1⟩ fun _ => hk
  | none =>
    refine go (fun b => if b = T then some (.tbl #[]) else if b = a then some (.frz (scriptO us) (.lst (ns.map V.int))) else none) ⟨if_pos rfl, .inr ⟨(if_neg aT).trans (if_pos rfl), hk⟩, fun b h1 h2 => (if_neg h1).trans (if_neg h2)⟩ fun z => ?_
    have z2 := ((if_neg aT).trans (if_pos rfl)).symm.trans z
    cases z2
end AX

/-! AX13: places by names -/
namespace AX
open PySem PySem.Spec L2 Evl RZ PyProof.Rows
/-- where the names of the text stand; the table of the law's code objects -/
def faK (K : PySem.W.Frag) : Str → Addr := fun x => if x = "%tab" then (He.cT K ("law", none)).2 else He.ga K x
theorem faK_ne {K : PySem.W.Frag} {x : Str} (h : x ≠ "%tab") : faK K x = He.ga K x := if_neg h
theorem faK_tab {K : PySem.W.Frag} : faK K "%tab" = (He.cT K ("law", none)).2 := if_pos rfl
section
variable {K : PySem.W.Frag} {h : Heap} {mg : Str → Option Value} {fa : List He.Fa} {fn : List He.DefD}
theorem def_at (X : K.In h) (G : h.Ns mainGlobals mg) (c : He.SaysD fa fn K) {x : Str} {st : Stmt} {ps : List Str} (i j : Nat) (hx : x ≠ "%tab") (hfn : fn[i]? = some (⟨(x, none), x, x, defArgs st, defBody st, defScope st, [], []⟩ : He.DefD)) (hfa : fa[j]? = some (.glo x))
    (hb : ∀ (kv dc pm : Value) (an : Option Addr) (cd ct : Value) (us : List Value), us.length = ps.length → bindArgs (PySem.W.fnOf x x (defArgs st) (defBody st) (defScope st) .none kv dc pm an cd ct) ⟨us, []⟩ = pure (ps.zip us)) : Def K mg x st (faK K x) ps := by
  rw [faK_ne hx]
  exact def_of X G c ⟨i, hfn⟩ (List.mem_of_getElem? hfa) hb
theorem err_at (X : K.In h) (G : h.Ns mainGlobals mg) (c : He.SaysD fa fn K) {x : Str} (i j : Nat) (h1 : fa[i]? = some (.glo x)) (h2 : fa[j]? = some (.exc x)) : Err K mg x (He.ga K x) [.type "ValueError", .type "Exception", .type "BaseException", .type "object"] "ValueError.__new__" :=
  err_of X G c (List.mem_of_getElem? h1) (List.mem_of_getElem? h2)
theorem free_at (X : K.In h) (G : h.Ns mainGlobals mg) (c : He.SaysD fa fn K) {x : Str} (i : Nat) (h1 : fa[i]? = some (.free x)) : mg x = none := He.free_ok X G (c.facts (List.mem_of_getElem? h1))
theorem exm_at (c : He.SaysD fa fn K) {x y : Str} {b : Bool} (i : Nat) (h1 : fa[i]? = some (.exm x y b)) : PySem.W.exmOne K (.ref (He.ga K x)) (.ref (He.ga K y)) = some b := He.exm_ok (c.facts (List.mem_of_getElem? h1))
/-- the law's own def and its table -/
theorem law_at {ts : List He.Tab} {ex : PySem.W.Frag → Bool} {w : World} {prog : Program} {f : Addr} {lv n most : Nat} {N : List Str} {q : Str} {st : Stmt} {body : AS → Fl} (X : K.In h) (G : h.Ns mainGlobals mg) (hmg : mg ("law" : Str) = some (.ref f)) (c : He.SaysX fa fn ts [("law", none)] ex w h K) (i j : Nat)
    (hfn : fn[i]? = some (⟨("law", none), "law", "law", defArgs st, defBody st, defScope st, [], []⟩ : He.DefD)) (hfa : fa[j]? = some (.glo "law"))
    (hb : ∀ (kv dc pm : Value) (an : Option Addr) (cd ct : Value) (us : List Value), us.length = (["script"] : List Str).length → bindArgs (PySem.W.fnOf "law" "law" (defArgs st) (defBody st) (defScope st) .none kv dc pm an cd ct) ⟨us, []⟩ = pure ((["script"] : List Str).zip us))
    (hN : N.length = n + 2) (run : ∀ (fd : FuncData) (base : Heap), K.In base → base.Ns mainGlobals mg → Fun K "law" "law" st (He.fAd K ("law", none)) fd → LamX.TabB base mg (He.codeOf K ("law", none)) (faK K "%tab") →
      LawRun prog w K mg base lv (He.fAd K ("law", none)) fd "script" (n + 1) (faK K "%tab") N fun t => EvS K mg (fun _ _ _ _ => False) 0 t body)
    (plain : ∀ ns : List Int, ns.length ≤ most → (∀ z ∈ ns, Builtin.Int.intBits z ≤ 1048576) → ∃ s2, body (lawSs n (faK K "%tab") q ns) = .rt (.bool true) s2) : LawIs prog w K h mg f lv most := by
  obtain ⟨fd, F⟩ := c.t.d.def_ i hfn
  have e := hmg.symm.trans (He.glo_ok X G (c.t.d.facts (List.mem_of_getElem? hfa)))
  cases e
  have hm : (("law", none) : He.Defn) ∈ [(("law", none) : He.Defn)] := List.mem_cons_self
  have T1 := c.empty _ hm
  have T2 := c.out _ hm
  have T3 := PySem.W.codeHd_of_K X (c.hd _ hm)
  rw [← faK_tab] at T1 T2 T3
  have b := FunD.bindsA (ps := ["script"]) F hb
  exact ⟨fd, _, _, n, N, q, body, T1, T2, T3, fun z u => b z [u] rfl, hN, fun base h1 h2 h3 => run fd base h1 h2 (Fun.of_D F) h3, plain⟩
end
end AX

/-! AX14: defs that hand back a new list, told as new -/
namespace AX
open PySem PySem.Spec L2 Evl RZ PyProof.Rows
section
variable {K : PySem.W.Frag} {mg : Str → Option Value} {W : WX} {B H B1 H1 B2 H2 : Hp} {σ : L2.St} {ss s1 s2 : AS} {m : Nat}
def spN (K : PySem.W.Frag) (mg : Str → Option Value) (n : Nat) (g : AS → R (List PyData)) : Sp := fun vs H Q E => ∃ (B : Hp) (css : AS), vs.length = n ∧ css.length = n ∧ Rep K B H (vs.map some) css ∧
  Gets K mg (fun u d _ H => E u d H) (vs.map some) B H css (NewL K (vs.map some) H) (g css) Q
def eCallN (n : Nat) (g : AS → R (List PyData)) (ra : AS → R (List Ag)) : AS → R (List PyData) := fun ss => (ra ss).bind fun gs s1 => if gs.length = n ∧ (lks gs).Nodup then (match g (gs.map (agSv s1)) with
  | .ok d c2 => if c2.length = n then .ok d (wb gs c2 s1) else .no
  | .ex c c2 => if c2.length = n then .ex c (wb gs c2 s1) else .no
  | .no => .no) else .no
theorem wb_own {gs : List Ag} {c2 : AS} {i : Nat} {s : Sv} (hc : c2.length = gs.length) (nd : (lks gs).Nodup) (e : (wb gs c2 s1)[i]? = some s) (es : isO s = true) : ∃ t, s1[i]? = some t ∧ isO t = true := by
  rw [wb_get gs c2 s1 hc nd] at e
  cases q : findLk gs i with
  | none => rw [q] at e; exact ⟨s, e, es⟩
  | some j =>
    rw [q] at e
    dsimp only at e
    split at e
    · rename_i c
      cases q2 : s1[i]? with
      | none => rw [q2] at c; cases c
      | some t => rw [q2] at c; exact ⟨t, rfl, c⟩
    · exact ⟨s, e, es⟩
theorem en_call {n : Nat} {g : AS → R (List PyData)} {ta : TA} {ra : AS → R (List Ag)} (ha : EvA K mg W ta ra) : EvN K mg W (tCallS (spN K mg n g) (WE W) ta) (eCallN n g ra) := fun σ B H ss Q R k =>
  ha σ B H ss _ R (gets_bind k fun gs s1 vs B1 H1 _ g1 R1 P h1 => by
    by_cases c : gs.length = n ∧ (lks gs).Nodup
    · rw [if_pos c] at h1
      obtain ⟨RC, _⟩ := callee_rep R1 P c.2
      refine ⟨B1, gs.map (agSv s1), (Paired.length P).trans c.1, by rw [List.length_map]; exact c.1, RC, ?_⟩
      cases e : g (gs.map (agSv s1)) with
      | no => rw [e] at h1; exact h1
      | ok d c2 =>
        rw [e] at h1
        by_cases l : c2.length = n
        · simp only [if_pos l] at h1
          rintro v B2 H2 g2 R2 ⟨p, us, rfl, q0, q1, q2, q3, q4⟩
          obtain ⟨g3, R3⟩ := call_back R1 P c.2 (l.trans c.1.symm) g2 R2
          refine h1 (.ref p) B2 H2 g3 R3 ⟨p, us, rfl, go_back g1 q0, q1, q2, q3, fun ⟨i, s, z1, z2, z3⟩ => ?_⟩
          obtain ⟨t, y1, y2⟩ := wb_own (l.trans c.1.symm) c.2 z1 z2
          exact (R1.own_free ⟨i, t, y1, y2, z3⟩).1 q0
        · simp only [if_neg l] at h1; exact h1.elim
      | ex cx c2 =>
        rw [e] at h1
        by_cases l : c2.length = n
        · simp only [if_pos l] at h1
          intro u B2 H2 hu g2 R2
          obtain ⟨g3, R3⟩ := call_back R1 P c.2 (l.trans c.1.symm) g2 R2
          exact h1 u B2 H2 hu g3 R3
        · simp only [if_neg l] at h1; exact h1.elim
    · rw [if_neg c] at h1; exact h1.elim)
/-- def f(n parameters): return [..] -/
def fnN (n len : Nat) (body : AS → R (List PyData)) : AS → R (List PyData) := fun css => if css.length = n then (match body (css ++ List.replicate (len - n) .un) with
  | .ok d s => .ok d (s.take n)
  | .ex c s => .ex c (s.take n)
  | .no => .no) else .no
theorem bodyN_run {vs : List V} {N ps : List Str} {t : TE} {body : AS → R (List PyData)} {Q : VK} {E : XK} (hp : ps.length ≤ N.length) (hb : EvN K mg (fun u d _ H => E u d H) t body)
    (h : spN K mg ps.length (fnN ps.length N.length body) vs H Q E) : t (start N vs) H Q := by
  obtain ⟨B, css, hv, hc, R, g⟩ := h
  have est : start N vs = vs.map some ++ List.replicate (N.length - ps.length) none := by
    unfold L2.start
    rw [hv]
  unfold fnN at g
  rw [if_pos hc] at g
  obtain ⟨R0, os⟩ := def_start (len := N.length - ps.length) R
  rw [est]
  have dr : css.drop ps.length = [] := List.drop_eq_nil_of_le (by omega)
  have fin : ∀ {B2 H2 : Hp} {s2 : AS}, Go 0 B H (vs.map some ++ List.replicate (N.length - ps.length) none) (css ++ List.replicate (N.length - ps.length) .un) B2 H2 (vs.map some ++ List.replicate (N.length - ps.length) none) s2 → Rep K B2 H2 (vs.map some ++ List.replicate (N.length - ps.length) none) s2 →
      Go 0 B H (vs.map some) css B2 H2 (vs.map some) (s2.take ps.length) ∧ Rep K B2 H2 (vs.map some) (s2.take ps.length) := fun {B2 H2 s2} k R2 => by
    have lk : ps.length ≤ s2.length := by rw [R2.len, List.length_append, List.length_map]; omega
    have kk : Go ps.length B H (vs.map some ++ List.replicate (N.length - ps.length) none) (css ++ List.replicate (N.length - ps.length) .un) B2 H2 (vs.map some ++ List.replicate (N.length - ps.length) none) s2 := k.any
    have z := def_end (m := ps.length) (by omega) (by rw [dr]; rfl) R kk R2 lk
    rw [dr, List.append_nil] at z
    exact z
  refine hb _ B H _ _ R0 ?_
  cases e : body (css ++ List.replicate (N.length - ps.length) .un) with
  | ok d s2 =>
    rw [e] at g
    rintro v B2 H2 k R2 ⟨p, us, rfl, q0, q1, q2, q3, q4⟩
    obtain ⟨g3, R3⟩ := fin k R2
    refine g (.ref p) B2 H2 g3 R3 ⟨p, us, rfl, q0, q1, q2, q3, fun ⟨i, s, z1, z2, z3⟩ => q4 ⟨i, s, ?_, z2, ?_⟩⟩
    · rw [List.getElem?_take] at z1
      split at z1
      · exact z1
      · cases z1
    · have l : i < (vs.map some).length := by
        rcases Nat.lt_or_ge i (vs.map some).length with l | l
        · exact l
        · rw [List.getElem?_eq_none l] at z3; cases z3
      rw [List.getElem?_append_left l]
      exact z3
  | ex cx s2 =>
    rw [e] at g
    intro u B2 H2 hu k R2
    obtain ⟨g3, R3⟩ := fin k R2
    exact g u B2 H2 hu g3 R3
  | no => rw [e] at g; exact g.elim
theorem spN_len {n : Nat} {g : AS → R (List PyData)} : ∀ (vs : List V) (H : Hp) (Q : VK) (E : XK), spN K mg n g vs H Q E → vs.length = n := fun _ _ _ _ ⟨_, _, h, _⟩ => h
end
structure CalN (P : Program) (w : World) (K : PySem.W.Frag) (mg : Str → Option Value) (base : Heap) (f : Addr) (x : Str) (ps : List Str) (k : Nat) (g : AS → R (List PyData)) : Prop where
  ex : ∃ fd, FnOk P w K mg base (L2.CX P w) k f fd ps (spN K mg ps.length g) ∧ L2.Binds K fd ps []
  gl : mg x = some (.ref f)
  kp : PySem.W.keepIn K (.ref f) = true
theorem calN_ok {P : Program} {w : World} {K : PySem.W.Frag} {mg : Str → Option Value} {base : Heap} {x : Str} {st : Stmt} {f : Addr} {N ps : List Str} {k : Nat} {body : AS → R (List PyData)} {e : Expr} {pos : Pos} (F : Def K mg x st f ps) (S : FnScope N ps (defScope st)) (hp : ps.length ≤ N.length) (hst : defBody st = [.Return (some e) pos])
    (hbody : ∀ (cdv : Value) (A : Around) (outer : List Env) (s : Shared) (H : Hp) (E : XK), Room k (A.deeper (envOfC x (defScope st) s.heap.objs.size f cdv)) →
      ∃ t, PE (cxOf (L2.CX P w) P w K mg base N x (defScope st) f cdv A outer s H E) e t ∧ EvN K mg (fun u d _ H => E u d H) t body) :
    CalN P w K mg base f x ps (k + 1) (fnN ps.length N.length body) := by
  obtain ⟨fd, F1, b⟩ := F.ex
  refine ⟨⟨fd, F1.okX S spN_len fun cdv A outer s H vs Q E hr h => ?_, b⟩, F.gl, F.kp⟩
  obtain ⟨t, h1, h2⟩ := hbody cdv A outer s H E hr
  refine ⟨_, by rw [hst]; exact pss_one (ps_ret h1), bodyN_run hp h2 h⟩
section
variable {X : Cx} {f : Addr} {x : Str} {ps : List Str} {k n : Nat} {g : AS → R (List PyData)} {W : WX} {p pos : Pos} {e : Expr} {es : List Expr} {t : TA}
theorem pe_calN (C : CalN X.prog X.w X.K X.mg X.base f x ps k g) (hr : Room k X.A) (hg : Gl X x) (tk : Takes X W) (ha : PA X (e :: es) t)
    (hn : ps.length = n := by rfl) (hdb : (x == ("__debug__" : Str)) = false := by decide) (he : starEach (e :: es) X.env = (false, eval e X.env) :: starEach es X.env := by rfl) (hpl : (backTo pos (starEach es X.env)).any (·.1) = false := by rfl) :
    PE X (.Call (.Name x p) (e :: es) [] pos) (tCallS (spN X.K X.mg n g) (WE W) t) := by
  subst hn
  obtain ⟨fd, F, b⟩ := C.ex
  exact pe_callS F hr hg C.gl C.kp b (fun σ => passAt tk σ) ha hdb he hpl
end
end AX

/-! AX15: enumerate of a tuple or a list -/
namespace AX
open PySem PySem.Spec L2 Evl RZ PyProof.Rows
set_option maxHeartbeats 4000000 in
theorem meets_enum1 {v : Value} {o : Obj} {P : Heap → Prop} (B : Begins v o P) :
    Meets (Builtin.«enumerate.__new__» ⟨[.type "enumerate", v], []⟩) (fun _ R s => P s.heap ∧
      R (.ok (.ret (.ref (s.heap.push o).objs.size))) { s with heap := (s.heap.push o).push { cls := .type "enumerate", data := .fields #[.none, .bool false, .ref s.heap.objs.size, rawInt 0, .none, .none] } }) :=
  .of_wp fun prog w A R s h => by
    obtain ⟨hp, g, d, tk, os⟩ := s
    obtain ⟨h1, h⟩ := h
    have hsub := sub_enumerate
    have it : ∀ {A' : Around} {E : Value → Shared → Prop} {Q : Value → Shared → Prop}, Q (.ref hp.objs.size) ⟨hp.push o, g, d, tk, os⟩ → wpAny (model prog w) A' (pyIter v) Q E ⟨hp, g, d, tk, os⟩ :=
      fun q => B.iter prog w _ _ ⟨hp, g, d, tk, os⟩ _ h1 q
    wp_walk using it
    refine wpAny_stack_any fun st => wpAny_pure ?_
    split
    · rename_i c _ _ _ _ _
      cases (c == Value.type "enumerate")
      · wp_walk using it
        exact ⟨_, rfl, h⟩
      · wp_walk using it
        exact ⟨_, rfl, h⟩
    · wp_walk using it
      exact ⟨_, rfl, h⟩
section
variable {prog : Program} {w : World} {A : Around} {E : Value → Shared → Prop} {s : Shared}
theorem enum_tuple {t : Addr} {items : Array Value} {Q : Value → Shared → Prop} (ht : s.heap.IsTuple t items)
    (h : ∀ h', IsEnum h' (s.heap.objs.size + 1) s.heap.objs.size 0 .none → h'.IsTupleIter s.heap.objs.size t 0 → h'.objs.size = s.heap.objs.size + 2 → (∀ b o, s.heap.get? b = some o → h'.get? b = some o) → Q (.ref (s.heap.objs.size + 1)) { s with heap := h' }) :
    wpAny (model prog w) A (call (.type "enumerate") [.ref t]) Q E s := by
  refine callType_new F.called_enumerate (by decide) (F.typeCall_enumerate_1 _) (F.newCall_enumerate_1 _) (fun obj => F.args_object_init_2 obj _) F.entry_enumerate_new (meets_enum1 (begins_tuple t items)) ⟨ht, ?_⟩
  have hz : (s.heap.push { cls := .type "tuple_iterator", data := .fields #[.ref t, .int 0 0] }).objs.size = s.heap.objs.size + 1 := Heap.size_push ..
  show _ ∧ _
  rw [hz]
  have he : IsEnum ((s.heap.push { cls := .type "tuple_iterator", data := .fields #[.ref t, .int 0 0] }).push { cls := .type "enumerate", data := .fields #[.none, .bool false, .ref s.heap.objs.size, rawInt 0, .none, .none] }) (s.heap.objs.size + 1) s.heap.objs.size 0 .none := by
    have := Heap.get?_push_size (s.heap.push { cls := .type "tuple_iterator", data := .fields #[.ref t, .int 0 0] }) (o := { cls := .type "enumerate", data := .fields #[.none, .bool false, .ref s.heap.objs.size, rawInt 0, .none, .none] }) rfl
    rw [hz] at this
    exact this
  exact ⟨⟨_, he, rfl⟩, h _ he ⟨_, Heap.get?_push_of_some _ (Heap.get?_push_size _ rfl), rfl, rfl⟩ (by rw [Heap.size_push, hz]) fun b o x => Heap.get?_push_of_some _ (Heap.get?_push_of_some _ x)⟩
end
/-- the pairs (i, item) of the tuple at a -/
def Iet (K : PySem.W.Frag) (a : Addr) : It where
  go := fun i H => ∃ (xs : List V) (x : V), SqT K H a xs ∧ xs[i]? = some x
  yld := fun i H v H' => ∃ T x, v = .ref T ∧ H T = none ∧ H' = upd H T (.tup [.int (i : Nat), x]) ∧ ∀ xs, SqT K H a xs → xs[i]? = some x
  stop := fun i H => ∃ xs : List V, SqT K H a xs ∧ i = xs.length
theorem turn_enumT {P : Program} {w : World} {K : PySem.W.Frag} {elts : List Expr} {kk : Nat} {tpos : Pos} (a e it : Addr) :
    Turn P w K (.Tuple elts kk tpos) (Iet K a) [e, it] e (fun i h => (∃ old, IsEnum h e it ((i : Nat) : Int) old) ∧ h.IsTupleIter it a i ∧ e ≠ it) where
  mem := by simp
  obj := fun i h st b hb => by
    obtain ⟨⟨old, he⟩, ⟨o, ho, hc, hd⟩, _⟩ := st
    have e' : b = e ∨ b = it := by simpa using hb
    rcases e' with z | z
    · rw [z]; exact ⟨_, he, fun v q => nomatch q⟩
    · rw [z]; exact ⟨o, ho, fun v q => by rw [hd] at q; cases q⟩
  keep := fun i h h' st k => let ⟨⟨old, he⟩, hi, hne⟩ := st; ⟨⟨old, k e (by simp) _ he⟩, hi.at fun o q => k it (by simp) o q, hne⟩
  item := by
    intro X hP hw hK hc i pins s σ H E I hf st hg
    subst hP hw hK
    obtain ⟨⟨old, he⟩, hit, hne⟩ := st
    obtain ⟨xs, x, hq, hx⟩ := hg
    obtain ⟨its, rv, p, hz⟩ := I.tuple hq
    obtain ⟨u, hu, ru⟩ := rv.get hx
    have hh : X.A.handled = none := I.ok.hd hc
    have hel : e < s.heap.objs.size := Heap.lt_size he
    have hil : it < s.heap.objs.size := by obtain ⟨_, q, _⟩ := hit; exact Heap.lt_size q
    have nit : a ≠ it := fun q => by
      subst q
      obtain ⟨o, e1, c1, _⟩ := id p
      obtain ⟨o', e', cc, _⟩ := hit
      rw [e1] at e'; cases e'; rw [c1] at cc; exact absurd (Value.type.inj cc) (by decide)
    have nea : e ≠ a := fun q => by
      subst q
      obtain ⟨o, e1, c1, _⟩ := id p
      rw [he] at e1; cases e1
      exact absurd (Value.type.inj c1) (by decide)
    have lt : i < its.toArray.size := by
      rcases Nat.lt_or_ge i its.length with l | l
      · simpa using l
      · rw [List.getElem?_eq_none l] at hu; cases hu
    refine wpAny_pyNext_enum_itemC (Draws.tuple (A := X.A.in1) hh it a nit its.toArray) he ⟨hit, p⟩ lt hne (by simp [hne, nea]) fun x1 h' tk q1 ho g1 hT hsz hk => ?_
    refine ⟨_, rfl, wpAny_letOwnedTupleGo_enum (s := { s with heap := h', toks := tk + 1 }) ho fun h'' he' sb => ?_⟩
    have f1 : x1 = u := Option.some.inj (q1.symm.trans (by simpa using hu))
    subst f1
    have hT2 : h''.get? s.heap.objs.size = some { cls := .type "tuple", data := .seq #[.int i tk, x1] } := (sb.2 _ (Nat.ne_of_gt hel)).trans hT
    have new : ObjOk X.prog X.w (upd H s.heap.objs.size (.tup [.int (i : Nat), x])) h'' s.heap.objs.size (.tup [.int (i : Nat), x]) :=
      ⟨by show 2 ≤ sizeLine; decide, [.int i tk, x1], .cons ⟨_, rfl⟩ (.cons ru .nil), ⟨_, hT2, rfl, _, rfl⟩⟩
    have I1 : Inv X pins σ (upd H s.heap.objs.size (.tup [.int (i : Nat), x])) { s with heap := h'', toks := tk + 1 } :=
      I.turnedNew (t' := tk + 1) (ch := [e, it]) (fun b ob hb q => (sb.2 b (fun z => hb (by simp [z]))).trans (hk b ob (fun z => hb (by simp [z])) (fun z => hb (by simp [z])) q)) hf (Nat.le_refl _) new
    refine ⟨.ref s.heap.objs.size, _, I1, rfl, ⟨_, x, rfl, I.hok.fresh (Nat.le_refl _), rfl, fun ys hy => by rw [I.tuple_inj hy hq]; exact hx⟩, ⟨⟨x1, ?_⟩, g1.1.at fun o q => (sb.2 it (Ne.symm hne)).trans q, hne⟩, fun b hb => ?_⟩
    · have e1 : ((i + 1 : Nat) : Int) = (i : Int) + 1 := by omega
      rw [e1]; exact he'
    · have hb' : b < s.heap.objs.size := by
        have e' : b = e ∨ b = it := by simpa using hb
        rcases e' with z | z
        · rw [z]; exact hel
        · rw [z]; exact hil
      rw [upd_ne (Nat.ne_of_lt hb')]
      exact (hf b hb).1
  done := by
    intro X hP hw hK hc i pins s σ H E I hf st hg
    subst hP hw hK
    obtain ⟨⟨old, he⟩, hit, hne⟩ := st
    obtain ⟨xs, hq, hx⟩ := hg
    obtain ⟨its, rv, p, hz⟩ := I.tuple hq
    have hh : X.A.handled = none := I.ok.hd hc
    have nit : a ≠ it := fun q => by
      subst q
      obtain ⟨o, e1, c1, _⟩ := id p
      obtain ⟨o', e', cc, _⟩ := hit
      rw [e1] at e'; cases e'; rw [c1] at cc; exact absurd (Value.type.inj cc) (by decide)
    have l1 : i = its.toArray.size := by rw [List.size_toArray, hx]; exact rv.length
    obtain ⟨f0, f1, f2, f3, f4, f5⟩ := hf it (by simp)
    exact wpAny_pyNext_enum_endD (Draws.tuple (A := X.A.in1) hh it a nit its.toArray) he (by rw [← l1]; exact ⟨hit, p⟩) fun h' eb => ⟨rfl, I.turned (t' := s.toks) (fun b o hb q => eb b o hb q) f0 f1 f3 f4 f5⟩
  self := fun A i s Q E st h => let ⟨⟨_, he⟩, _⟩ := st; wpAny_pyIter_enum he h
def iEnumA (K : PySem.W.Frag) (ta : TA) : TI := fun σ H R => ta σ H fun vs H1 => ∃ a xs, vs = [.ref a] ∧ ((SqL K H1 a xs ∧ R (Ite K a) H1) ∨ (SqT K H1 a xs ∧ R (Iet K a) H1))
theorem pi_enumA {X : Cx} {e : Expr} {ta : TA} {p pos tpos : Pos} {elts : List Expr} {kk : Nat} (hg : Gl X "enumerate") (hm : X.mg "enumerate" = none) (ha : PA X [e] ta) (hs : starEach [e] X.env = [(false, eval e X.env)] := by rfl) :
    PI X (.Tuple elts kk tpos) (.Call (.Name "enumerate" p) [e] [] pos) (iEnumA X.K ta) := by
  constructor
  intro pz s0 τ G Rw J0 hw
  refine Call_ ?_
  apply ld_blt J0 hg hm boot_enumerate
  apply PyProof.Rows.callWith_type1 _ hs rfl
  apply thn (ha.run pos pz s0 τ G _ J0 hw)
  rintro us s1 ⟨vs, H1, I1, r1, a, xs, ev, q⟩
  subst ev
  cases r1 with
  | cons r rr =>
    cases rr
    cases r
    have fpo : ∀ b ∈ [s1.heap.objs.size + 1, s1.heap.objs.size], s1.heap.objs.size ≤ b := fun b hb => by
      have e' : b = s1.heap.objs.size + 1 ∨ b = s1.heap.objs.size := by simpa using hb
      rcases e' with z | z
      · rw [z]; exact Nat.le_add_right _ _
      · rw [z]; exact Nat.le_refl _
    rcases q with ⟨hq, q⟩ | ⟨hq, q⟩
    · obtain ⟨its, rv, p', hz⟩ := I1.list hq
      apply call_enumerate_list p'.isList
      intro h' he hit hsz hk
      apply wpAny_pyIter_enum he
      have I2 : Inv X pz τ H1 { s1 with heap := h' } := I1.kept (t' := s1.toks) hk
      exact ⟨s1.heap.objs.size + 1, [s1.heap.objs.size + 1, s1.heap.objs.size], _, _, H1, rfl, I2, turn_enum a (s1.heap.objs.size + 1) s1.heap.objs.size, ⟨⟨.none, he⟩, hit, Nat.succ_ne_self _⟩, fun b hb => I1.fpOk (fpo b hb) (I1.hok.fresh (fpo b hb)), q⟩
    · obtain ⟨its, rv, p', hz⟩ := I1.tuple hq
      apply enum_tuple p'
      intro h' he hit hsz hk
      apply wpAny_pyIter_enum he
      have I2 : Inv X pz τ H1 { s1 with heap := h' } := I1.kept (t' := s1.toks) hk
      exact ⟨s1.heap.objs.size + 1, [s1.heap.objs.size + 1, s1.heap.objs.size], _, _, H1, rfl, I2, turn_enumT a (s1.heap.objs.size + 1) s1.heap.objs.size, ⟨⟨.none, he⟩, hit, Nat.succ_ne_self _⟩, fun b hb => I1.fpOk (fpo b hb) (I1.hok.fresh (fpo b hb)), q⟩
section
variable {K : PySem.W.Frag} {mg : Str → Option Value} {W : WX} {B H B1 H1 : Hp} {σ : L2.St} {ss s1 : AS}
theorem walks_et {a : Addr} {vs : List V} {ds : List PyData} (h1 : SqT K B a vs) (d1 : DpAll K B vs ds) : Walks K B (Iet K a) (enumD ds) := fun B' H' e1 e2 i => by
  have k1 := ex_t (e1.trans e2) h1
  refine ⟨fun hi => ⟨vs, k1, by rw [dpa_len d1]; simpa [enumD, rngD] using hi.symm⟩, fun d e => ?_⟩
  obtain ⟨x, ex, rfl⟩ := enum_get e
  obtain ⟨v, hv, dv⟩ := dpa_get d1 ex
  refine ⟨⟨vs, v, k1, hv⟩, fun z H2 yl => ?_⟩
  obtain ⟨T, x', rfl, hT, rfl, q1⟩ := yl
  have a1 := (q1 vs k1).symm.trans hv
  cases a1
  obtain ⟨g, q⟩ := pair_gn e2 (Dp.int (i : Nat)) (dp_mono e1 dv) hT
  exact ⟨_, g, q⟩
def iEnA (rl : AS → R (List PyData)) : AS → R (List PyData) := fun ss => (rl ss).bind fun l s => match l with
  | [.list xs] => .ok (enumD xs) s
  | [.tuple xs] => .ok (enumD xs) s
  | _ => .no
theorem ei_enumA {tl : TA} {rl : AS → R (List PyData)} (h : EvL K mg W tl rl) : EvI K mg W (iEnumA K tl) (iEnA rl) := fun σ B H ss Q R g =>
  h σ B H ss _ R (gets_bind g fun l s1 vs B1 H1 _ _ R1 d1 h1 => by
    split at h1
    · obtain ⟨v, rfl, dv⟩ := dpa1 d1
      cases dv with
      | lst sv av => exact ⟨_, _, rfl, .inl ⟨ex_l R1.ex sv, gets_ok R1 h1 _ B1 H1 (Gn.refl R1.ex) (walks_e sv av)⟩⟩
    · obtain ⟨v, rfl, dv⟩ := dpa1 d1
      cases dv with
      | tup sv av => exact ⟨_, _, rfl, .inr ⟨ex_t R1.ex sv, gets_ok R1 h1 _ B1 H1 (Gn.refl R1.ex) (walks_et sv av)⟩⟩
    · exact h1.elim)
end
end AX

/-! AXP: the mirrors evaluated (plain Lean) -/
namespace AX
open PySem L2 Evl RZ PyProof.Rows
section
variable {ss s1 s2 : AS}
theorem eC_ap (d : PyData) : eC d ss = .ok d ss := rfl
theorem eV_ap (i : Nat) : eV i ss = (match ss[i]? with | some (.d x) => .ok x ss | some (.own xs) => .ok (.list xs) (ss.set i (.d (.list xs))) | _ => .no) := rfl
theorem eOp_ap (g : PyData → PyData → Option PyData) (ra rb : AS → R PyData) : eOp g ra rb ss = (ra ss).bind fun a s1 => (rb s1).bind fun b s2 => lift (g a b) s2 := rfl
theorem eUn_ap (g : PyData → Option PyData) (ra : AS → R PyData) : eUn g ra ss = (ra ss).bind fun a s1 => lift (g a) s1 := rfl
theorem bB_ap (r : AS → R PyData) : bB r ss = (r ss).bind fun d s => lift (asB d) s := rfl
theorem bAnd_ap (ra rb : AS → R Bool) : bAnd ra rb ss = (ra ss).bind fun a s1 => if a then rb s1 else .ok false s1 := rfl
theorem bOr_ap (ra rb : AS → R Bool) : bOr ra rb ss = (ra ss).bind fun a s1 => if a then .ok true s1 else rb s1 := rfl
theorem bNot_ap (ra : AS → R Bool) : bNot ra ss = (ra ss).bind fun a s1 => .ok (!a) s1 := rfl
theorem eAnd_ap (ra rb : AS → R PyData) : eAnd ra rb ss = (ra ss).bind fun a s1 => match asB a with | some true => rb s1 | some false => .ok (.bool false) s1 | none => .no := rfl
theorem eOr_ap (ra rb : AS → R PyData) : eOr ra rb ss = (ra ss).bind fun a s1 => match asB a with | some true => .ok (.bool true) s1 | some false => rb s1 | none => .no := rfl
theorem eNot_ap (ra : AS → R PyData) : eNot ra ss = (ra ss).bind fun a s1 => match asB a with | some b => .ok (.bool (!b)) s1 | none => .no := rfl
theorem eIf_ap (rc : AS → R Bool) (ra rb : AS → R PyData) : eIf rc ra rb ss = (rc ss).bind fun c s1 => if c then ra s1 else rb s1 := rfl
theorem eIsN_ap (neg : Bool) (ra : AS → R PyData) : eIsN neg ra ss = (ra ss).bind fun a s1 => .ok (.bool (match a with | .none => !neg | _ => neg)) s1 := rfl
theorem lNil_ap : lNil ss = .ok [] ss := rfl
theorem lCons_ap (ra : AS → R PyData) (rl : AS → R (List PyData)) : lCons ra rl ss = (ra ss).bind fun a s1 => (rl s1).bind fun l s2 => .ok (a :: l) s2 := rfl
theorem eTup_ap (rl : AS → R (List PyData)) : eTup rl ss = (rl ss).bind fun l s1 => if l.length ≤ sizeLine then .ok (.tuple l) s1 else .no := rfl
theorem nLst_ap (rl : AS → R (List PyData)) : nLst rl ss = (rl ss).bind fun l s1 => if l.length ≤ sizeLine then .ok l s1 else .no := rfl
theorem eL_ap (r : AS → R (List PyData)) : eL r ss = (r ss).bind fun l s => .ok (.list l) s := rfl
theorem nCat_ap (ra rb : AS → R (List PyData)) : nCat ra rb ss = (ra ss).bind fun a s1 => (rb s1).bind fun b s2 => if a.length + b.length ≤ sizeLine then .ok (a ++ b) s2 else .no := rfl
theorem qR_ap (r : AS → R PyData) : qR r ss = (r ss).bind fun d s => lift (seqOf d) s := rfl
theorem qN_ap (r : AS → R (List PyData)) : qN r ss = (r ss).bind fun ds s => .ok (true, ds) s := rfl
theorem qV_ap (i : Nat) : qV i ss = (match ss[i]? with | some (.d x) => lift (seqOf x) ss | some (.own xs) => .ok (true, xs) ss | _ => .no) := rfl
theorem eLenQ_ap (r : AS → R (Bool × List PyData)) : eLenQ r ss = (r ss).bind fun q s => .ok (.int q.2.length) s := rfl
theorem eCB_ap (g : List PyData → Option PyData) (rl : AS → R (List PyData)) : eCB g rl ss = (rl ss).bind fun l s => lift (g l) s := rfl
theorem eTupleQ_ap (r : AS → R (Bool × List PyData)) : eTupleQ r ss = (r ss).bind fun q s => .ok (.tuple q.2) s := rfl
theorem nListQ_ap (r : AS → R (Bool × List PyData)) : nListQ r ss = (r ss).bind fun q s => .ok q.2 s := rfl
theorem eAllQ_ap (r : AS → R (Bool × List PyData)) : eAllQ r ss = (r ss).bind fun q s => match q with | (true, ds) => (lift (asBs ds) s).bind fun bs s => .ok (.bool (bs.all id)) s | _ => .no := rfl
theorem eIsi_ap (T : String) (ra : AS → R PyData) : eIsi T ra ss = (ra ss).bind fun d s => lift ((kitB (tyN d) T).map PyData.bool) s := rfl
theorem oNo_ap : oNo ss = .ok none ss := rfl
theorem oSome_ap (ra : AS → R PyData) : oSome ra ss = (ra ss).bind fun d s => match d with | .int i => .ok (some i) s | _ => .no := rfl
theorem eSl_ap (ra : AS → R PyData) (rl rh : AS → R (Option Int)) : eSl ra rl rh ss = (ra ss).bind fun d s1 => (rl s1).bind fun lo s2 => (rh s2).bind fun hi s3 => lift (pySl d lo hi) s3 := rfl
theorem nSl_ap (ra : AS → R PyData) (rl rh : AS → R (Option Int)) : nSl ra rl rh ss = (ra ss).bind fun d s1 => (rl s1).bind fun lo s2 => (rh s2).bind fun hi s3 => match d with | .list xs => .ok (cutD xs lo hi) s3 | _ => .no := rfl
theorem eIdxV_ap (i : Nat) (re : AS → R PyData) : eIdxV i re ss = if hasV ss[i]? then (re ss).bind fun d s1 => lift (idxS s1[i]? d) s1 else .no := rfl
theorem iR_ap (r : AS → R PyData) : iR r ss = (r ss).bind fun d s => lift ((seqOf d).map Prod.snd) s := rfl
theorem iZp_ap (rl : AS → R (List PyData)) : iZp rl ss = (rl ss).bind fun l s => match l with | [.list xs, .list ys] => .ok (zipD xs ys) s | [.tuple xs, .tuple ys] => .ok (zipD xs ys) s | _ => .no := rfl
theorem iZp3_ap (rl : AS → R (List PyData)) : iZp3 rl ss = (rl ss).bind fun l s => match l with | [.tuple xs, .tuple ys, .tuple zs] => .ok (zip3D xs ys zs) s | _ => .no := rfl
theorem iEnA_ap (rl : AS → R (List PyData)) : iEnA rl ss = (rl ss).bind fun l s => match l with | [.list xs] => .ok (enumD xs) s | [.tuple xs] => .ok (enumD xs) s | _ => .no := rfl
theorem nComp_ap (vs : List Nat) (ri : AS → R (List PyData)) (tg : Tg) (rc : AS → R Bool) (re : AS → R PyData) : nComp vs ri tg rc re ss = (ri ss).bind fun ds s => compR vs tg rc re ds [] s := rfl
theorem sNext_ap : sNext ss = .nx ss := rfl
theorem sSeq_ap (a b : AS → Fl) : sSeq a b ss = (a ss).bind b := rfl
theorem sIf_ap (c : AS → R Bool) (a b : AS → Fl) : sIf c a b ss = (c ss).fl fun k s => if k then a s else b s := rfl
theorem sRet_ap (re : AS → R PyData) : sRet re ss = (re ss).fl fun d s => .rt d s := rfl
theorem sDrop_ap (re : AS → R PyData) : sDrop re ss = (re ss).fl fun _ s => .nx s := rfl
theorem sAsg_ap (tg : Tg) (re : AS → R PyData) : sAsg tg re ss = (re ss).fl fun d s => match tg d s with | some s2 => .nx s2 | none => .no := rfl
theorem sSetN_ap (i : Nat) (rn : AS → R (List PyData)) : sSetN i rn ss = (rn ss).fl fun ds s => .nx (s.set i (.own ds)) := rfl
theorem sRaise_ap (c : Str) : sRaise c ss = .ex c ss := rfl
theorem sFor_ap (ri : AS → R (List PyData)) (tg : Tg) (body : AS → Fl) : sFor ri tg body ss = (ri ss).fl fun ds s => forR tg body ds s := rfl
theorem aNil_ap : aNil ss = .ok [] ss := rfl
theorem aDt_ap (ra : AS → R PyData) (rl : AS → R (List Ag)) : aDt ra rl ss = (ra ss).bind fun a s1 => (rl s1).bind fun l s2 => .ok (.dt a :: l) s2 := rfl
theorem aLk_ap (i : Nat) (rl : AS → R (List Ag)) : aLk i rl ss = if hasS ss[i]? then (rl ss).bind fun l s2 => .ok (.lk i :: l) s2 else .no := rfl
theorem aFn_ap (f : Addr) (rl : AS → R (List Ag)) : aFn f rl ss = (rl ss).bind fun l s2 => .ok (.fn f :: l) s2 := rfl
theorem eCall_ap (n : Nat) (g : AS → R PyData) (ra : AS → R (List Ag)) : eCall n g ra ss = (ra ss).bind fun gs s1 => if gs.length = n ∧ (lks gs).Nodup then (match g (gs.map (agSv s1)) with
  | .ok d c2 => if c2.length = n then .ok d (wb gs c2 s1) else .no
  | .ex c c2 => if c2.length = n then .ex c (wb gs c2 s1) else .no
  | .no => .no) else .no := rfl
theorem eCallN_ap (n : Nat) (g : AS → R (List PyData)) (ra : AS → R (List Ag)) : eCallN n g ra ss = (ra ss).bind fun gs s1 => if gs.length = n ∧ (lks gs).Nodup then (match g (gs.map (agSv s1)) with
  | .ok d c2 => if c2.length = n then .ok d (wb gs c2 s1) else .no
  | .ex c c2 => if c2.length = n then .ex c (wb gs c2 s1) else .no
  | .no => .no) else .no := rfl
theorem fb_nx (s : AS) (k : AS → Fl) : (Fl.nx s).bind k = k s := rfl
theorem fb_rt (d : PyData) (s : AS) (k : AS → Fl) : (Fl.rt d s).bind k = .rt d s := rfl
theorem fb_ex (c : Str) (s : AS) (k : AS → Fl) : (Fl.ex c s).bind k = .ex c s := rfl
end
theorem sPut_ap {ss : AS} (i : Nat) (j : Int) (re : AS → R PyData) : sPut i j re ss = (re ss).fl fun d s => match s[i]? with
  | some (.own xs) => (match ixN xs.length j with | some k => .nx (s.set i (.own (xs.set k d))) | none => .no)
  | _ => .no := rfl
theorem sAugP_run {i : Nat} {j a b : Int} {f : Int → Int → Int} {re : AS → R PyData} {ss s : AS} {xs0 xs : List PyData} {k : Nat} (h1 : ss[i]? = some (.own xs0)) (h2 : 0 ≤ j ∧ j < 2 ^ 62) (h3 : atI xs0 j = some (.int a)) (h4 : re ss = .ok (.int b) s) (h5 : s[i]? = some (.own xs)) (h6 : ixN xs.length j = some k) :
    sAugP i j f re ss = .nx (s.set i (.own (xs.set k (.int (f a b))))) := by
  unfold sAugP
  rw [h1]
  dsimp only
  rw [if_pos h2, h3]
  dsimp only
  rw [h4, fl_ok]
  dsimp only
  rw [h5]
  dsimp only
  rw [h6]
theorem ix4_0 : ixN 4 0 = some 0 := rfl
theorem ix4_1 : ixN 4 1 = some 1 := rfl
/-! ### arithmetic -/
theorem pySub_i (i j : Int) : pySub (.int i) (.int j) = some (.int (i - j)) := rfl
theorem pyAdd_i (i j : Int) : pyAdd (.int i) (.int j) = some (.int (i + j)) := rfl
theorem pyMax_i (i j : Int) : pyMax (.int i) (.int j) = some (.int (max i j)) := by
  show some (PyData.int (if j > i then j else i)) = _
  congr 2
  split <;> omega
theorem pyAbs_i (i : Int) : pyAbs (.int i) = some (.int i.natAbs) := by
  show some (PyData.int (if i < 0 then -i else i)) = _
  congr 2
  split <;> omega
theorem pyLe_i (i j : Int) : pyLe (.int i) (.int j) = some (.bool (decide (i ≤ j))) := rfl
theorem pyLt_i (i j : Int) : pyLt (.int i) (.int j) = some (.bool (decide (i < j))) := rfl
theorem pyGt_i (i j : Int) : pyGt (.int i) (.int j) = some (.bool (decide (j < i))) := rfl
theorem pyGe_i (i j : Int) : pyGe (.int i) (.int j) = some (.bool (decide (j ≤ i))) := rfl
theorem pyEq_i (i j : Int) : pyEq (.int i) (.int j) = some (.bool (decide (i = j))) := by
  show some (PyData.bool (PyData.eqv (.int i) (.int j))) = _
  simp only [PyData.eqv]
  rfl
theorem pyNe_i (i j : Int) : pyNe (.int i) (.int j) = some (.bool (!decide (i = j))) := by
  show some (PyData.bool (!PyData.eqv (.int i) (.int j))) = _
  simp only [PyData.eqv]
  rfl
theorem log2_small {n : Nat} {k : Nat} (h : n < 2 ^ k) (hk : 0 < k) : n.log2 < k := by
  by_cases z : n = 0
  · subst z; rw [Nat.log2_zero]; exact hk
  · exact (Nat.log2_lt z).mpr h
theorem pyMul_s {i j : Int} (h1 : i.natAbs < 2 ^ 256) (h2 : j.natAbs < 2 ^ 256) : pyMul (.int i) (.int j) = some (.int (i * j)) := by
  show (if decide _ = true then _ else _) = _
  rw [if_pos (decide_eq_true _)]
  have a := log2_small h1 (by decide)
  have b := log2_small h2 (by decide)
  omega
theorem pyDiv_s {i j : Int} (h0 : 0 < j) (h1 : j.natAbs < 2 ^ 256) : pyDiv (.int i) (.int j) = some (.int (i / j)) := by
  show (if decide _ = true then _ else _) = _
  rw [if_pos (decide_eq_true _)]
  have a := log2_small h1 (by decide)
  exact ⟨h0, by omega⟩
theorem pyMod_s {i j : Int} (h0 : 0 < j) : pyMod (.int i) (.int j) = some (.int (i % j)) := by
  show (if decide _ = true then _ else _) = _
  rw [if_pos (decide_eq_true h0)]
/-! ### places -/
theorem atI_nat {α : Type} {xs : List α} {k : Nat} : atI xs (k : Int) = xs[k]? := by
  unfold atI ixN
  rw [if_pos (by omega)]
  by_cases h : k < xs.length
  · rw [if_pos (by omega)]; simp
  · rw [if_neg (by omega)]; simp [List.getElem?_eq_none (Nat.le_of_not_lt h)]
theorem at_last {α : Type} {xs : List α} {x : α} : atI (xs ++ [x]) (-1) = some x := by
  unfold atI ixN
  rw [if_neg (by omega), if_pos (by simp; omega)]
  have e : ((-1 : Int) + ((xs ++ [x]).length : Nat)).toNat = xs.length := by simp; omega
  rw [e]
  simp
theorem at_m1 {α : Type} {xs : List α} : atI xs (-1) = xs.getLast? := by
  rcases List.eq_nil_or_concat xs with h | ⟨ys, y, h⟩
  · subst h; rfl
  · subst h
    rw [List.concat_eq_append, at_last]
    simp
theorem idx0 {α : Type} {x : α} {r : List α} : atI (x :: r) 0 = some x := by
  have := atI_nat (xs := x :: r) (k := 0)
  simpa using this
theorem idx1 {α : Type} {x y : α} {r : List α} : atI (x :: y :: r) 1 = some y := by
  have := atI_nat (xs := x :: y :: r) (k := 1)
  simpa using this
theorem idx2 {α : Type} {x y z : α} {r : List α} : atI (x :: y :: z :: r) 2 = some z := by
  have := atI_nat (xs := x :: y :: z :: r) (k := 2)
  simpa using this
theorem idx3 {α : Type} {x y z w : α} {r : List α} : atI (x :: y :: z :: w :: r) 3 = some w := by
  have := atI_nat (xs := x :: y :: z :: w :: r) (k := 3)
  simpa using this
theorem pyIdx_l (xs : List PyData) (i : Int) : pyIdx (.list xs) (.int i) = atI xs i := rfl
theorem pyIdx_t (xs : List PyData) (i : Int) : pyIdx (.tuple xs) (.int i) = atI xs i := rfl
/-! ### shapes -/
/-- no dict, texts of real letters, at most n deep -/
def okD (n : Nat) (d : PyData) : Prop := d.canLay0 = true ∧ d.depth ≤ n
theorem canLayAll_of : ∀ {xs : List PyData}, (∀ x ∈ xs, x.canLay0 = true) → PyData.canLayAll0 xs = true
  | [], _ => rfl
  | x :: r, h => by
    simp only [PyData.canLayAll0, h x List.mem_cons_self, canLayAll_of fun y hy => h y (List.mem_cons_of_mem _ hy), Bool.and_self]
theorem depthAll_of {n : Nat} : ∀ {xs : List PyData}, (∀ x ∈ xs, x.depth ≤ n) → PyData.depthAll xs ≤ n
  | [], _ => by simp [PyData.depthAll]
  | x :: r, h => by
    simp only [PyData.depthAll]
    exact Nat.max_le.mpr ⟨h x List.mem_cons_self, depthAll_of fun y hy => h y (List.mem_cons_of_mem _ hy)⟩
theorem okD_list {n : Nat} {xs : List PyData} (h : ∀ x ∈ xs, okD n x) : okD (n + 1) (.list xs) := by
  refine ⟨?_, ?_⟩
  · simp only [PyData.canLay0]; exact canLayAll_of fun x hx => (h x hx).1
  · simp only [PyData.depth]; exact Nat.succ_le_succ (depthAll_of fun x hx => (h x hx).2)
theorem okD_tuple {n : Nat} {xs : List PyData} (h : ∀ x ∈ xs, okD n x) : okD (n + 1) (.tuple xs) := by
  refine ⟨?_, ?_⟩
  · simp only [PyData.canLay0]; exact canLayAll_of fun x hx => (h x hx).1
  · simp only [PyData.depth]; exact Nat.succ_le_succ (depthAll_of fun x hx => (h x hx).2)
theorem okD_int (n : Nat) (i : Int) : okD n (.int i) := ⟨rfl, Nat.zero_le _⟩
theorem okD_bool (n : Nat) (b : Bool) : okD n (.bool b) := ⟨rfl, Nat.zero_le _⟩
theorem okD_none (n : Nat) : okD n .none := ⟨rfl, Nat.zero_le _⟩
theorem okD_mono {n m : Nat} {d : PyData} (h : okD n d) (l : n ≤ m) : okD m d := ⟨h.1, Nat.le_trans h.2 l⟩
theorem okD_shaped {n : Nat} {d : PyData} (h : okD n d) (l : n ≤ 64) : SeqAt.shaped d = true := by
  unfold SeqAt.shaped
  rw [h.1, decide_eq_true (Nat.le_trans h.2 l)]
  rfl
theorem pyEq_ok {n m : Nat} {d e : PyData} (h1 : okD n d) (h2 : okD m e) (l1 : n ≤ 64) (l2 : m ≤ 64) : pyEq d e = some (.bool (PyData.eqv d e)) := by
  unfold pyEq
  rw [okD_shaped h1 l1, okD_shaped h2 l2]
  rfl
theorem pyNe_ok {n m : Nat} {d e : PyData} (h1 : okD n d) (h2 : okD m e) (l1 : n ≤ 64) (l2 : m ≤ 64) : pyNe d e = some (.bool (!PyData.eqv d e)) := by
  unfold pyNe
  rw [okD_shaped h1 l1, okD_shaped h2 l2]
  rfl
/-! ### walks -/
theorem iRng1 {rl : AS → R (List PyData)} {ss s : AS} {j : Int} (h : rl ss = .ok [.int j] s) (h1 : j.natAbs < 2 ^ 61) : iRng rl ss = .ok ((List.range j.toNat).map fun i => .int (i : Nat)) s := by
  unfold iRng
  rw [h, bind_ok]
  dsimp only
  rw [if_pos (by omega)]
  congr 1
  unfold rngD
  apply List.map_congr_left
  intro i _
  congr 1
  omega
theorem iRng2 {rl : AS → R (List PyData)} {ss s : AS} {i j : Int} (h : rl ss = .ok [.int i, .int j] s) (h1 : i.natAbs < 2 ^ 61) (h2 : j.natAbs < 2 ^ 61) : iRng rl ss = .ok ((List.range (j - i).toNat).map fun k => .int (i + (k : Nat))) s := by
  unfold iRng
  rw [h, bind_ok]
  dsimp only
  rw [if_pos (by omega)]
  rfl
theorem cutD_1 (xs : List PyData) : cutD xs (some 1) none = xs.tail := by
  unfold cutD
  have e : HT.sIx xs.length 0 (some 1) = min 1 xs.length := by
    have := HT.sIx_nat xs.length 0 1
    exact this
  rw [e, HT.sIx_none]
  cases xs with
  | nil => rfl
  | cons x r =>
    have : min 1 (x :: r).length = 1 := by rw [List.length_cons]; omega
    rw [this, List.drop_succ_cons, List.drop_zero, List.length_cons, Nat.add_sub_cancel, List.take_length, List.tail_cons]
theorem zip_trim {α β : Type} : ∀ (xs ys : List α) (zs : List β), xs.length = zs.length → (xs ++ ys).zip zs = xs.zip zs
  | [], ys, zs, h => by
    have : zs = [] := List.eq_nil_of_length_eq_zero h.symm
    subst this
    simp
  | x :: xs, ys, [], h => nomatch h
  | x :: xs, ys, z :: zs, h => by
    rw [List.cons_append, List.zip_cons_cons, List.zip_cons_cons, zip_trim xs ys zs (Nat.succ.inj h)]
theorem zip_next {α : Type} (F : Nat → α) (n : Nat) : ((List.range (n + 1)).map F).zip ((List.range (n + 1)).map F).tail = (List.range n).map fun i => (F i, F (i + 1)) := by
  have t : ((List.range (n + 1)).map F).tail = (List.range n).map fun i => F (i + 1) := by
    rw [List.range_succ_eq_map, List.map_cons, List.tail_cons, List.map_map]
    rfl
  rw [t, List.range_succ, List.map_append, zip_trim _ _ _ (by simp), List.zip_map']
/-- a list with its places -/
def idx {α : Type} (k : Nat) : List α → List (Nat × α)
  | [] => []
  | x :: r => (k, x) :: idx (k + 1) r
theorem idx_zip {α β : Type} (f : α → β) : ∀ (l : List α) (k : Nat), ((List.range l.length).map fun i => k + i).zip (l.map f) = (idx k l).map fun p => (p.1, f p.2)
  | [], _ => rfl
  | x :: r, k => by
    rw [List.length_cons, List.range_succ_eq_map, List.map_cons, List.map_cons, List.zip_cons_cons, List.map_map, idx, List.map_cons, ← idx_zip f r (k + 1)]
    congr 2
    apply List.map_congr_left
    intro i _
    show k + (i + 1) = k + 1 + i
    omega
theorem enumD_idx {α : Type} (f : α → PyData) (l : List α) : enumD (l.map f) = (idx 0 l).map fun p => .tuple [.int (p.1 : Nat), f p.2] := by
  unfold enumD rngD
  have e : ((List.range (l.map f).length).map fun i => PyData.int (0 + (i : Nat))) = ((List.range l.length).map fun i => 0 + i).map fun i : Nat => PyData.int i := by
    rw [List.length_map, List.map_map]
    apply List.map_congr_left
    intro i _
    show PyData.int (0 + (i : Int)) = PyData.int ((0 + i : Nat) : Int)
    rw [Nat.zero_add, Int.zero_add]
  rw [e, List.zip_map_left, idx_zip, List.map_map, List.map_map]
  apply List.map_congr_left
  intro p _
  rfl
/-! ### loops -/
/-- a comprehension, item by item -/
theorem compR_map {α : Type} {vs : List Nat} {tg : Tg} {rc : AS → R Bool} {re : AS → R PyData} {ss : AS} (f : α → PyData) (g : α → PyData) (ok : α → Prop)
    (st : ∀ x, ok x → ∃ s1 s2 s3, tg (f x) (wipeA ss vs) = some s1 ∧ rc s1 = .ok true s2 ∧ re s2 = .ok (g x) s3 ∧ rstA ss s3 vs = ss) :
    ∀ (l : List α) (acc : List PyData), (∀ x ∈ l, ok x) → acc.length + l.length ≤ sizeLine → compR vs tg rc re (l.map f) acc ss = .ok (acc ++ l.map g) ss
  | [], acc, _, _ => by simp [compR]
  | x :: r, acc, h, hl => by
    obtain ⟨s1, s2, s3, h1, h2, h3, h4⟩ := st x (h x List.mem_cons_self)
    rw [List.length_cons] at hl
    rw [List.map_cons, compR, h1]
    dsimp only
    rw [h2]
    dsimp only
    rw [h3]
    dsimp only
    rw [if_pos (by omega), h4, compR_map f g ok st r (acc ++ [g x]) (fun y hy => h y (List.mem_cons_of_mem _ hy)) (by rw [List.length_append, List.length_singleton]; omega)]
    simp
/-- with a test -/
theorem compR_filter {α : Type} {vs : List Nat} {tg : Tg} {rc : AS → R Bool} {re : AS → R PyData} {ss : AS} (f : α → PyData) (p : α → Bool) (g : α → PyData) (ok : α → Prop)
    (st : ∀ x, ok x → ∃ s1 s2, tg (f x) (wipeA ss vs) = some s1 ∧ rc s1 = .ok (p x) s2 ∧ (p x = false → rstA ss s2 vs = ss) ∧ (p x = true → ∃ s3, re s2 = .ok (g x) s3 ∧ rstA ss s3 vs = ss)) :
    ∀ (l : List α) (acc : List PyData), (∀ x ∈ l, ok x) → acc.length + l.length ≤ sizeLine → compR vs tg rc re (l.map f) acc ss = .ok (acc ++ (l.filter p).map g) ss
  | [], acc, _, _ => by simp [compR]
  | x :: r, acc, h, hl => by
    obtain ⟨s1, s2, h1, h2, h3, h4⟩ := st x (h x List.mem_cons_self)
    rw [List.length_cons] at hl
    rw [List.map_cons, compR, h1]
    dsimp only
    rw [h2]
    cases hp : p x with
    | false =>
      dsimp only
      rw [h3 hp, compR_filter f p g ok st r acc (fun y hy => h y (List.mem_cons_of_mem _ hy)) (by omega), List.filter_cons_of_neg (by rw [hp]; simp)]
    | true =>
      obtain ⟨s3, q1, q2⟩ := h4 hp
      dsimp only
      rw [q1]
      dsimp only
      rw [if_pos (by omega), q2, compR_filter f p g ok st r (acc ++ [g x]) (fun y hy => h y (List.mem_cons_of_mem _ hy)) (by rw [List.length_append, List.length_singleton]; omega), List.filter_cons_of_pos hp]
      simp
/-- a for that always goes on: the slots after i turns are A i -/
theorem forR_go {α : Type} {tg : Tg} {body : AS → Fl} (f : α → PyData) (A : List α → AS → Prop)
    (st : ∀ x r ss, A (x :: r) ss → ∃ s1 s2, tg (f x) ss = some s1 ∧ (body s1 = .nx s2 ∨ body s1 = .ct s2) ∧ A r s2) :
    ∀ (l : List α) (ss : AS), A l ss → ∃ s2, forR tg body (l.map f) ss = .nx s2 ∧ A [] s2
  | [], ss, h => ⟨ss, rfl, h⟩
  | x :: r, ss, h => by
    obtain ⟨s1, s2, h1, h2, h3⟩ := st x r ss h
    obtain ⟨s4, q1, q2⟩ := forR_go f A st r s2 h3
    refine ⟨s4, ?_, q2⟩
    rw [List.map_cons, forR, h1]
    dsimp only
    rcases h2 with h2 | h2 <;> rw [h2] <;> exact q1
theorem forR_n {tg : Tg} {body : AS → Fl} (f : Nat → PyData) (n : Nat) (A : Nat → AS → Prop)
    (st : ∀ i ss, i < n → A i ss → ∃ s1 s2, tg (f i) ss = some s1 ∧ (body s1 = .nx s2 ∨ body s1 = .ct s2) ∧ A (i + 1) s2) (ss : AS) (h : A 0 ss) : ∃ s2, forR tg body ((List.range n).map f) ss = .nx s2 ∧ A n s2 := by
  obtain ⟨s2, h1, k, e, hk, h2⟩ := forR_go (tg := tg) (body := body) f (fun rest ss => ∃ k, rest = List.range' k (n - k) ∧ k ≤ n ∧ A k ss) (by
    rintro x r ss ⟨k, e1, hk, ha⟩
    have kl : k < n := by
      rcases Nat.lt_or_ge k n with l | l
      · exact l
      · rw [show n - k = 0 by omega] at e1; cases e1
    rw [show n - k = (n - (k + 1)) + 1 by omega, List.range'_succ] at e1
    injection e1 with e1 e2
    subst e1
    obtain ⟨s1, s2, q1, q2, q3⟩ := st x ss kl ha
    exact ⟨s1, s2, q1, q2, x + 1, e2, kl, q3⟩) (List.range n) ss ⟨0, by rw [Nat.sub_zero, List.range_eq_range'], Nat.zero_le _, h⟩
  have : k = n := by
    have q := congrArg List.length e
    rw [List.length_range'] at q
    have q : n - k = 0 := q.symm
    omega
  subst this
  exact ⟨s2, h1, h2⟩
theorem sApp_own {i : Nat} {re : AS → R PyData} {ss s : AS} {d : PyData} {xs : List PyData} (h1 : ss[i]? = some (.own xs)) (h2 : re ss = .ok d s) (h3 : s[i]? = some (.own xs)) (h4 : xs.length < sizeLine) : sApp i re ss = .nx (s.set i (.own (xs ++ [d]))) := by
  unfold sApp
  rw [h1]
  dsimp only
  rw [h2, fl_ok, h3]
  dsimp only
  rw [if_pos h4]
theorem pyDiv_big {i j : Int} (h0 : 0 < j) (h1 : j.natAbs ≤ 10 ^ 12) : pyDiv (.int i) (.int j) = some (.int (i / j)) := pyDiv_s h0 (by omega)
/-- a for that ends early where a test fails -/
theorem forR_all {α : Type} {tg : Tg} {body : AS → Fl} (f : α → PyData) (p : α → Bool) (e : PyData) (ok : α → Prop) (I : AS → Prop)
    (st : ∀ x ss, ok x → I ss → ∃ s1 s2, tg (f x) ss = some s1 ∧ I s2 ∧ body s1 = if p x then .nx s2 else .rt e s2) :
    ∀ (l : List α) (ss : AS), (∀ x ∈ l, ok x) → I ss → ∃ s2, I s2 ∧ forR tg body (l.map f) ss = if l.all p then .nx s2 else .rt e s2
  | [], ss, _, h => ⟨ss, h, rfl⟩
  | x :: r, ss, ho, h => by
    obtain ⟨s1, s2, h1, h2, h3⟩ := st x ss (ho x List.mem_cons_self) h
    rw [List.map_cons, forR, h1]
    dsimp only
    rw [h3, List.all_cons]
    cases p x with
    | false => exact ⟨s2, h2, rfl⟩
    | true =>
      rw [if_pos rfl, Bool.true_and]
      dsimp only
      exact forR_all f p e ok I st r s2 (fun y hy => ho y (List.mem_cons_of_mem _ hy)) h2
end AX

/-! AXQ: what repr shows of small data -/
namespace AX
open PySem L2 Evl RZ PyProof.Rows
abbrev sOk (x : Str) : Bool := PyData.strOk x
theorem sOk_iff {x : Str} : sOk x = true ↔ ∀ c ∈ x.cps.toList, c < 0x110000 := by
  unfold sOk PyData.strOk
  rw [Array.all_eq_true_iff_forall_mem]
  constructor
  · intro h c hc
    simpa using h c (Array.mem_toList_iff.mp hc)
  · intro h c hc
    simpa using h c (Array.mem_toList_iff.mpr hc)
theorem sOk_app {x y : Str} (h1 : sOk x = true) (h2 : sOk y = true) : sOk (x ++ y) = true := by
  rw [sOk_iff] at *
  intro c hc
  have hc : c ∈ (x.cps ++ y.cps).toList := hc
  rw [Array.toList_append, List.mem_append] at hc
  exact hc.elim (h1 c) (h2 c)
theorem sOk_of (s : String) : sOk (Str.ofString s) = true := by
  rw [sOk_iff, Str.ofString_eq_toList]
  intro c hc
  obtain ⟨k, _, e⟩ := List.mem_map.mp (show c ∈ s.toList.map Char.toNat by simpa using hc)
  subst e
  have := k.valid
  rcases this with h | ⟨_, h⟩
  · exact Nat.lt_trans h (by decide)
  · exact h
theorem sOk_from : ∀ (ts : List Str) (k : Nat) (acc : Str), sOk acc = true → (∀ t ∈ ts, sOk t = true) → sOk (textFrom k acc ts) = true
  | [], _, _, h, _ => h
  | t :: ts, k, acc, h, ht => sOk_from ts (k + 1) _ (sOk_app (sOk_app h (sOk_of _)) (ht t List.mem_cons_self)) fun u hu => ht u (List.mem_cons_of_mem _ hu)
theorem sOk_list {ts : List Str} (h : ∀ t ∈ ts, sOk t = true) : sOk (listText ts) = true := sOk_app (sOk_from ts 0 _ (sOk_of _) h) (sOk_of _)
theorem sOk_join : ∀ {ts : List Str}, (∀ t ∈ ts, sOk t = true) → sOk (Str.join ", " ts) = true
  | [], _ => sOk_iff.mpr fun c hc => absurd hc (by simp [Str.join, Str.empty])
  | [x], h => h x List.mem_cons_self
  | x :: y :: r, h => sOk_app (sOk_app (h x List.mem_cons_self) (sOk_of _)) (sOk_join (ts := y :: r) fun u hu => h u (List.mem_cons_of_mem _ hu))
theorem sOk_tuple {ts : List Str} (h : ∀ t ∈ ts, sOk t = true) : sOk (tupleText ts) = true := sOk_app (sOk_app (sOk_of _) (sOk_join h)) (sOk_of _)
mutual
/-- leaves that are shown in short -/
def lvs : PyData → Bool
  | .none => true
  | .bool _ => true
  | .int i => decide (i.natAbs < 10 ^ 12)
  | .str x => sOk x && sOk (reprText x)
  | .list xs => lvsAll xs
  | .tuple xs => lvsAll xs
  | .dict _ => false
def lvsAll : List PyData → Bool
  | [] => true
  | x :: r => lvs x && lvsAll r
end
theorem lvsAll_of : ∀ {xs : List PyData}, (∀ x ∈ xs, lvs x = true) → lvsAll xs = true
  | [], _ => rfl
  | x :: r, h => by
    simp only [lvsAll, h x List.mem_cons_self, lvsAll_of fun y hy => h y (List.mem_cons_of_mem _ hy), Bool.and_self]
mutual
theorem lvs_shown : ∀ d : PyData, lvs d = true → sOk d.shown = true
  | .none, _ => by simp only [PyData.shown]; exact sOk_of _
  | .bool b, _ => by simp only [PyData.shown]; cases b <;> exact sOk_of _
  | .int i, _ => by simp only [PyData.shown]; exact sOk_of _
  | .str x, h => by simp only [PyData.shown]; exact (Bool.and_eq_true_iff.mp h).2
  | .list xs, h => by simp only [PyData.shown]; exact sOk_list (lvsAll_shown xs (by simpa only [lvs] using h))
  | .tuple xs, h => by simp only [PyData.shown]; exact sOk_tuple (lvsAll_shown xs (by simpa only [lvs] using h))
  | .dict _, h => by simp only [lvs] at h; exact nomatch h
theorem lvsAll_shown : ∀ xs : List PyData, lvsAll xs = true → ∀ t ∈ PyData.shownAll xs, sOk t = true
  | [], _, t, ht => by simp only [PyData.shownAll] at ht; exact absurd ht List.not_mem_nil
  | x :: r, h, t, ht => by
    have h' : lvs x = true ∧ lvsAll r = true := by simpa only [lvsAll, Bool.and_eq_true] using h
    simp only [PyData.shownAll] at ht
    rcases List.mem_cons.mp ht with e | e
    · subst e; exact lvs_shown x h'.1
    · exact lvsAll_shown r h'.2 t e
end
theorem log_small {n : Nat} (h : n < 10 ^ 12) : n.log2 < 40 := log2_small (Nat.lt_trans h (by decide)) (by decide)
mutual
theorem lvs_showable : ∀ d : PyData, lvs d = true → d.showable = true
  | .none, _ => by simp only [PyData.showable]
  | .bool b, _ => by simp only [PyData.showable]
  | .int i, h => by
    simp only [PyData.showable]
    have := log_small (of_decide_eq_true (show decide (i.natAbs < 10 ^ 12) = true from h))
    exact decide_eq_true (by omega)
  | .str x, h => by simp only [PyData.showable]
  | .list xs, h => by simp only [PyData.showable]; exact lvsAll_showable xs (by simpa only [lvs] using h)
  | .tuple xs, h => by simp only [PyData.showable]; exact lvsAll_showable xs (by simpa only [lvs] using h)
  | .dict _, h => by simp only [lvs] at h; exact nomatch h
theorem lvsAll_showable : ∀ xs : List PyData, lvsAll xs = true → PyData.showableAll xs = true
  | [], _ => by simp only [PyData.showableAll]
  | x :: r, h => by
    have h' : lvs x = true ∧ lvsAll r = true := by simpa only [lvsAll, Bool.and_eq_true] using h
    simp only [PyData.showableAll, lvs_showable x h'.1, lvsAll_showable r h'.2, Bool.and_self]
end
mutual
theorem lvs_canLay : ∀ d : PyData, lvs d = true → d.canLay0 = true
  | .none, _ => rfl
  | .bool b, _ => rfl
  | .int i, h => rfl
  | .str x, h => by simp only [PyData.canLay0]; exact (Bool.and_eq_true_iff.mp h).1
  | .list xs, h => by simp only [PyData.canLay0]; exact lvsAll_canLay xs (by simpa only [lvs] using h)
  | .tuple xs, h => by simp only [PyData.canLay0]; exact lvsAll_canLay xs (by simpa only [lvs] using h)
  | .dict _, h => by simp only [lvs] at h; exact nomatch h
theorem lvsAll_canLay : ∀ xs : List PyData, lvsAll xs = true → PyData.canLayAll0 xs = true
  | [], _ => rfl
  | x :: r, h => by
    have h' : lvs x = true ∧ lvsAll r = true := by simpa only [lvsAll, Bool.and_eq_true] using h
    simp only [PyData.canLayAll0, lvs_canLay x h'.1, lvsAll_canLay r h'.2, Bool.and_self]
end
mutual
theorem lvs_ints : ∀ d : PyData, lvs d = true → d.intsShort 13 = true
  | .none, _ => by simp only [PyData.intsShort]
  | .bool b, _ => by simp only [PyData.intsShort]
  | .int i, h => by
    simp only [PyData.intsShort]
    exact decide_eq_true (PyData.shown_int_le (of_decide_eq_true (show decide (i.natAbs < 10 ^ 12) = true from h)))
  | .str x, h => by simp only [PyData.intsShort]
  | .list xs, h => by simp only [PyData.intsShort]; exact lvsAll_ints xs (by simpa only [lvs] using h)
  | .tuple xs, h => by simp only [PyData.intsShort]; exact lvsAll_ints xs (by simpa only [lvs] using h)
  | .dict _, h => by simp only [lvs] at h; exact nomatch h
theorem lvsAll_ints : ∀ xs : List PyData, lvsAll xs = true → PyData.intsShortAll 13 xs = true
  | [], _ => by simp only [PyData.intsShortAll]
  | x :: r, h => by
    have h' : lvs x = true ∧ lvsAll r = true := by simpa only [lvsAll, Bool.and_eq_true] using h
    simp only [PyData.intsShortAll, lvs_ints x h'.1, lvsAll_ints r h'.2, Bool.and_self]
end
/-- small data: at most n deep, of weight at most w, its leaves shown in short -/
structure Sml (n w : Nat) (d : PyData) : Prop where
  lv : lvs d = true
  dp : d.depth ≤ n
  wt : d.weight ≤ w
theorem Sml.mono {n w m v : Nat} {d : PyData} (h : Sml n w d) (h1 : n ≤ m) (h2 : w ≤ v) : Sml m v d := ⟨h.lv, Nat.le_trans h.dp h1, Nat.le_trans h.wt h2⟩
theorem Sml.ok {n w : Nat} {d : PyData} (h : Sml n w d) : okD n d := ⟨lvs_canLay d h.lv, h.dp⟩
theorem sml_none : Sml 0 0 .none := ⟨rfl, Nat.le_refl _, by simp [PyData.weight]⟩
theorem sml_bool (b : Bool) : Sml 0 0 (.bool b) := ⟨rfl, Nat.le_refl _, by simp [PyData.weight]⟩
theorem sml_int {i : Int} (h : i.natAbs < 10 ^ 12) : Sml 0 40 (.int i) := by
  refine ⟨decide_eq_true h, Nat.le_refl _, ?_⟩
  simp only [PyData.weight]
  split
  · exact Nat.zero_le _
  · have := log_small h; omega
theorem weightAll_le {w : Nat} : ∀ {xs : List PyData}, (∀ x ∈ xs, x.weight ≤ w) → PyData.weightAll xs ≤ (w + 1) * xs.length
  | [], _ => by simp [PyData.weightAll]
  | x :: r, h => by
    have h1 := h x List.mem_cons_self
    have h2 := weightAll_le (w := w) fun y hy => h y (List.mem_cons_of_mem _ hy)
    simp only [PyData.weightAll, List.length_cons, Nat.mul_succ]
    omega
theorem sml_list {n w : Nat} {xs : List PyData} (h : ∀ x ∈ xs, Sml n w x) : Sml (n + 1) ((w + 1) * xs.length) (.list xs) :=
  ⟨by simp only [lvs]; exact lvsAll_of fun x hx => (h x hx).lv, (okD_list fun x hx => (h x hx).ok).2, by simp only [PyData.weight]; exact weightAll_le fun x hx => (h x hx).wt⟩
theorem sml_tuple {n w : Nat} {xs : List PyData} (h : ∀ x ∈ xs, Sml n w x) : Sml (n + 1) ((w + 1) * xs.length) (.tuple xs) :=
  ⟨by simp only [lvs]; exact lvsAll_of fun x hx => (h x hx).lv, (okD_tuple fun x hx => (h x hx).ok).2, by simp only [PyData.weight]; exact weightAll_le fun x hx => (h x hx).wt⟩
theorem repr_of {n w : Nat} {d : PyData} (h : Sml n w d) (hn : n ≤ 64) (hw : w ≤ 2 ^ 20) : pyRepr d = some (.str d.shown) := by
  unfold pyRepr
  rw [if_pos ⟨lvs_showable d h.lv, PyData.hasDict_of_canLay d (lvs_canLay d h.lv), Nat.le_trans h.dp hn, PyData.shown_fits (B := 13) (by decide) (by decide) (PyData.leavesShort_of_canLay0 13 d (lvs_canLay d h.lv) (lvs_ints d h.lv)) (Nat.le_trans h.wt hw)⟩]
theorem eq_self {n w : Nat} {d : PyData} (h : Sml n w d) (hn : n ≤ 64) : pyEq d d = some (.bool true) := by
  rw [pyEq_ok h.ok h.ok hn hn, SeqAt.eqv_refl d h.ok.1]
theorem eq_shown {n w : Nat} {d : PyData} (h : Sml n w d) : pyEq (.str d.shown) (.str d.shown) = some (.bool true) := by
  have o : okD 0 (.str d.shown) := ⟨by simp only [PyData.canLay0]; exact lvs_shown d h.lv, Nat.le_refl _⟩
  rw [pyEq_ok o o (by decide) (by decide), SeqAt.eqv_refl _ o.1]
end AX

/-! K_k33: the mirrors of the defs and their derivations (printed by gen.py) -/
namespace K_k33
open PySem L2 Evl RZ PyProof.Rows AX
def top (i : Nat) : Stmt := PySem.Challenge.pw_arcshapes_k33_whole_unit_steps_of_lines.main.body.getD i (.Pass ⟨0, 0, 0, 0⟩)
abbrev st_f_law_alike : Stmt := top 24
abbrev N_f_law_alike : List Str := ["found", "due"]
theorem sc_f_law_alike : FnScope N_f_law_alike ["found", "due"] (defScope st_f_law_alike) := ⟨rfl, rfl, rfl, by decide +kernel, rfl, by decide +kernel, by decide +kernel⟩
abbrev st_f_law_are_steps : Stmt := top 30
abbrev N_f_law_are_steps : List Str := ["thing", "one"]
theorem sc_f_law_are_steps : FnScope N_f_law_are_steps ["thing"] (defScope st_f_law_are_steps) := ⟨rfl, rfl, rfl, by decide +kernel, rfl, by decide +kernel, by decide +kernel⟩
abbrev st_f_law_bag : Stmt := top 21
abbrev N_f_law_bag : List Str := ["script", "cell"]
theorem sc_f_law_bag : FnScope N_f_law_bag ["script"] (defScope st_f_law_bag) := ⟨rfl, rfl, rfl, by decide +kernel, rfl, by decide +kernel, by decide +kernel⟩
abbrev st_f_law_fits : Stmt := top 31
abbrev N_f_law_fits : List Str := ["begin", "end", "thing", "many", "told", "i", "spot", "mine", "a", "b"]
theorem sc_f_law_fits : FnScope N_f_law_fits ["begin", "end", "thing"] (defScope st_f_law_fits) := ⟨rfl, rfl, rfl, by decide +kernel, rfl, by decide +kernel, by decide +kernel⟩
abbrev st_f_law_heard : Stmt := top 28
abbrev N_f_law_heard : List Str := ["act"]
theorem sc_f_law_heard : FnScope N_f_law_heard ["act"] (defScope st_f_law_heard) := ⟨rfl, rfl, rfl, by decide +kernel, rfl, by decide +kernel, by decide +kernel⟩
abbrev st_f_law_is_int : Stmt := top 25
abbrev N_f_law_is_int : List Str := ["thing"]
theorem sc_f_law_is_int : FnScope N_f_law_is_int ["thing"] (defScope st_f_law_is_int) := ⟨rfl, rfl, rfl, by decide +kernel, rfl, by decide +kernel, by decide +kernel⟩
abbrev st_f_law_is_spot : Stmt := top 29
abbrev N_f_law_is_spot : List Str := ["thing"]
theorem sc_f_law_is_spot : FnScope N_f_law_is_spot ["thing"] (defScope st_f_law_is_spot) := ⟨rfl, rfl, rfl, by decide +kernel, rfl, by decide +kernel, by decide +kernel⟩
abbrev st_f_law_line_steps : Stmt := top 26
abbrev N_f_law_line_steps : List Str := ["begin", "end", "many", "found", "i", "p", "q", "a", "b"]
theorem sc_f_law_line_steps : FnScope N_f_law_line_steps ["begin", "end"] (defScope st_f_law_line_steps) := ⟨rfl, rfl, rfl, by decide +kernel, rfl, by decide +kernel, by decide +kernel⟩
abbrev st_f_law_some : Stmt := top 23
abbrev N_f_law_some : List Str := ["bag", "things"]
theorem sc_f_law_some : FnScope N_f_law_some ["bag", "things"] (defScope st_f_law_some) := ⟨rfl, rfl, rfl, by decide +kernel, rfl, by decide +kernel, by decide +kernel⟩
abbrev st_f_law_spots : Stmt := top 27
abbrev N_f_law_spots : List Str := ["begin", "steps", "found", "x", "y"]
theorem sc_f_law_spots : FnScope N_f_law_spots ["begin", "steps"] (defScope st_f_law_spots) := ⟨rfl, rfl, rfl, by decide +kernel, rfl, by decide +kernel, by decide +kernel⟩
abbrev st_f_law_take : Stmt := top 22
abbrev N_f_law_take : List Str := ["bag", "many", "cell", "stirred", "value", "begin", "second"]
theorem sc_f_law_take : FnScope N_f_law_take ["bag", "many"] (defScope st_f_law_take) := ⟨rfl, rfl, rfl, by decide +kernel, rfl, by decide +kernel, by decide +kernel⟩
abbrev st_f_check_spots : Stmt := top 12
abbrev N_f_check_spots : List Str := ["begin", "end"]
theorem sc_f_check_spots : FnScope N_f_check_spots ["begin", "end"] (defScope st_f_check_spots) := ⟨rfl, rfl, rfl, by decide +kernel, rfl, by decide +kernel, by decide +kernel⟩
abbrev st_f_is_line_steps : Stmt := top 19
abbrev N_f_is_line_steps : List Str := ["begin", "end", "thing", "found", "at", "spot"]
theorem sc_f_is_line_steps : FnScope N_f_is_line_steps ["begin", "end", "thing"] (defScope st_f_is_line_steps) := ⟨rfl, rfl, rfl, by decide +kernel, rfl, by decide +kernel, by decide +kernel⟩
abbrev st_f_is_near : Stmt := top 18
abbrev N_f_is_near : List Str := ["begin", "end", "at", "spot", "many", "off", "mine", "one", "other"]
theorem sc_f_is_near : FnScope N_f_is_near ["begin", "end", "at", "spot"] (defScope st_f_is_near) := ⟨rfl, rfl, rfl, by decide +kernel, rfl, by decide +kernel, by decide +kernel⟩
abbrev st_f_is_number : Stmt := top 5
abbrev N_f_is_number : List Str := ["thing"]
theorem sc_f_is_number : FnScope N_f_is_number ["thing"] (defScope st_f_is_number) := ⟨rfl, rfl, rfl, by decide +kernel, rfl, by decide +kernel, by decide +kernel⟩
abbrev st_f_is_sized : Stmt := top 6
abbrev N_f_is_sized : List Str := ["thing", "many"]
theorem sc_f_is_sized : FnScope N_f_is_sized ["thing", "many"] (defScope st_f_is_sized) := ⟨rfl, rfl, rfl, by decide +kernel, rfl, by decide +kernel, by decide +kernel⟩
abbrev st_f_is_spot : Stmt := top 9
abbrev N_f_is_spot : List Str := ["thing"]
theorem sc_f_is_spot : FnScope N_f_is_spot ["thing"] (defScope st_f_is_spot) := ⟨rfl, rfl, rfl, by decide +kernel, rfl, by decide +kernel, by decide +kernel⟩
abbrev st_f_is_step : Stmt := top 10
abbrev N_f_is_step : List Str := ["thing"]
theorem sc_f_is_step : FnScope N_f_is_step ["thing"] (defScope st_f_is_step) := ⟨rfl, rfl, rfl, by decide +kernel, rfl, by decide +kernel, by decide +kernel⟩
abbrev st_f_is_steps : Stmt := top 11
abbrev N_f_is_steps : List Str := ["thing"]
theorem sc_f_is_steps : FnScope N_f_is_steps ["thing"] (defScope st_f_is_steps) := ⟨rfl, rfl, rfl, by decide +kernel, rfl, by decide +kernel, by decide +kernel⟩
abbrev st_f_is_tuple_of : Stmt := top 7
abbrev N_f_is_tuple_of : List Str := ["thing", "is_one", "one"]
theorem sc_f_is_tuple_of : FnScope N_f_is_tuple_of ["thing", "is_one"] (defScope st_f_is_tuple_of) := ⟨rfl, rfl, rfl, by decide +kernel, rfl, by decide +kernel, by decide +kernel⟩
abbrev st_f_law : Stmt := top 32
abbrev N_f_law : List Str := ["script", "bag", "lap", "begin", "end", "due", "told", "k", "things", "thing", "odd", "%tab"]
theorem sc_f_law : FnScope N_f_law ["script"] (defScope st_f_law) := ⟨rfl, rfl, rfl, by decide +kernel, rfl, by decide +kernel, by decide +kernel⟩
abbrev st_f_length_of : Stmt := top 13
abbrev N_f_length_of : List Str := ["begin", "end"]
theorem sc_f_length_of : FnScope N_f_length_of ["begin", "end"] (defScope st_f_length_of) := ⟨rfl, rfl, rfl, by decide +kernel, rfl, by decide +kernel, by decide +kernel⟩
abbrev st_f_line_steps : Stmt := top 16
abbrev N_f_line_steps : List Str := ["begin", "end", "found", "at", "one", "other"]
theorem sc_f_line_steps : FnScope N_f_line_steps ["begin", "end"] (defScope st_f_line_steps) := ⟨rfl, rfl, rfl, by decide +kernel, rfl, by decide +kernel, by decide +kernel⟩
abbrev st_f_nearest : Stmt := top 14
abbrev N_f_nearest : List Str := ["n", "d"]
theorem sc_f_nearest : FnScope N_f_nearest ["n", "d"] (defScope st_f_nearest) := ⟨rfl, rfl, rfl, by decide +kernel, rfl, by decide +kernel, by decide +kernel⟩
abbrev st_f_spot_at : Stmt := top 15
abbrev N_f_spot_at : List Str := ["begin", "end", "at", "many", "one", "other"]
theorem sc_f_spot_at : FnScope N_f_spot_at ["begin", "end", "at"] (defScope st_f_spot_at) := ⟨rfl, rfl, rfl, by decide +kernel, rfl, by decide +kernel, by decide +kernel⟩
abbrev st_f_spots : Stmt := top 17
abbrev N_f_spots : List Str := ["begin", "steps", "found", "x", "y"]
theorem sc_f_spots : FnScope N_f_spots ["begin", "steps"] (defScope st_f_spots) := ⟨rfl, rfl, rfl, by decide +kernel, rfl, by decide +kernel, by decide +kernel⟩
/-- what the top tells of names -/
structure Txt (K : PySem.W.Frag) (mg : Str → Option Value) (c_Nothing : Addr) : Prop where
  b_abs : mg "abs" = none
  b_all : mg "all" = none
  b_bool : mg "bool" = none
  b_enumerate : mg "enumerate" = none
  b_int : mg "int" = none
  b_isinstance : mg "isinstance" = none
  b_len : mg "len" = none
  b_list : mg "list" = none
  b_max : mg "max" = none
  b_range : mg "range" = none
  b_repr : mg "repr" = none
  b_tuple : mg "tuple" = none
  b_zip : mg "zip" = none
  e_Nothing : Err K mg "Nothing" c_Nothing [.type "ValueError", .type "Exception", .type "BaseException", .type "object"] "ValueError.__new__"
  m_Nothing : PySem.W.exmOne K (.ref c_Nothing) (.ref c_Nothing) = some true
section
variable (fa : Str → Addr)
def b_f_is_number (_ : Str → Addr) : AS → Fl :=
  (sRet (eAnd (eIsi "int" (eV 0)) (eNot (eIsi "bool" (eV 0)))))
def m_f_is_number : AS → R PyData := fnR 1 1 1 (b_f_is_number fa)
def b_f_is_sized (_ : Str → Addr) : AS → Fl :=
  (sRet (eAnd (eIsi "tuple" (eV 0)) (eOp pyEq (eCB (py1 pyLen) (lCons (eV 0) lNil)) (eV 1))))
def m_f_is_sized : AS → R PyData := fnR 2 2 2 (b_f_is_sized fa)
def b_f_is_spot : AS → Fl :=
  (sRet (eAnd (eCall 2 (m_f_is_sized fa) (aLk 0 (aDt (eC (.int 2)) aNil))) (eAnd (eCall 1 (m_f_is_number fa) (aDt (eIdxV 0 (eC (.int 0))) aNil)) (eCall 1 (m_f_is_number fa) (aDt (eIdxV 0 (eC (.int 1))) aNil)))))
def m_f_is_spot : AS → R PyData := fnR 1 1 1 (b_f_is_spot fa)
def b_f_is_step : AS → Fl :=
  (sRet (eAnd (eCall 1 (m_f_is_spot fa) (aLk 0 aNil)) (eOp pyEq (eCB (py2 pyMax) (lCons (eCB (py1 pyAbs) (lCons (eIdxV 0 (eC (.int 0))) lNil)) (lCons (eCB (py1 pyAbs) (lCons (eIdxV 0 (eC (.int 1))) lNil)) lNil))) (eC (.int 1)))))
def m_f_is_step : AS → R PyData := fnR 1 1 1 (b_f_is_step fa)
def b_f_is_tuple_of__f_is_step : AS → Fl :=
  (sRet (eAnd (eIsi "tuple" (eV 0)) (eAllQ (qN (nComp [2] (iR (eV 0)) (gN 2) (fun ss => .ok true ss) (eCallL 1 (fa "is_step") 1 (m_f_is_step fa) (aLk 2 aNil)))))))
def m_f_is_tuple_of__f_is_step : AS → R PyData := fnR 2 2 3 (b_f_is_tuple_of__f_is_step fa)
def b_f_is_steps : AS → Fl :=
  (sRet (eCall 2 (m_f_is_tuple_of__f_is_step fa) (aLk 0 (aFn (fa "is_step") aNil))))
def m_f_is_steps : AS → R PyData := fnR 1 1 1 (b_f_is_steps fa)
def b_f_check_spots : AS → Fl :=
  (sIf (bOr (bNot (bB (eCall 1 (m_f_is_spot fa) (aLk 0 aNil)))) (bNot (bB (eCall 1 (m_f_is_spot fa) (aLk 1 aNil))))) (sRaise "Nothing") sNext)
def m_f_check_spots : AS → R PyData := fnR 2 2 2 (b_f_check_spots fa)
def b_f_length_of (_ : Str → Addr) : AS → Fl :=
  (sRet (eCB (py2 pyMax) (lCons (eCB (py1 pyAbs) (lCons (eOp pySub (eIdxV 1 (eC (.int 0))) (eIdxV 0 (eC (.int 0)))) lNil)) (lCons (eCB (py1 pyAbs) (lCons (eOp pySub (eIdxV 1 (eC (.int 1))) (eIdxV 0 (eC (.int 1)))) lNil)) lNil))))
def m_f_length_of : AS → R PyData := fnR 2 2 2 (b_f_length_of fa)
def b_f_nearest (_ : Str → Addr) : AS → Fl :=
  (sRet (eOp pyDiv (eOp pyAdd (eOp pyMul (eC (.int 2)) (eV 0)) (eV 1)) (eOp pyMul (eC (.int 2)) (eV 1))))
def m_f_nearest : AS → R PyData := fnR 2 2 2 (b_f_nearest fa)
def b_f_spot_at : AS → Fl :=
  (sSeq (sAsg (gN 3) (eCall 2 (m_f_length_of fa) (aLk 0 (aLk 1 aNil))))
    (sRet (eTupleQ (qN (nComp [4, 5] (iZp (lCons (eV 0) (lCons (eV 1) lNil))) (gT 2 (gsC (gN 4) (gsC (gN 5) gsN))) (fun ss => .ok true ss) (eOp pyAdd (eV 4) (eCall 2 (m_f_nearest fa) (aDt (eOp pyMul (eV 2) (eOp pySub (eV 5) (eV 4))) (aLk 3 aNil)))))))))
def m_f_spot_at : AS → R PyData := fnR 3 3 6 (b_f_spot_at fa)
def b_f_line_steps : AS → Fl :=
  (sSeq (sDrop (eCall 2 (m_f_check_spots fa) (aLk 0 (aLk 1 aNil))))
    (sSeq (sAsg (gN 2) (eL (nComp [3] (iRng (lCons (eOp pyAdd (eCall 2 (m_f_length_of fa) (aLk 0 (aLk 1 aNil))) (eC (.int 1))) lNil)) (gN 3) (fun ss => .ok true ss) (eIf (bB (eOp pyGt (eV 3) (eC (.int 0)))) (eCall 3 (m_f_spot_at fa) (aLk 0 (aLk 1 (aLk 3 aNil)))) (eV 0)))))
    (sRet (eTupleQ (qN (nComp [4, 5] (iZp (lCons (eV 2) (lCons (eSl (eV 2) (oSome (eC (.int 1))) oNo) lNil))) (gT 2 (gsC (gN 4) (gsC (gN 5) gsN))) (fun ss => .ok true ss) (eTup (lCons (eOp pySub (eIdxV 5 (eC (.int 0))) (eIdxV 4 (eC (.int 0)))) (lCons (eOp pySub (eIdxV 5 (eC (.int 1))) (eIdxV 4 (eC (.int 1)))) lNil)))))))))
def m_f_line_steps : AS → R PyData := fnR 2 2 6 (b_f_line_steps fa)
def b_f_spots (_ : Str → Addr) : AS → Fl :=
  (sSeq (sSetN 2 (nLst (lCons (eV 0) lNil)))
    (sSeq (sFor (iR (eV 1)) (gT 2 (gsC (gN 3) (gsC (gN 4) gsN)))
    (sApp 2 (eTup (lCons (eOp pyAdd (eOp pyIdx (eIdxV 2 (eUn pyNeg (eC (.int 1)))) (eC (.int 0))) (eV 3)) (lCons (eOp pyAdd (eOp pyIdx (eIdxV 2 (eUn pyNeg (eC (.int 1)))) (eC (.int 1))) (eV 4)) lNil)))))
    (sRet (eTupleQ (qV 2)))))
def m_f_spots : AS → R PyData := fnR 2 2 5 (b_f_spots fa)
def b_f_is_near : AS → Fl :=
  (sSeq (sAsg (gN 4) (eCall 2 (m_f_length_of fa) (aLk 0 (aLk 1 aNil))))
    (sSeq (sAsg (gN 5) (eL (nComp [6, 7, 8] (iZp3 (lCons (eV 3) (lCons (eV 0) (lCons (eV 1) lNil)))) (gT 3 (gsC (gN 6) (gsC (gN 7) (gsC (gN 8) gsN)))) (fun ss => .ok true ss) (eCB (py1 pyAbs) (lCons (eOp pySub (eOp pyMul (eV 4) (eOp pySub (eV 6) (eV 7))) (eOp pyMul (eV 2) (eOp pySub (eV 8) (eV 7)))) lNil)))))
    (sRet (eAllQ (qN (nComp [7] (iR (eV 5)) (gN 7) (fun ss => .ok true ss) (eOp pyLe (eOp pyMul (eC (.int 2)) (eV 7)) (eV 4))))))))
def m_f_is_near : AS → R PyData := fnR 4 4 9 (b_f_is_near fa)
def b_f_is_line_steps : AS → Fl :=
  (sSeq (sDrop (eCall 2 (m_f_check_spots fa) (aLk 0 (aLk 1 aNil))))
    (sSeq (sIf (bOr (bNot (bB (eCall 1 (m_f_is_steps fa) (aLk 2 aNil)))) (bB (eOp pyNe (eCB (py1 pyLen) (lCons (eV 2) lNil)) (eCall 2 (m_f_length_of fa) (aLk 0 (aLk 1 aNil)))))) (sRet (eC (.bool false))) sNext)
    (sSeq (sAsg (gN 3) (eCall 2 (m_f_spots fa) (aLk 0 (aLk 2 aNil))))
    (sRet (eAnd (eOp pyEq (eIdxV 3 (eUn pyNeg (eC (.int 1)))) (eV 1)) (eAllQ (qN (nComp [4, 5] (iEnA (lCons (eV 3) lNil)) (gT 2 (gsC (gN 4) (gsC (gN 5) gsN))) (fun ss => .ok true ss) (eCall 4 (m_f_is_near fa) (aLk 0 (aLk 1 (aLk 4 (aLk 5 aNil)))))))))))))
def m_f_is_line_steps : AS → R PyData := fnR 3 3 6 (b_f_is_line_steps fa)
def b_f_law_bag (_ : Str → Addr) : AS → Fl :=
  (sRet (eL (nLst (lCons (eC (.int 0)) (lCons (eC (.int 1234567891)) (lCons (eC (.int 0)) (lCons (eL (nComp [1] (iR (eSl (eV 0) oNo (oSome (eC (.int 63))))) (gN 1) (fun ss => .ok true ss) (eCB (py1 pyAbs) (lCons (eV 1) lNil)))) lNil)))))))
def m_f_law_bag : AS → R PyData := fnR 1 1 2 (b_f_law_bag fa)
def b_f_law_take (_ : Str → Addr) : AS → Fl :=
  (sSeq (sIf (bB (eOp pyEq (eIdxV 0 (eC (.int 0))) (eC (.int 0)))) (sSeq (sAsg (gN 2) (eOp pyIdx (eL (nCat (nSl (eIdxV 0 (eC (.int 3))) (oSome (eIdxV 0 (eC (.int 2)))) oNo) (nLst (lCons (eC (.int 0)) lNil)))) (eC (.int 0))))
    (sSeq (sAugP 0 2 (fun i j => i + j) (eC (.int 1)))
    (sSeq (sIf (bB (eOp pyGe (eV 2) (eOp pyPow (eC (.int 10)) (eC (.int 18))))) (sPut 0 0 (eV 2)) sNext)
    (sSeq (sAsg (gN 3) (eOp pyAdd (eOp pyAdd (eOp pyMul (eIdxV 0 (eC (.int 1))) (eC (.int 48271))) (eOp pyMod (eCB (py1 pyInt) (lCons (eV 2) lNil)) (eC (.int 2147483647)))) (eOp pyMul (eC (.int 7919)) (eIdxV 0 (eC (.int 2))))))
    (sPut 0 1 (eOp pyMod (eCB (py1 pyInt) (lCons (eV 3) lNil)) (eC (.int 2147483647)))))))) sNext)
    (sSeq (sIf (bB (eOp pyGt (eIdxV 0 (eC (.int 0))) (eC (.int 0)))) (sSeq (sAsg (gN 4) (eOp pyMod (eCB (py1 pyInt) (lCons (eIdxV 0 (eC (.int 0))) lNil)) (eV 1)))
    (sSeq (sPut 0 0 (eOp pyDiv (eCB (py1 pyInt) (lCons (eIdxV 0 (eC (.int 0))) lNil)) (eV 1)))
    (sRet (eV 4)))) sNext)
    (sSeq (sAsg (gN 5) (eOp pyMod (eCB (py1 pyInt) (lCons (eOp pyMul (eOp pyAdd (eIdxV 0 (eC (.int 1))) (eC (.int 1))) (eC (.int 39373))) lNil)) (eC (.int 1000000007))))
    (sSeq (sAsg (gN 6) (eOp pyMod (eCB (py1 pyInt) (lCons (eOp pyMul (eOp pyMod (eCB (py1 pyInt) (lCons (eOp pyMul (eV 5) (eV 5)) lNil)) (eC (.int 998244353))) (eC (.int 30011))) lNil)) (eC (.int 998244353))))
    (sRet (eOp pyMod (eCB (py1 pyInt) (lCons (eOp pyDiv (eV 6) (eC (.int 7))) lNil)) (eV 1)))))))
def m_f_law_take : AS → R PyData := fnR 2 2 7 (b_f_law_take fa)
def b_f_law_some : AS → Fl :=
  (sRet (eIdxV 1 (eCall 2 (m_f_law_take fa) (aLk 0 (aDt (eCB (py1 pyLen) (lCons (eV 1) lNil)) aNil)))))
def m_f_law_some : AS → R PyData := fnR 2 2 2 (b_f_law_some fa)
def b_f_law_alike (_ : Str → Addr) : AS → Fl :=
  (sRet (eAnd (eOp pyEq (eCB (py1 pyRepr) (lCons (eV 0) lNil)) (eCB (py1 pyRepr) (lCons (eV 1) lNil))) (eOp pyEq (eV 0) (eV 1))))
def m_f_law_alike : AS → R PyData := fnR 2 2 2 (b_f_law_alike fa)
def b_f_law_is_int (_ : Str → Addr) : AS → Fl :=
  (sRet (eAnd (eIsi "int" (eV 0)) (eNot (eIsi "bool" (eV 0)))))
def m_f_law_is_int : AS → R PyData := fnR 1 1 1 (b_f_law_is_int fa)
def b_f_law_line_steps (_ : Str → Addr) : AS → Fl :=
  (sSeq (sAsg (gN 2) (eCB (py2 pyMax) (lCons (eCB (py1 pyAbs) (lCons (eOp pySub (eIdxV 1 (eC (.int 0))) (eIdxV 0 (eC (.int 0)))) lNil)) (lCons (eCB (py1 pyAbs) (lCons (eOp pySub (eIdxV 1 (eC (.int 1))) (eIdxV 0 (eC (.int 1)))) lNil)) lNil))))
    (sSeq (sSetN 3 (nLst (lCons (eV 0) lNil)))
    (sSeq (sFor (iRng (lCons (eC (.int 1)) (lCons (eOp pyAdd (eV 2) (eC (.int 1))) lNil))) (gN 4)
    (sApp 3 (eTupleQ (qN (nComp [7, 8] (iZp (lCons (eV 0) (lCons (eV 1) lNil))) (gT 2 (gsC (gN 7) (gsC (gN 8) gsN))) (fun ss => .ok true ss) (eOp pyAdd (eV 7) (eOp pyDiv (eOp pyAdd (eOp pyMul (eOp pyMul (eC (.int 2)) (eV 4)) (eOp pySub (eV 8) (eV 7))) (eV 2)) (eOp pyMul (eC (.int 2)) (eV 2)))))))))
    (sRet (eTupleQ (qN (nComp [5, 6] (iZp (lCons (eV 3) (lCons (eSl (eV 3) (oSome (eC (.int 1))) oNo) lNil))) (gT 2 (gsC (gN 5) (gsC (gN 6) gsN))) (fun ss => .ok true ss) (eTup (lCons (eOp pySub (eIdxV 6 (eC (.int 0))) (eIdxV 5 (eC (.int 0)))) (lCons (eOp pySub (eIdxV 6 (eC (.int 1))) (eIdxV 5 (eC (.int 1)))) lNil))))))))))
def m_f_law_line_steps : AS → R PyData := fnR 2 2 9 (b_f_law_line_steps fa)
def b_f_law_spots (_ : Str → Addr) : AS → Fl :=
  (sSeq (sSetN 2 (nLst (lCons (eV 0) lNil)))
    (sSeq (sFor (iR (eV 1)) (gT 2 (gsC (gN 3) (gsC (gN 4) gsN)))
    (sApp 2 (eTup (lCons (eOp pyAdd (eOp pyIdx (eIdxV 2 (eUn pyNeg (eC (.int 1)))) (eC (.int 0))) (eV 3)) (lCons (eOp pyAdd (eOp pyIdx (eIdxV 2 (eUn pyNeg (eC (.int 1)))) (eC (.int 1))) (eV 4)) lNil)))))
    (sRet (eV 2))))
def m_f_law_spots : AS → R PyData := fnR 2 2 5 (b_f_law_spots fa)
def b_f_law_is_spot : AS → Fl :=
  (sRet (eAnd (eIsi "tuple" (eV 0)) (eAnd (eOp pyEq (eCB (py1 pyLen) (lCons (eV 0) lNil)) (eC (.int 2))) (eAnd (eCall 1 (m_f_law_is_int fa) (aDt (eIdxV 0 (eC (.int 0))) aNil)) (eCall 1 (m_f_law_is_int fa) (aDt (eIdxV 0 (eC (.int 1))) aNil))))))
def m_f_law_is_spot : AS → R PyData := fnR 1 1 1 (b_f_law_is_spot fa)
def b_f_law_are_steps : AS → Fl :=
  (sRet (eAnd (eIsi "tuple" (eV 0)) (eOp pyEq (eL (nComp [1] (iR (eV 0)) (gN 1) (bOr (bNot (bB (eCall 1 (m_f_law_is_spot fa) (aLk 1 aNil)))) (bB (eOp pyNe (eCB (py2 pyMax) (lCons (eCB (py1 pyAbs) (lCons (eIdxV 1 (eC (.int 0))) lNil)) (lCons (eCB (py1 pyAbs) (lCons (eIdxV 1 (eC (.int 1))) lNil)) lNil))) (eC (.int 1))))) (eV 1))) (eL (nLst lNil)))))
def m_f_law_are_steps : AS → R PyData := fnR 1 1 2 (b_f_law_are_steps fa)
def b_f_law_fits : AS → Fl :=
  (sSeq (sAsg (gN 3) (eCB (py2 pyMax) (lCons (eCB (py1 pyAbs) (lCons (eOp pySub (eIdxV 1 (eC (.int 0))) (eIdxV 0 (eC (.int 0)))) lNil)) (lCons (eCB (py1 pyAbs) (lCons (eOp pySub (eIdxV 1 (eC (.int 1))) (eIdxV 0 (eC (.int 1)))) lNil)) lNil))))
    (sSeq (sIf (bOr (bNot (bB (eCall 1 (m_f_law_are_steps fa) (aLk 2 aNil)))) (bB (eOp pyNe (eCB (py1 pyLen) (lCons (eV 2) lNil)) (eV 3)))) (sRet (eC (.bool false))) sNext)
    (sSeq (sAsg (gN 4) (eCall 2 (m_f_law_spots fa) (aLk 0 (aLk 2 aNil))))
    (sSeq (sFor (iEnA (lCons (eV 4) lNil)) (gT 2 (gsC (gN 5) (gsC (gN 6) gsN)))
    (sFor (iZp3 (lCons (eV 6) (lCons (eV 0) (lCons (eV 1) lNil)))) (gT 3 (gsC (gN 7) (gsC (gN 8) (gsC (gN 9) gsN))))
    (sIf (bB (eOp pyGt (eOp pyMul (eC (.int 2)) (eCB (py1 pyAbs) (lCons (eOp pySub (eOp pyMul (eV 3) (eOp pySub (eV 7) (eV 8))) (eOp pyMul (eV 5) (eOp pySub (eV 9) (eV 8)))) lNil))) (eV 3))) (sRet (eC (.bool false))) sNext)))
    (sRet (eOp pyEq (eIdxV 4 (eUn pyNeg (eC (.int 1)))) (eV 1)))))))
def m_f_law_fits : AS → R PyData := fnR 3 3 10 (b_f_law_fits fa)
def b_f_law_bag__new (_ : Str → Addr) : AS → R (List PyData) :=
  (nLst (lCons (eC (.int 0)) (lCons (eC (.int 1234567891)) (lCons (eC (.int 0)) (lCons (eL (nComp [1] (iR (eSl (eV 0) oNo (oSome (eC (.int 63))))) (gN 1) (fun ss => .ok true ss) (eCB (py1 pyAbs) (lCons (eV 1) lNil)))) lNil)))))
def m_f_law_bag__new : AS → R (List PyData) := fnN 1 2 (b_f_law_bag__new fa)
def s_law_1 : AS → Fl :=
  (sSetN 1 (eCallN 1 (m_f_law_bag__new fa) (aLk 0 aNil)))
def s_law_3 : AS → Fl :=
  (sAsg (gS 2 (gsC (gN 3) (gsC (gN 4) gsN))) (eL (nComp [7] (iRng (lCons (eC (.int 2)) lNil)) (gN 7) (fun ss => .ok true ss) (eTup (lCons (eOp pySub (eCall 2 (m_f_law_take fa) (aLk 1 (aDt (eC (.int 61)) aNil))) (eC (.int 30))) (lCons (eOp pySub (eCall 2 (m_f_law_take fa) (aLk 1 (aDt (eC (.int 61)) aNil))) (eC (.int 30))) lNil))))))
def s_law_4 : AS → Fl :=
  (sAsg (gN 4) (eCall 2 (m_f_law_some fa) (aLk 1 (aDt (eL (nLst (lCons (eV 4) (lCons (eV 3) (lCons (eTup (lCons (eIdxV 3 (eC (.int 0))) (lCons (eIdxV 4 (eC (.int 1))) lNil))) (lCons (eTup (lCons (eOp pyAdd (eIdxV 3 (eC (.int 0))) (eC (.int 1))) (lCons (eOp pySub (eIdxV 3 (eC (.int 1))) (eC (.int 1))) lNil))) lNil)))))) aNil))))
def s_law_5 : AS → Fl :=
  (sAsg (gN 5) (eCall 2 (m_f_law_line_steps fa) (aLk 3 (aLk 4 aNil))))
def s_law_6 : AS → Fl :=
  (sAsg (gN 6) (eCall 2 (m_f_line_steps fa) (aLk 3 (aLk 4 aNil))))
def s_law_8 (_ : Str → Addr) : AS → Fl :=
  (sRet (eC (.bool false)))
def s_law_7 : AS → Fl :=
  (sIf (bOr (bNot (bB (eCall 2 (m_f_law_alike fa) (aDt (eL (nLst (lCons (eV 6) (lCons (eCall 3 (m_f_is_line_steps fa) (aLk 3 (aLk 4 (aLk 6 aNil)))) (lCons (eCall 2 (m_f_spots fa) (aLk 3 (aLk 6 aNil))) (lCons (eCall 1 (m_f_is_steps fa) (aLk 6 aNil)) lNil)))))) (aDt (eL (nLst (lCons (eV 5) (lCons (eC (.bool true)) (lCons (eTupleQ (qR (eCall 2 (m_f_law_spots fa) (aLk 3 (aLk 5 aNil))))) (lCons (eC (.bool true)) lNil)))))) aNil))))) (bNot (bB (eCall 3 (m_f_law_fits fa) (aLk 3 (aLk 4 (aLk 5 aNil))))))) (s_law_8 fa) sNext)
def s_law_9 : AS → Fl :=
  (sAsg (gN 7) (eIf (bB (eOp pyNe (eV 5) (eTup lNil))) (eCall 2 (m_f_law_take fa) (aLk 1 (aDt (eCB (py1 pyLen) (lCons (eV 5) lNil)) aNil))) (eC (.int 0))))
def s_law_10 (_ : Str → Addr) : AS → Fl :=
  (sSetN 8 (nLst (lCons (eC .none) (lCons (eTup lNil) (lCons (eL (nListQ (qV 5))) (lCons (eSl (eV 5) (oSome (eC (.int 1))) oNo) (lCons (eUn pyRev (eV 5)) (lCons (eOp pyAdd (eV 5) (eTup (lCons (eTup (lCons (eC (.int 1)) (lCons (eC (.int 0)) lNil))) lNil))) (lCons (eOp pyAdd (eOp pyAdd (eSl (eV 5) oNo (oSome (eV 7))) (eTup (lCons (eTup (lCons (eC (.int 0)) (lCons (eC (.int 0)) lNil))) lNil))) (eSl (eV 5) (oSome (eOp pyAdd (eV 7) (eC (.int 1)))) oNo)) (lCons (eOp pyAdd (eOp pyAdd (eSl (eV 5) oNo (oSome (eV 7))) (eTup (lCons (eTup (lCons (eC (.int 2)) (lCons (eC (.int 0)) lNil))) lNil))) (eSl (eV 5) (oSome (eOp pyAdd (eV 7) (eC (.int 1)))) oNo)) lNil))))))))))
def s_law_11 (_ : Str → Addr) : AS → Fl :=
  (sSetN 8 (nCatV 8 (nLst (lCons (eOp pyAdd (eOp pyAdd (eSl (eV 5) oNo (oSome (eV 7))) (eTup (lCons (eTup (lCons (eC (.int 1)) (lCons (eC (.bool true)) lNil))) lNil))) (eSl (eV 5) (oSome (eOp pyAdd (eV 7) (eC (.int 1)))) oNo)) (lCons (eOp pyAdd (eOp pyAdd (eSl (eV 5) oNo (oSome (eV 7))) (eTup (lCons (eC .none) lNil))) (eSl (eV 5) (oSome (eOp pyAdd (eV 7) (eC (.int 1)))) oNo)) lNil)))))
def s_law_12 (_ : Str → Addr) : AS → Fl :=
  (sApp 8 (eOp pyAdd (eOp pyAdd (eOp pyAdd (eSl (eV 5) oNo (oSome (eV 7))) (eSl (eV 5) (oSome (eOp pyAdd (eV 7) (eC (.int 1)))) (oSome (eOp pyAdd (eV 7) (eC (.int 2)))))) (eSl (eV 5) (oSome (eV 7)) (oSome (eOp pyAdd (eV 7) (eC (.int 1)))))) (eSl (eV 5) (oSome (eOp pyAdd (eV 7) (eC (.int 2)))) oNo)))
def s_law_15 (_ : Str → Addr) : AS → Fl :=
  (sRet (eC (.bool false)))
def s_law_14 : AS → Fl :=
  (sIf (bNot (bB (eCall 2 (m_f_law_alike fa) (aDt (eL (nLst (lCons (eCall 3 (m_f_is_line_steps fa) (aLk 3 (aLk 4 (aLk 9 aNil)))) (lCons (eCall 1 (m_f_is_steps fa) (aLk 9 aNil)) lNil)))) (aDt (eL (nLst (lCons (eCall 3 (m_f_law_fits fa) (aLk 3 (aLk 4 (aLk 9 aNil)))) (lCons (eCall 1 (m_f_law_are_steps fa) (aLk 9 aNil)) lNil)))) aNil))))) (s_law_15 fa) sNext)
def k_law_13 : AS → Fl :=
  (s_law_14 fa)
def s_law_13 : AS → Fl :=
  (sFor (iR (eV 8)) (gN 9)
    (k_law_13 fa))
def s_law_16 : AS → Fl :=
  (sAsg (gN 10) (eCall 2 (m_f_law_some fa) (aLk 1 (aDt (eL (nLst (lCons (eC .none) (lCons (eTup (lCons (eC (.int 1)) lNil)) (lCons (eTup (lCons (eC (.int 1)) (lCons (eC (.bool true)) lNil))) (lCons (eL (nLst (lCons (eC (.int 1)) (lCons (eC (.int 2)) lNil)))) (lCons (eTup (lCons (eC (.int 1)) (lCons (eC (.int 2)) (lCons (eC (.int 3)) lNil)))) (lCons (eC (.int 5)) lNil)))))))) aNil))))
def s_law_18 (_ : Str → Addr) : AS → Fl :=
  (sRet (eC (.bool false)))
def s_law_17 : AS → Fl :=
  (sIf (bB (eOp pyNe (eHeard 11 (fa "%tab") "law.<locals>.<lambda>" "Nothing" (Str.ofString "told") (Str.ofString "nothing") (eCall 2 (m_f_line_steps fa) (aLk 10 (aLk 4 aNil)))) (eTup (lCons (eC (.str (Str.ofString "nothing"))) lNil)))) (s_law_18 fa) sNext)
def k_law_2 : AS → Fl :=
  (sSeq (s_law_3 fa)
    (sSeq (s_law_4 fa)
    (sSeq (s_law_5 fa)
    (sSeq (s_law_6 fa)
    (sSeq (s_law_7 fa)
    (sSeq (s_law_9 fa)
    (sSeq (s_law_10 fa)
    (sSeq (s_law_11 fa)
    (sSeq (s_law_12 fa)
    (sSeq (s_law_13 fa)
    (sSeq (s_law_16 fa)
    (s_law_17 fa))))))))))))
def s_law_2 : AS → Fl :=
  (sFor (iRng (lCons (eC (.int 12)) lNil)) (gN 2)
    (k_law_2 fa))
def s_law_19 (_ : Str → Addr) : AS → Fl :=
  (sRet (eC (.bool true)))
def b_f_law : AS → Fl :=
  (sSeq (s_law_1 fa)
    (sSeq (s_law_2 fa)
    (s_law_19 fa)))
end
section
variable {P : Program} {w : World} {K : PySem.W.Frag} {mg : Str → Option Value} {base : Heap} {fa : Str → Addr} {c_Nothing : Addr}
theorem ok_f_is_number (T : Txt K mg c_Nothing) (D : Def K mg "is_number" st_f_is_number (fa "is_number") ["thing"])  :
    Cal P w K mg base (fa "is_number") "is_number" ["thing"] 1 (m_f_is_number fa) :=
  cal_ok D sc_f_is_number (by decide) (by decide) fun cdv A outer s H E hr => by
    refine ⟨_, ?_, (es_ret (er_and (er_isi (T := "int") (er_var (i := 0))) (er_not (er_isi (T := "bool") (er_var (i := 0))))))⟩
    exact (pss_one (ps_ret (pe_and (pe_callB call_isi rfl T.b_isinstance (by decide +kernel) (pa_cons (pv 0) (pa_cons (pe_bltn (v := .ty "int") rfl T.b_int (by decide +kernel) rfl) pa_nil))) (pe_one (pe_not (pe_callB call_isi rfl T.b_isinstance (by decide +kernel) (pa_cons (pv 0) (pa_cons (pe_bltn (v := .ty "bool") rfl T.b_bool (by decide +kernel) rfl) pa_nil))))))))
theorem ok_f_is_sized (T : Txt K mg c_Nothing) (D : Def K mg "is_sized" st_f_is_sized (fa "is_sized") ["thing", "many"])  :
    Cal P w K mg base (fa "is_sized") "is_sized" ["thing", "many"] 1 (m_f_is_sized fa) :=
  cal_ok D sc_f_is_sized (by decide) (by decide) fun cdv A outer s H E hr => by
    refine ⟨_, ?_, (es_ret (er_and (er_isi (T := "tuple") (er_var (i := 0))) (er_op ok_eq (er_cb ok_len (el_cons (er_var (i := 0)) el_nil)) (er_var (i := 1)))))⟩
    exact (pss_one (ps_ret (pe_and (pe_callB call_isi rfl T.b_isinstance (by decide +kernel) (pa_cons (pv 0) (pa_cons (pe_bltn (v := .ty "tuple") rfl T.b_tuple (by decide +kernel) rfl) pa_nil))) (pe_one (pe_cmpR (op_eqD hr.units) (pe_callB call_len rfl T.b_len (by decide +kernel) (pa_cons (pv 0) pa_nil)) (pv 1) (nomark _))))))
theorem ok_f_is_spot (T : Txt K mg c_Nothing) (D : Def K mg "is_spot" st_f_is_spot (fa "is_spot") ["thing"]) (C_f_is_sized : Cal P w K mg base (fa "is_sized") "is_sized" ["thing", "many"] 1 (m_f_is_sized fa)) (C_f_is_number : Cal P w K mg base (fa "is_number") "is_number" ["thing"] 1 (m_f_is_number fa)) :
    Cal P w K mg base (fa "is_spot") "is_spot" ["thing"] 2 (m_f_is_spot fa) :=
  cal_ok D sc_f_is_spot (by decide) (by decide) fun cdv A outer s H E hr => by
    have hr_f_is_sized := hr.mono (show 1 ≤ 1 by decide)
    have hr_f_is_number := hr.mono (show 1 ≤ 1 by decide)
    refine ⟨_, ?_, (es_ret (er_and (er_call (n := 2) (ea_lk (i := 0) (ea_dt er_int ea_nil'))) (er_and (er_call (n := 1) (ea_dt (er_idxV (i := 0) er_int) ea_nil')) (er_call (n := 1) (ea_dt (er_idxV (i := 0) er_int) ea_nil')))))⟩
    exact (pss_one (ps_ret (pe_and (pe_cal C_f_is_sized hr_f_is_sized rfl (takes_of rfl rfl rfl rfl) (pa_cons (pv 0) (pa_cons pe_int pa_nil))) (pe_and (pe_cal C_f_is_number hr_f_is_number rfl (takes_of rfl rfl rfl rfl) (pa_cons (pe_ix ix_seq (pv 0) pe_int (fun _ _ => rfl)) pa_nil)) (pe_one (pe_cal C_f_is_number hr_f_is_number rfl (takes_of rfl rfl rfl rfl) (pa_cons (pe_ix ix_seq (pv 0) pe_int (fun _ _ => rfl)) pa_nil)))))))
theorem ok_f_is_step (T : Txt K mg c_Nothing) (D : Def K mg "is_step" st_f_is_step (fa "is_step") ["thing"]) (C_f_is_spot : Cal P w K mg base (fa "is_spot") "is_spot" ["thing"] 2 (m_f_is_spot fa)) :
    Cal P w K mg base (fa "is_step") "is_step" ["thing"] 3 (m_f_is_step fa) :=
  cal_ok D sc_f_is_step (by decide) (by decide) fun cdv A outer s H E hr => by
    have hr_f_is_spot := hr.mono (show 2 ≤ 2 by decide)
    refine ⟨_, ?_, (es_ret (er_and (er_call (n := 1) (ea_lk (i := 0) ea_nil')) (er_op ok_eq (er_cb ok_max (el_cons (er_cb ok_abs (el_cons (er_idxV (i := 0) er_int) el_nil)) (el_cons (er_cb ok_abs (el_cons (er_idxV (i := 0) er_int) el_nil)) el_nil))) er_int)))⟩
    exact (pss_one (ps_ret (pe_and (pe_cal C_f_is_spot hr_f_is_spot rfl (takes_of rfl rfl rfl rfl) (pa_cons (pv 0) pa_nil)) (pe_one (pe_cmpR (op_eqD hr.units) (pe_callB (call_max2 rfl) rfl T.b_max (by decide +kernel) (pa_cons (pe_callB call_abs rfl T.b_abs (by decide +kernel) (pa_cons (pe_ix ix_seq (pv 0) pe_int (fun _ _ => rfl)) pa_nil)) (pa_cons (pe_callB call_abs rfl T.b_abs (by decide +kernel) (pa_cons (pe_ix ix_seq (pv 0) pe_int (fun _ _ => rfl)) pa_nil)) pa_nil))) pe_int (nomark _))))))
theorem ok_f_is_tuple_of__f_is_step (T : Txt K mg c_Nothing) (D : Def K mg "is_tuple_of" st_f_is_tuple_of (fa "is_tuple_of") ["thing", "is_one"]) (C_f_is_step : Cal P w K mg base (fa "is_step") "is_step" ["thing"] 3 (m_f_is_step fa)) :
    Cal P w K mg base (fa "is_tuple_of") "is_tuple_of" ["thing", "is_one"] 4 (m_f_is_tuple_of__f_is_step fa) :=
  cal_ok D sc_f_is_tuple_of (by decide) (by decide) fun cdv A outer s H E hr => by
    have hr_f_is_step := hr.mono (show 3 ≤ 3 by decide)
    refine ⟨_, ?_, (es_ret (er_and (er_isi (T := "tuple") (er_var (i := 0))) (er_allQ (eq_N (en_lc (vs := [2]) (ei_seq (er_var (i := 0))) (eg_name (i := 2)) (by decide) eb_yes (er_callL (i := 1) (ea_lk (i := 2) ea_nil')))))))⟩
    exact (pss_one (ps_ret (pe_and (pe_callB call_isi rfl T.b_isinstance (by decide +kernel) (pa_cons (pv 0) (pa_cons (pe_bltn (v := .ty "tuple") rfl T.b_tuple (by decide +kernel) rfl) pa_nil))) (pe_one (pe_callB (cr_all rfl) rfl T.b_all (by decide +kernel) (pa_cons (pe_lc (own := [("one", 2)]) rfl sc_f_is_tuple_of.nd (pi_seq (pv 0)) (blkOk_by (N := N_f_is_tuple_of) (sc := defScope st_f_is_tuple_of) (own := [("one", 2)]) (by decide +kernel)) (fun _ _ _ _ _ => (pg_name (i := 2) sc_f_is_tuple_of.nd rfl (by first | exact Or.inl rfl | exact Or.inr rfl))) (fun _ _ _ _ _ => pts_nil) (fun _ _ _ _ _ => (pe_calL C_f_is_step hr_f_is_step (i := 1) rfl (by first | exact Or.inl rfl | exact Or.inr (Or.inl rfl) | exact Or.inr (Or.inr rfl)) takes0 (pa_cons (pv 2) pa_nil)))) pa_nil))))))
theorem ok_f_is_steps (T : Txt K mg c_Nothing) (D : Def K mg "is_steps" st_f_is_steps (fa "is_steps") ["thing"]) (C_f_is_step : Cal P w K mg base (fa "is_step") "is_step" ["thing"] 3 (m_f_is_step fa)) (C_f_is_tuple_of__f_is_step : Cal P w K mg base (fa "is_tuple_of") "is_tuple_of" ["thing", "is_one"] 4 (m_f_is_tuple_of__f_is_step fa)) :
    Cal P w K mg base (fa "is_steps") "is_steps" ["thing"] 5 (m_f_is_steps fa) :=
  cal_ok D sc_f_is_steps (by decide) (by decide) fun cdv A outer s H E hr => by
    have hr_f_is_step := hr.mono (show 3 ≤ 4 by decide)
    have hr_f_is_tuple_of__f_is_step := hr.mono (show 4 ≤ 4 by decide)
    refine ⟨_, ?_, (es_ret (er_call (n := 2) (ea_lk (i := 0) (ea_fn ea_nil'))))⟩
    exact (pss_one (ps_ret (pe_cal C_f_is_tuple_of__f_is_step hr_f_is_tuple_of__f_is_step rfl (takes_of rfl rfl rfl rfl) (pa_cons (pv 0) (pa_cons (pe_glob rfl C_f_is_step.gl rfl) pa_nil)))))
theorem ok_f_check_spots (T : Txt K mg c_Nothing) (D : Def K mg "check_spots" st_f_check_spots (fa "check_spots") ["begin", "end"]) (C_f_is_spot : Cal P w K mg base (fa "is_spot") "is_spot" ["thing"] 2 (m_f_is_spot fa)) :
    Cal P w K mg base (fa "check_spots") "check_spots" ["begin", "end"] 3 (m_f_check_spots fa) :=
  cal_ok D sc_f_check_spots (by decide) (by decide) fun cdv A outer s H E hr => by
    have hr_f_is_spot := hr.mono (show 2 ≤ 2 by decide)
    refine ⟨_, ?_, (es_if (eb_or (eb_not (eb_B (er_call (n := 1) (ea_lk (i := 0) ea_nil')))) (eb_not (eb_B (er_call (n := 1) (ea_lk (i := 1) ea_nil'))))) (es_raise T.e_Nothing.gl) es_next)⟩
    exact (pss_one (ps_if (PW.pt (pw_or (pt_not (pt_val (pe_cal C_f_is_spot hr_f_is_spot rfl (takes_of rfl rfl rfl rfl) (pa_cons (pv 0) pa_nil)))) (pw_or1 (pt_not (pt_val (pe_cal C_f_is_spot hr_f_is_spot rfl (takes_of rfl rfl rfl rfl) (pa_cons (pv 1) pa_nil))))))) (pss_one (ps_raise0 PySem.F.excBase_ValueError T.e_Nothing rfl (takes_of rfl rfl rfl rfl) rfl)) pss_nil))
theorem ok_f_length_of (T : Txt K mg c_Nothing) (D : Def K mg "length_of" st_f_length_of (fa "length_of") ["begin", "end"])  :
    Cal P w K mg base (fa "length_of") "length_of" ["begin", "end"] 1 (m_f_length_of fa) :=
  cal_ok D sc_f_length_of (by decide) (by decide) fun cdv A outer s H E hr => by
    refine ⟨_, ?_, (es_ret (er_cb ok_max (el_cons (er_cb ok_abs (el_cons (er_op ok_sub (er_idxV (i := 1) er_int) (er_idxV (i := 0) er_int)) el_nil)) (el_cons (er_cb ok_abs (el_cons (er_op ok_sub (er_idxV (i := 1) er_int) (er_idxV (i := 0) er_int)) el_nil)) el_nil))))⟩
    exact (pss_one (ps_ret (pe_callB (call_max2 rfl) rfl T.b_max (by decide +kernel) (pa_cons (pe_callB call_abs rfl T.b_abs (by decide +kernel) (pa_cons (pe_op op_sub (pe_ix ix_seq (pv 1) pe_int (fun _ _ => rfl)) (pe_ix ix_seq (pv 0) pe_int (fun _ _ => rfl))) pa_nil)) (pa_cons (pe_callB call_abs rfl T.b_abs (by decide +kernel) (pa_cons (pe_op op_sub (pe_ix ix_seq (pv 1) pe_int (fun _ _ => rfl)) (pe_ix ix_seq (pv 0) pe_int (fun _ _ => rfl))) pa_nil)) pa_nil)))))
theorem ok_f_nearest (T : Txt K mg c_Nothing) (D : Def K mg "nearest" st_f_nearest (fa "nearest") ["n", "d"])  :
    Cal P w K mg base (fa "nearest") "nearest" ["n", "d"] 1 (m_f_nearest fa) :=
  cal_ok D sc_f_nearest (by decide) (by decide) fun cdv A outer s H E hr => by
    refine ⟨_, ?_, (es_ret (er_op ok_div (er_op ok_add (er_op ok_mul er_int (er_var (i := 0))) (er_var (i := 1))) (er_op ok_mul er_int (er_var (i := 1)))))⟩
    exact (pss_one (ps_ret (pe_op op_fdivW (pe_op op_addP (pe_op op_mulW pe_int (pv 0)) (pv 1)) (pe_op op_mulW pe_int (pv 1)))))
theorem ok_f_spot_at (T : Txt K mg c_Nothing) (D : Def K mg "spot_at" st_f_spot_at (fa "spot_at") ["begin", "end", "at"]) (C_f_length_of : Cal P w K mg base (fa "length_of") "length_of" ["begin", "end"] 1 (m_f_length_of fa)) (C_f_nearest : Cal P w K mg base (fa "nearest") "nearest" ["n", "d"] 1 (m_f_nearest fa)) :
    Cal P w K mg base (fa "spot_at") "spot_at" ["begin", "end", "at"] 2 (m_f_spot_at fa) :=
  cal_ok D sc_f_spot_at (by decide) (by decide) fun cdv A outer s H E hr => by
    have hr_f_length_of := hr.mono (show 1 ≤ 1 by decide)
    have hr_f_nearest := hr.mono (show 1 ≤ 1 by decide)
    refine ⟨_, ?_, (es_seq (es_asg (eg_name (i := 3)) (by decide) (er_call (n := 2) (ea_lk (i := 0) (ea_lk (i := 1) ea_nil'))))
        (es_ret (er_tupleQ (eq_N (en_lc (vs := [4, 5]) (ei_zip (el_cons (er_var (i := 0)) (el_cons (er_var (i := 1)) el_nil))) (eg_tup (egs_cons (eg_name (i := 4)) (egs_cons (eg_name (i := 5)) egs_nil))) (by decide) eb_yes (er_op ok_add (er_var (i := 4)) (er_call (n := 2) (ea_dt (er_op ok_mul (er_var (i := 2)) (er_op ok_sub (er_var (i := 5)) (er_var (i := 4)))) (ea_lk (i := 3) ea_nil')))))))))⟩
    exact (pss_cons (ps_set (i := 3) sc_f_spot_at.nd rfl (by first | exact Or.inl rfl | exact Or.inr rfl) (pe_cal C_f_length_of hr_f_length_of rfl (takes_of rfl rfl rfl rfl) (pa_cons (pv 0) (pa_cons (pv 1) pa_nil))))
        (pss_one (ps_ret (pe_callTy call_tuple_of rfl T.b_tuple (by decide +kernel) (pa_cons (pe_lc (own := [("one", 4), ("other", 5)]) rfl sc_f_spot_at.nd (pi_zipA rfl T.b_zip (pa_cons (pv 0) (pa_cons (pv 1) pa_nil))) (blkOk_by (N := N_f_spot_at) (sc := defScope st_f_spot_at) (own := [("one", 4), ("other", 5)]) (by decide +kernel)) (fun _ _ _ _ _ => (pg_tup rfl (pgs_cons (pg_name (i := 4) sc_f_spot_at.nd rfl (by first | exact Or.inl rfl | exact Or.inr rfl)) (pgs_cons (pg_name (i := 5) sc_f_spot_at.nd rfl (by first | exact Or.inl rfl | exact Or.inr rfl)) pgs_nil)))) (fun _ _ _ _ _ => pts_nil) (fun _ _ _ _ _ => (pe_op op_addP (pv 4) (pe_cal C_f_nearest hr_f_nearest rfl takes0 (pa_cons (pe_op op_mulW (pv 2) (pe_op op_sub (pv 5) (pv 4))) (pa_cons (pv 3) pa_nil)))))) pa_nil)))))
theorem ok_f_line_steps (T : Txt K mg c_Nothing) (D : Def K mg "line_steps" st_f_line_steps (fa "line_steps") ["begin", "end"]) (C_f_check_spots : Cal P w K mg base (fa "check_spots") "check_spots" ["begin", "end"] 3 (m_f_check_spots fa)) (C_f_length_of : Cal P w K mg base (fa "length_of") "length_of" ["begin", "end"] 1 (m_f_length_of fa)) (C_f_spot_at : Cal P w K mg base (fa "spot_at") "spot_at" ["begin", "end", "at"] 2 (m_f_spot_at fa)) :
    Cal P w K mg base (fa "line_steps") "line_steps" ["begin", "end"] 4 (m_f_line_steps fa) :=
  cal_ok D sc_f_line_steps (by decide) (by decide) fun cdv A outer s H E hr => by
    have hr_f_check_spots := hr.mono (show 3 ≤ 3 by decide)
    have hr_f_length_of := hr.mono (show 1 ≤ 3 by decide)
    have hr_f_spot_at := hr.mono (show 2 ≤ 3 by decide)
    refine ⟨_, ?_, (es_seq (es_drop (er_call (n := 2) (ea_lk (i := 0) (ea_lk (i := 1) ea_nil'))))
        (es_seq (es_asg (eg_name (i := 2)) (by decide) (er_L (en_lc (vs := [3]) (ei_rng1 (er_op ok_add (er_call (n := 2) (ea_lk (i := 0) (ea_lk (i := 1) ea_nil'))) er_int)) (eg_name (i := 3)) (by decide) eb_yes (er_if (eb_test (er_op ok_gt (er_var (i := 3)) er_int)) (er_call (n := 3) (ea_lk (i := 0) (ea_lk (i := 1) (ea_lk (i := 3) ea_nil')))) (er_var (i := 0))))))
        (es_ret (er_tupleQ (eq_N (en_lc (vs := [4, 5]) (ei_zip (el_cons (er_var (i := 2)) (el_cons (er_sl (er_var (i := 2)) (eo_some' er_int) eo_no) el_nil))) (eg_tup (egs_cons (eg_name (i := 4)) (egs_cons (eg_name (i := 5)) egs_nil))) (by decide) eb_yes (er_tup (el_cons (er_op ok_sub (er_idxV (i := 5) er_int) (er_idxV (i := 4) er_int)) (el_cons (er_op ok_sub (er_idxV (i := 5) er_int) (er_idxV (i := 4) er_int)) el_nil)))))))))⟩
    exact (pss_cons (ps_expr (pe_cal C_f_check_spots hr_f_check_spots rfl (takes_of rfl rfl rfl rfl) (pa_cons (pv 0) (pa_cons (pv 1) pa_nil))))
        (pss_cons (ps_setLc (i := 2) rfl sc_f_line_steps.nd rfl rfl (sw_true rfl rfl rfl (by decide +kernel)) (own := [("at", 3)]) (pi_range1 rfl T.b_range (pa_cons (pe_op op_addP (pe_cal C_f_length_of hr_f_length_of rfl (takes_of rfl rfl rfl rfl) (pa_cons (pv 0) (pa_cons (pv 1) pa_nil))) pe_int) pa_nil)) (blkOk_by (N := N_f_line_steps) (sc := defScope st_f_line_steps) (own := [("at", 3)]) (by decide +kernel)) (fun _ _ _ _ _ => (pg_name (i := 3) sc_f_line_steps.nd rfl (by first | exact Or.inl rfl | exact Or.inr rfl))) (fun _ _ _ _ _ => pts_nil) (fun _ _ _ _ _ => (pe_ifExp (pt_cmpR op_gt (pv 3) pe_int (nomark _)) (pe_cal C_f_spot_at hr_f_spot_at rfl takes0 (pa_cons (pv 0) (pa_cons (pv 1) (pa_cons (pv 3) pa_nil)))) (pv 0))))
        (pss_one (ps_ret (pe_callTy call_tuple_of rfl T.b_tuple (by decide +kernel) (pa_cons (pe_lc (own := [("one", 4), ("other", 5)]) rfl sc_f_line_steps.nd (pi_zipA rfl T.b_zip (pa_cons (pv 2) (pa_cons (pe_slice sl_P (pv 2) (po_some pe_int) po_none) pa_nil))) (blkOk_by (N := N_f_line_steps) (sc := defScope st_f_line_steps) (own := [("one", 4), ("other", 5)]) (by decide +kernel)) (fun _ _ _ _ _ => (pg_tup rfl (pgs_cons (pg_name (i := 4) sc_f_line_steps.nd rfl (by first | exact Or.inl rfl | exact Or.inr rfl)) (pgs_cons (pg_name (i := 5) sc_f_line_steps.nd rfl (by first | exact Or.inl rfl | exact Or.inr rfl)) pgs_nil)))) (fun _ _ _ _ _ => pts_nil) (fun _ _ _ _ _ => (pe_tup (pa_cons (pe_op op_sub (pe_ix ix_seq (pv 5) pe_int (fun _ _ => rfl)) (pe_ix ix_seq (pv 4) pe_int (fun _ _ => rfl))) (pa_cons (pe_op op_sub (pe_ix ix_seq (pv 5) pe_int (fun _ _ => rfl)) (pe_ix ix_seq (pv 4) pe_int (fun _ _ => rfl))) pa_nil))))) pa_nil))))))
theorem ok_f_spots (T : Txt K mg c_Nothing) (D : Def K mg "spots" st_f_spots (fa "spots") ["begin", "steps"])  :
    Cal P w K mg base (fa "spots") "spots" ["begin", "steps"] 1 (m_f_spots fa) :=
  cal_ok D sc_f_spots (by decide) (by decide) fun cdv A outer s H E hr => by
    refine ⟨_, ?_, (es_seq (es_setN (i := 2) (by decide) (en_lst (el_cons (er_var (i := 0)) el_nil)))
        (es_seq (es_for (ei_seq (er_var (i := 1))) (eg_tup (egs_cons (eg_name (i := 3)) (egs_cons (eg_name (i := 4)) egs_nil))) (by decide)
        (es_app (i := 2) (er_tup (el_cons (er_op ok_add (er_op ok_idx (er_idxV (i := 2) (er_un ok_neg er_int)) er_int) (er_var (i := 3))) (el_cons (er_op ok_add (er_op ok_idx (er_idxV (i := 2) (er_un ok_neg er_int)) er_int) (er_var (i := 4))) el_nil)))))
        (es_ret (er_tupleQ (eq_V (i := 2))))))⟩
    exact (pss_cons (ps_set (i := 2) sc_f_spots.nd rfl (by first | exact Or.inl rfl | exact Or.inr rfl) (pe_lst (pa_cons (pv 0) pa_nil)))
        (pss_cons (ps_for (by exact PassesOwn.leaving) rfl (pi_seq (pv 1)) (pg_tup rfl (pgs_cons (pg_name (i := 3) sc_f_spots.nd rfl (by first | exact Or.inl rfl | exact Or.inr rfl)) (pgs_cons (pg_name (i := 4) sc_f_spots.nd rfl (by first | exact Or.inl rfl | exact Or.inr rfl)) pgs_nil)))
        (pss_one (ps_expr (pe_bm PySem.F.plainAttrs_list PySem.F.slot_list_append PySem.F.type_list_append mt_append (pv 2) (pa_cons (pe_tup (pa_cons (pe_op op_addP (pe_ix ix_seq (pe_ix ix_seq (pv 2) (pe_un un_neg pe_int) (fun _ _ => rfl)) pe_int (fun _ _ => rfl)) (pv 3)) (pa_cons (pe_op op_addP (pe_ix ix_seq (pe_ix ix_seq (pv 2) (pe_un un_neg pe_int) (fun _ _ => rfl)) pe_int (fun _ _ => rfl)) (pv 4)) pa_nil))) pa_nil)))))
        (pss_one (ps_ret (pe_callTy call_tuple_of rfl T.b_tuple (by decide +kernel) (pa_cons (pv 2) pa_nil))))))
theorem ok_f_is_near (T : Txt K mg c_Nothing) (D : Def K mg "is_near" st_f_is_near (fa "is_near") ["begin", "end", "at", "spot"]) (C_f_length_of : Cal P w K mg base (fa "length_of") "length_of" ["begin", "end"] 1 (m_f_length_of fa)) :
    Cal P w K mg base (fa "is_near") "is_near" ["begin", "end", "at", "spot"] 2 (m_f_is_near fa) :=
  cal_ok D sc_f_is_near (by decide) (by decide) fun cdv A outer s H E hr => by
    have hr_f_length_of := hr.mono (show 1 ≤ 1 by decide)
    refine ⟨_, ?_, (es_seq (es_asg (eg_name (i := 4)) (by decide) (er_call (n := 2) (ea_lk (i := 0) (ea_lk (i := 1) ea_nil'))))
        (es_seq (es_asg (eg_name (i := 5)) (by decide) (er_L (en_lc (vs := [6, 7, 8]) (ei_zip3 (el_cons (er_var (i := 3)) (el_cons (er_var (i := 0)) (el_cons (er_var (i := 1)) el_nil)))) (eg_tup (egs_cons (eg_name (i := 6)) (egs_cons (eg_name (i := 7)) (egs_cons (eg_name (i := 8)) egs_nil)))) (by decide) eb_yes (er_cb ok_abs (el_cons (er_op ok_sub (er_op ok_mul (er_var (i := 4)) (er_op ok_sub (er_var (i := 6)) (er_var (i := 7)))) (er_op ok_mul (er_var (i := 2)) (er_op ok_sub (er_var (i := 8)) (er_var (i := 7))))) el_nil)))))
        (es_ret (er_allQ (eq_N (en_lc (vs := [7]) (ei_seq (er_var (i := 5))) (eg_name (i := 7)) (by decide) eb_yes (er_op ok_le (er_op ok_mul er_int (er_var (i := 7))) (er_var (i := 4)))))))))⟩
    exact (pss_cons (ps_set (i := 4) sc_f_is_near.nd rfl (by first | exact Or.inl rfl | exact Or.inr rfl) (pe_cal C_f_length_of hr_f_length_of rfl (takes_of rfl rfl rfl rfl) (pa_cons (pv 0) (pa_cons (pv 1) pa_nil))))
        (pss_cons (ps_setLc (i := 5) rfl sc_f_is_near.nd rfl rfl (sw_true rfl rfl rfl (by decide +kernel)) (own := [("mine", 6), ("one", 7), ("other", 8)]) (pi_zip3 rfl T.b_zip (pa_cons (pv 3) (pa_cons (pv 0) (pa_cons (pv 1) pa_nil)))) (blkOk_by (N := N_f_is_near) (sc := defScope st_f_is_near) (own := [("mine", 6), ("one", 7), ("other", 8)]) (by decide +kernel)) (fun _ _ _ _ _ => (pg_tup rfl (pgs_cons (pg_name (i := 6) sc_f_is_near.nd rfl (by first | exact Or.inl rfl | exact Or.inr rfl)) (pgs_cons (pg_name (i := 7) sc_f_is_near.nd rfl (by first | exact Or.inl rfl | exact Or.inr rfl)) (pgs_cons (pg_name (i := 8) sc_f_is_near.nd rfl (by first | exact Or.inl rfl | exact Or.inr rfl)) pgs_nil))))) (fun _ _ _ _ _ => pts_nil) (fun _ _ _ _ _ => (pe_callB call_abs rfl T.b_abs (by decide +kernel) (pa_cons (pe_op op_sub (pe_op op_mulW (pv 4) (pe_op op_sub (pv 6) (pv 7))) (pe_op op_mulW (pv 2) (pe_op op_sub (pv 8) (pv 7)))) pa_nil))))
        (pss_one (ps_ret (pe_callB (cr_all rfl) rfl T.b_all (by decide +kernel) (pa_cons (pe_lc (own := [("one", 7)]) rfl sc_f_is_near.nd (pi_seq (pv 5)) (blkOk_by (N := N_f_is_near) (sc := defScope st_f_is_near) (own := [("one", 7)]) (by decide +kernel)) (fun _ _ _ _ _ => (pg_name (i := 7) sc_f_is_near.nd rfl (by first | exact Or.inl rfl | exact Or.inr rfl))) (fun _ _ _ _ _ => pts_nil) (fun _ _ _ _ _ => (pe_cmpR op_le (pe_op op_mulW pe_int (pv 7)) (pv 4) (nomark _)))) pa_nil))))))
theorem ok_f_is_line_steps (T : Txt K mg c_Nothing) (D : Def K mg "is_line_steps" st_f_is_line_steps (fa "is_line_steps") ["begin", "end", "thing"]) (C_f_check_spots : Cal P w K mg base (fa "check_spots") "check_spots" ["begin", "end"] 3 (m_f_check_spots fa)) (C_f_is_steps : Cal P w K mg base (fa "is_steps") "is_steps" ["thing"] 5 (m_f_is_steps fa)) (C_f_length_of : Cal P w K mg base (fa "length_of") "length_of" ["begin", "end"] 1 (m_f_length_of fa)) (C_f_spots : Cal P w K mg base (fa "spots") "spots" ["begin", "steps"] 1 (m_f_spots fa)) (C_f_is_near : Cal P w K mg base (fa "is_near") "is_near" ["begin", "end", "at", "spot"] 2 (m_f_is_near fa)) :
    Cal P w K mg base (fa "is_line_steps") "is_line_steps" ["begin", "end", "thing"] 6 (m_f_is_line_steps fa) :=
  cal_ok D sc_f_is_line_steps (by decide) (by decide) fun cdv A outer s H E hr => by
    have hr_f_check_spots := hr.mono (show 3 ≤ 5 by decide)
    have hr_f_is_steps := hr.mono (show 5 ≤ 5 by decide)
    have hr_f_length_of := hr.mono (show 1 ≤ 5 by decide)
    have hr_f_spots := hr.mono (show 1 ≤ 5 by decide)
    have hr_f_is_near := hr.mono (show 2 ≤ 5 by decide)
    refine ⟨_, ?_, (es_seq (es_drop (er_call (n := 2) (ea_lk (i := 0) (ea_lk (i := 1) ea_nil'))))
        (es_seq (es_if (eb_or (eb_not (eb_B (er_call (n := 1) (ea_lk (i := 2) ea_nil')))) (eb_test (er_op ok_ne (er_cb ok_len (el_cons (er_var (i := 2)) el_nil)) (er_call (n := 2) (ea_lk (i := 0) (ea_lk (i := 1) ea_nil')))))) (es_ret er_bl) es_next)
        (es_seq (es_asg (eg_name (i := 3)) (by decide) (er_call (n := 2) (ea_lk (i := 0) (ea_lk (i := 2) ea_nil'))))
        (es_ret (er_and (er_op ok_eq (er_idxV (i := 3) (er_un ok_neg er_int)) (er_var (i := 1))) (er_allQ (eq_N (en_lc (vs := [4, 5]) (ei_enumA (el_cons (er_var (i := 3)) el_nil)) (eg_tup (egs_cons (eg_name (i := 4)) (egs_cons (eg_name (i := 5)) egs_nil))) (by decide) eb_yes (er_call (n := 4) (ea_lk (i := 0) (ea_lk (i := 1) (ea_lk (i := 4) (ea_lk (i := 5) ea_nil')))))))))))))⟩
    exact (pss_cons (ps_expr (pe_cal C_f_check_spots hr_f_check_spots rfl (takes_of rfl rfl rfl rfl) (pa_cons (pv 0) (pa_cons (pv 1) pa_nil))))
        (pss_cons (ps_if (PW.pt (pw_or (pt_not (pt_val (pe_cal C_f_is_steps hr_f_is_steps rfl (takes_of rfl rfl rfl rfl) (pa_cons (pv 2) pa_nil)))) (pw_or1 (pt_cmpR (op_neD hr.units) (pe_callB call_len rfl T.b_len (by decide +kernel) (pa_cons (pv 2) pa_nil)) (pe_cal C_f_length_of hr_f_length_of rfl (takes_of rfl rfl rfl rfl) (pa_cons (pv 0) (pa_cons (pv 1) pa_nil))) (nomark _))))) (pss_one (ps_ret pe_bl)) pss_nil)
        (pss_cons (ps_set (i := 3) sc_f_is_line_steps.nd rfl (by first | exact Or.inl rfl | exact Or.inr rfl) (pe_cal C_f_spots hr_f_spots rfl (takes_of rfl rfl rfl rfl) (pa_cons (pv 0) (pa_cons (pv 2) pa_nil))))
        (pss_one (ps_ret (pe_and (pe_cmpR (op_eqD hr.units) (pe_ix ix_seq (pv 3) (pe_un un_neg pe_int) (fun _ _ => rfl)) (pv 1) (nomark _)) (pe_one (pe_callB (cr_all rfl) rfl T.b_all (by decide +kernel) (pa_cons (pe_lc (own := [("at", 4), ("spot", 5)]) rfl sc_f_is_line_steps.nd (pi_enumA rfl T.b_enumerate (pa_cons (pv 3) pa_nil)) (blkOk_by (N := N_f_is_line_steps) (sc := defScope st_f_is_line_steps) (own := [("at", 4), ("spot", 5)]) (by decide +kernel)) (fun _ _ _ _ _ => (pg_tup rfl (pgs_cons (pg_name (i := 4) sc_f_is_line_steps.nd rfl (by first | exact Or.inl rfl | exact Or.inr rfl)) (pgs_cons (pg_name (i := 5) sc_f_is_line_steps.nd rfl (by first | exact Or.inl rfl | exact Or.inr rfl)) pgs_nil)))) (fun _ _ _ _ _ => pts_nil) (fun _ _ _ _ _ => (pe_cal C_f_is_near hr_f_is_near rfl takes0 (pa_cons (pv 0) (pa_cons (pv 1) (pa_cons (pv 4) (pa_cons (pv 5) pa_nil))))))) pa_nil)))))))))
theorem ok_f_law_bag (T : Txt K mg c_Nothing) (D : Def K mg "_law_bag" st_f_law_bag (fa "_law_bag") ["script"])  :
    Cal P w K mg base (fa "_law_bag") "_law_bag" ["script"] 1 (m_f_law_bag fa) :=
  cal_ok D sc_f_law_bag (by decide) (by decide) fun cdv A outer s H E hr => by
    refine ⟨_, ?_, (es_ret (er_L (en_lst (el_cons er_int (el_cons er_int (el_cons er_int (el_cons (er_L (en_lc (vs := [1]) (ei_seq (er_sl (er_var (i := 0)) eo_no (eo_some' er_int))) (eg_name (i := 1)) (by decide) eb_yes (er_cb ok_abs (el_cons (er_var (i := 1)) el_nil)))) el_nil)))))))⟩
    exact (pss_one (ps_ret (pe_lst (pa_cons pe_int (pa_cons pe_int (pa_cons pe_int (pa_cons (pe_lc (own := [("cell", 1)]) rfl sc_f_law_bag.nd (pi_seq (pe_slice sl_P (pv 0) po_none (po_some pe_int))) (blkOk_by (N := N_f_law_bag) (sc := defScope st_f_law_bag) (own := [("cell", 1)]) (by decide +kernel)) (fun _ _ _ _ _ => (pg_name (i := 1) sc_f_law_bag.nd rfl (by first | exact Or.inl rfl | exact Or.inr rfl))) (fun _ _ _ _ _ => pts_nil) (fun _ _ _ _ _ => (pe_callB call_abs rfl T.b_abs (by decide +kernel) (pa_cons (pv 1) pa_nil)))) pa_nil)))))))
theorem ok_f_law_take (T : Txt K mg c_Nothing) (D : Def K mg "_law_take" st_f_law_take (fa "_law_take") ["bag", "many"])  :
    Cal P w K mg base (fa "_law_take") "_law_take" ["bag", "many"] 1 (m_f_law_take fa) :=
  cal_ok D sc_f_law_take (by decide) (by decide) fun cdv A outer s H E hr => by
    refine ⟨_, ?_, (es_seq (es_if (eb_test (er_op ok_eq (er_idxV (i := 0) er_int) er_int)) (es_seq (es_asg (eg_name (i := 2)) (by decide) (er_op ok_idx (er_L (en_cat (en_sl (er_idxV (i := 0) er_int) (eo_some' (er_idxV (i := 0) er_int)) eo_no) (en_lst (el_cons er_int el_nil)))) er_int))
        (es_seq (es_augP (i := 0) er_int)
        (es_seq (es_if (eb_test (er_op ok_ge (er_var (i := 2)) (er_op ok_pow er_int er_int))) (es_put (i := 0) (er_var (i := 2))) es_next)
        (es_seq (es_asg (eg_name (i := 3)) (by decide) (er_op ok_add (er_op ok_add (er_op ok_mul (er_idxV (i := 0) er_int) er_int) (er_op ok_mod (er_cb ok_int (el_cons (er_var (i := 2)) el_nil)) er_int)) (er_op ok_mul er_int (er_idxV (i := 0) er_int))))
        (es_put (i := 0) (er_op ok_mod (er_cb ok_int (el_cons (er_var (i := 3)) el_nil)) er_int)))))) es_next)
        (es_seq (es_if (eb_test (er_op ok_gt (er_idxV (i := 0) er_int) er_int)) (es_seq (es_asg (eg_name (i := 4)) (by decide) (er_op ok_mod (er_cb ok_int (el_cons (er_idxV (i := 0) er_int) el_nil)) (er_var (i := 1))))
        (es_seq (es_put (i := 0) (er_op ok_div (er_cb ok_int (el_cons (er_idxV (i := 0) er_int) el_nil)) (er_var (i := 1))))
        (es_ret (er_var (i := 4))))) es_next)
        (es_seq (es_asg (eg_name (i := 5)) (by decide) (er_op ok_mod (er_cb ok_int (el_cons (er_op ok_mul (er_op ok_add (er_idxV (i := 0) er_int) er_int) er_int) el_nil)) er_int))
        (es_seq (es_asg (eg_name (i := 6)) (by decide) (er_op ok_mod (er_cb ok_int (el_cons (er_op ok_mul (er_op ok_mod (er_cb ok_int (el_cons (er_op ok_mul (er_var (i := 5)) (er_var (i := 5))) el_nil)) er_int) er_int) el_nil)) er_int))
        (es_ret (er_op ok_mod (er_cb ok_int (el_cons (er_op ok_div (er_var (i := 6)) er_int) el_nil)) (er_var (i := 1))))))))⟩
    exact (pss_cons (ps_if (pt_cmpR (op_eqD hr.units) (pe_ix ix_seq (pv 0) pe_int (fun _ _ => rfl)) pe_int (nomark _)) (pss_cons (ps_set (i := 2) sc_f_law_take.nd rfl (by first | exact Or.inl rfl | exact Or.inr rfl) (pe_ix ix_seq (pe_op op_cat (pe_slice sl_P (pe_ix ix_seq (pv 0) pe_int (fun _ _ => rfl)) (po_some (pe_ix ix_seq (pv 0) pe_int (fun _ _ => rfl))) po_none) (pe_lst (pa_cons pe_int pa_nil))) pe_int (fun _ _ => rfl)))
        (pss_cons (ps_augS (pv 0) pe_int pget_list pe_int ip_add set_list)
        (pss_cons (ps_if (pt_cmpR op_ge (pv 2) (pe_op op_pow pe_int pe_int) (nomark _)) (pss_one (ps_asg (pv 2) (pg_sub (pv 0) pe_int set_list))) pss_nil)
        (pss_cons (ps_set (i := 3) sc_f_law_take.nd rfl (by first | exact Or.inl rfl | exact Or.inr rfl) (pe_op op_addP (pe_op op_addP (pe_op op_mulW (pe_ix ix_seq (pv 0) pe_int (fun _ _ => rfl)) pe_int) (pe_op op_mod (pe_callTy call_int1 rfl T.b_int (by decide +kernel) (pa_cons (pv 2) pa_nil)) pe_int)) (pe_op op_mulW pe_int (pe_ix ix_seq (pv 0) pe_int (fun _ _ => rfl)))))
        (pss_one (ps_asg (pe_op op_mod (pe_callTy call_int1 rfl T.b_int (by decide +kernel) (pa_cons (pv 3) pa_nil)) pe_int) (pg_sub (pv 0) pe_int set_list))))))) pss_nil)
        (pss_cons (ps_if (pt_cmpR op_gt (pe_ix ix_seq (pv 0) pe_int (fun _ _ => rfl)) pe_int (nomark _)) (pss_cons (ps_set (i := 4) sc_f_law_take.nd rfl (by first | exact Or.inl rfl | exact Or.inr rfl) (pe_op op_mod (pe_callTy call_int1 rfl T.b_int (by decide +kernel) (pa_cons (pe_ix ix_seq (pv 0) pe_int (fun _ _ => rfl)) pa_nil)) (pv 1)))
        (pss_cons (ps_asg (pe_op op_fdivW (pe_callTy call_int1 rfl T.b_int (by decide +kernel) (pa_cons (pe_ix ix_seq (pv 0) pe_int (fun _ _ => rfl)) pa_nil)) (pv 1)) (pg_sub (pv 0) pe_int set_list))
        (pss_one (ps_ret (pv 4))))) pss_nil)
        (pss_cons (ps_set (i := 5) sc_f_law_take.nd rfl (by first | exact Or.inl rfl | exact Or.inr rfl) (pe_op op_mod (pe_callTy call_int1 rfl T.b_int (by decide +kernel) (pa_cons (pe_op op_mulW (pe_op op_addP (pe_ix ix_seq (pv 0) pe_int (fun _ _ => rfl)) pe_int) pe_int) pa_nil)) pe_int))
        (pss_cons (ps_set (i := 6) sc_f_law_take.nd rfl (by first | exact Or.inl rfl | exact Or.inr rfl) (pe_op op_mod (pe_callTy call_int1 rfl T.b_int (by decide +kernel) (pa_cons (pe_op op_mulW (pe_op op_mod (pe_callTy call_int1 rfl T.b_int (by decide +kernel) (pa_cons (pe_op op_mulW (pv 5) (pv 5)) pa_nil)) pe_int) pe_int) pa_nil)) pe_int))
        (pss_one (ps_ret (pe_op op_mod (pe_callTy call_int1 rfl T.b_int (by decide +kernel) (pa_cons (pe_op op_fdivW (pv 6) pe_int) pa_nil)) (pv 1))))))))
theorem ok_f_law_some (T : Txt K mg c_Nothing) (D : Def K mg "_law_some" st_f_law_some (fa "_law_some") ["bag", "things"]) (C_f_law_take : Cal P w K mg base (fa "_law_take") "_law_take" ["bag", "many"] 1 (m_f_law_take fa)) :
    Cal P w K mg base (fa "_law_some") "_law_some" ["bag", "things"] 2 (m_f_law_some fa) :=
  cal_ok D sc_f_law_some (by decide) (by decide) fun cdv A outer s H E hr => by
    have hr_f_law_take := hr.mono (show 1 ≤ 1 by decide)
    refine ⟨_, ?_, (es_ret (er_idxV (i := 1) (er_call (n := 2) (ea_lk (i := 0) (ea_dt (er_cb ok_len (el_cons (er_var (i := 1)) el_nil)) ea_nil')))))⟩
    exact (pss_one (ps_ret (pe_ix ix_seq (pv 1) (pe_cal C_f_law_take hr_f_law_take rfl (takes_of rfl rfl rfl rfl) (pa_cons (pv 0) (pa_cons (pe_callB call_len rfl T.b_len (by decide +kernel) (pa_cons (pv 1) pa_nil)) pa_nil))) (fun _ _ => rfl))))
theorem ok_f_law_alike (T : Txt K mg c_Nothing) (D : Def K mg "_law_alike" st_f_law_alike (fa "_law_alike") ["found", "due"])  :
    CalG P w K mg base (fa "_law_alike") "_law_alike" ["found", "due"] 1 (m_f_law_alike fa) :=
  calG_ok D sc_f_law_alike (by decide) (by decide) fun cdv A outer s H E hr hgd => by
    refine ⟨_, ?_, (es_ret (er_and (er_op ok_eq (er_cb ok_repr (el_cons (er_var (i := 0)) el_nil)) (er_cb ok_repr (el_cons (er_var (i := 1)) el_nil))) (er_op ok_eq (er_var (i := 0)) (er_var (i := 1)))))⟩
    exact (pss_one (ps_ret (pe_and (pe_cmpR (op_eqD hr.units) (pe_callB (call_repr (guards_deeper.trans hgd) (un128 hr)) rfl T.b_repr (by decide +kernel) (pa_cons (pv 0) pa_nil)) (pe_callB (call_repr (guards_deeper.trans hgd) (un128 hr)) rfl T.b_repr (by decide +kernel) (pa_cons (pv 1) pa_nil)) (nomark _)) (pe_one (pe_cmpR (op_eqD hr.units) (pv 0) (pv 1) (nomark _))))))
theorem ok_f_law_is_int (T : Txt K mg c_Nothing) (D : Def K mg "_law_is_int" st_f_law_is_int (fa "_law_is_int") ["thing"])  :
    Cal P w K mg base (fa "_law_is_int") "_law_is_int" ["thing"] 1 (m_f_law_is_int fa) :=
  cal_ok D sc_f_law_is_int (by decide) (by decide) fun cdv A outer s H E hr => by
    refine ⟨_, ?_, (es_ret (er_and (er_isi (T := "int") (er_var (i := 0))) (er_not (er_isi (T := "bool") (er_var (i := 0))))))⟩
    exact (pss_one (ps_ret (pe_and (pe_callB call_isi rfl T.b_isinstance (by decide +kernel) (pa_cons (pv 0) (pa_cons (pe_bltn (v := .ty "int") rfl T.b_int (by decide +kernel) rfl) pa_nil))) (pe_one (pe_not (pe_callB call_isi rfl T.b_isinstance (by decide +kernel) (pa_cons (pv 0) (pa_cons (pe_bltn (v := .ty "bool") rfl T.b_bool (by decide +kernel) rfl) pa_nil))))))))
theorem ok_f_law_line_steps (T : Txt K mg c_Nothing) (D : Def K mg "_law_line_steps" st_f_law_line_steps (fa "_law_line_steps") ["begin", "end"])  :
    Cal P w K mg base (fa "_law_line_steps") "_law_line_steps" ["begin", "end"] 1 (m_f_law_line_steps fa) :=
  cal_ok D sc_f_law_line_steps (by decide) (by decide) fun cdv A outer s H E hr => by
    refine ⟨_, ?_, (es_seq (es_asg (eg_name (i := 2)) (by decide) (er_cb ok_max (el_cons (er_cb ok_abs (el_cons (er_op ok_sub (er_idxV (i := 1) er_int) (er_idxV (i := 0) er_int)) el_nil)) (el_cons (er_cb ok_abs (el_cons (er_op ok_sub (er_idxV (i := 1) er_int) (er_idxV (i := 0) er_int)) el_nil)) el_nil))))
        (es_seq (es_setN (i := 3) (by decide) (en_lst (el_cons (er_var (i := 0)) el_nil)))
        (es_seq (es_for (ei_rng2 er_int (er_op ok_add (er_var (i := 2)) er_int)) (eg_name (i := 4)) (by decide)
        (es_app (i := 3) (er_tupleQ (eq_N (en_lc (vs := [7, 8]) (ei_zip (el_cons (er_var (i := 0)) (el_cons (er_var (i := 1)) el_nil))) (eg_tup (egs_cons (eg_name (i := 7)) (egs_cons (eg_name (i := 8)) egs_nil))) (by decide) eb_yes (er_op ok_add (er_var (i := 7)) (er_op ok_div (er_op ok_add (er_op ok_mul (er_op ok_mul er_int (er_var (i := 4))) (er_op ok_sub (er_var (i := 8)) (er_var (i := 7)))) (er_var (i := 2))) (er_op ok_mul er_int (er_var (i := 2))))))))))
        (es_ret (er_tupleQ (eq_N (en_lc (vs := [5, 6]) (ei_zip (el_cons (er_var (i := 3)) (el_cons (er_sl (er_var (i := 3)) (eo_some' er_int) eo_no) el_nil))) (eg_tup (egs_cons (eg_name (i := 5)) (egs_cons (eg_name (i := 6)) egs_nil))) (by decide) eb_yes (er_tup (el_cons (er_op ok_sub (er_idxV (i := 6) er_int) (er_idxV (i := 5) er_int)) (el_cons (er_op ok_sub (er_idxV (i := 6) er_int) (er_idxV (i := 5) er_int)) el_nil))))))))))⟩
    exact (pss_cons (ps_set (i := 2) sc_f_law_line_steps.nd rfl (by first | exact Or.inl rfl | exact Or.inr rfl) (pe_callB (call_max2 rfl) rfl T.b_max (by decide +kernel) (pa_cons (pe_callB call_abs rfl T.b_abs (by decide +kernel) (pa_cons (pe_op op_sub (pe_ix ix_seq (pv 1) pe_int (fun _ _ => rfl)) (pe_ix ix_seq (pv 0) pe_int (fun _ _ => rfl))) pa_nil)) (pa_cons (pe_callB call_abs rfl T.b_abs (by decide +kernel) (pa_cons (pe_op op_sub (pe_ix ix_seq (pv 1) pe_int (fun _ _ => rfl)) (pe_ix ix_seq (pv 0) pe_int (fun _ _ => rfl))) pa_nil)) pa_nil))))
        (pss_cons (ps_set (i := 3) sc_f_law_line_steps.nd rfl (by first | exact Or.inl rfl | exact Or.inr rfl) (pe_lst (pa_cons (pv 0) pa_nil)))
        (pss_cons (ps_for (by exact PassesOwn.leaving) rfl (pi_range2 rfl T.b_range (pa_cons pe_int (pa_cons (pe_op op_addP (pv 2) pe_int) pa_nil))) (pg_name (i := 4) sc_f_law_line_steps.nd rfl (by first | exact Or.inl rfl | exact Or.inr rfl))
        (pss_one (ps_expr (pe_bm PySem.F.plainAttrs_list PySem.F.slot_list_append PySem.F.type_list_append mt_append (pv 3) (pa_cons (pe_callTy call_tuple_of rfl T.b_tuple (by decide +kernel) (pa_cons (pe_lc (own := [("a", 7), ("b", 8)]) rfl sc_f_law_line_steps.nd (pi_zipA rfl T.b_zip (pa_cons (pv 0) (pa_cons (pv 1) pa_nil))) (blkOk_by (N := N_f_law_line_steps) (sc := defScope st_f_law_line_steps) (own := [("a", 7), ("b", 8)]) (by decide +kernel)) (fun _ _ _ _ _ => (pg_tup rfl (pgs_cons (pg_name (i := 7) sc_f_law_line_steps.nd rfl (by first | exact Or.inl rfl | exact Or.inr rfl)) (pgs_cons (pg_name (i := 8) sc_f_law_line_steps.nd rfl (by first | exact Or.inl rfl | exact Or.inr rfl)) pgs_nil)))) (fun _ _ _ _ _ => pts_nil) (fun _ _ _ _ _ => (pe_op op_addP (pv 7) (pe_op op_fdivW (pe_op op_addP (pe_op op_mulW (pe_op op_mulW pe_int (pv 4)) (pe_op op_sub (pv 8) (pv 7))) (pv 2)) (pe_op op_mulW pe_int (pv 2)))))) pa_nil)) pa_nil)))))
        (pss_one (ps_ret (pe_callTy call_tuple_of rfl T.b_tuple (by decide +kernel) (pa_cons (pe_lc (own := [("p", 5), ("q", 6)]) rfl sc_f_law_line_steps.nd (pi_zipA rfl T.b_zip (pa_cons (pv 3) (pa_cons (pe_slice sl_P (pv 3) (po_some pe_int) po_none) pa_nil))) (blkOk_by (N := N_f_law_line_steps) (sc := defScope st_f_law_line_steps) (own := [("p", 5), ("q", 6)]) (by decide +kernel)) (fun _ _ _ _ _ => (pg_tup rfl (pgs_cons (pg_name (i := 5) sc_f_law_line_steps.nd rfl (by first | exact Or.inl rfl | exact Or.inr rfl)) (pgs_cons (pg_name (i := 6) sc_f_law_line_steps.nd rfl (by first | exact Or.inl rfl | exact Or.inr rfl)) pgs_nil)))) (fun _ _ _ _ _ => pts_nil) (fun _ _ _ _ _ => (pe_tup (pa_cons (pe_op op_sub (pe_ix ix_seq (pv 6) pe_int (fun _ _ => rfl)) (pe_ix ix_seq (pv 5) pe_int (fun _ _ => rfl))) (pa_cons (pe_op op_sub (pe_ix ix_seq (pv 6) pe_int (fun _ _ => rfl)) (pe_ix ix_seq (pv 5) pe_int (fun _ _ => rfl))) pa_nil))))) pa_nil)))))))
theorem ok_f_law_spots (T : Txt K mg c_Nothing) (D : Def K mg "_law_spots" st_f_law_spots (fa "_law_spots") ["begin", "steps"])  :
    Cal P w K mg base (fa "_law_spots") "_law_spots" ["begin", "steps"] 1 (m_f_law_spots fa) :=
  cal_ok D sc_f_law_spots (by decide) (by decide) fun cdv A outer s H E hr => by
    refine ⟨_, ?_, (es_seq (es_setN (i := 2) (by decide) (en_lst (el_cons (er_var (i := 0)) el_nil)))
        (es_seq (es_for (ei_seq (er_var (i := 1))) (eg_tup (egs_cons (eg_name (i := 3)) (egs_cons (eg_name (i := 4)) egs_nil))) (by decide)
        (es_app (i := 2) (er_tup (el_cons (er_op ok_add (er_op ok_idx (er_idxV (i := 2) (er_un ok_neg er_int)) er_int) (er_var (i := 3))) (el_cons (er_op ok_add (er_op ok_idx (er_idxV (i := 2) (er_un ok_neg er_int)) er_int) (er_var (i := 4))) el_nil)))))
        (es_ret (er_var (i := 2)))))⟩
    exact (pss_cons (ps_set (i := 2) sc_f_law_spots.nd rfl (by first | exact Or.inl rfl | exact Or.inr rfl) (pe_lst (pa_cons (pv 0) pa_nil)))
        (pss_cons (ps_for (by exact PassesOwn.leaving) rfl (pi_seq (pv 1)) (pg_tup rfl (pgs_cons (pg_name (i := 3) sc_f_law_spots.nd rfl (by first | exact Or.inl rfl | exact Or.inr rfl)) (pgs_cons (pg_name (i := 4) sc_f_law_spots.nd rfl (by first | exact Or.inl rfl | exact Or.inr rfl)) pgs_nil)))
        (pss_one (ps_expr (pe_bm PySem.F.plainAttrs_list PySem.F.slot_list_append PySem.F.type_list_append mt_append (pv 2) (pa_cons (pe_tup (pa_cons (pe_op op_addP (pe_ix ix_seq (pe_ix ix_seq (pv 2) (pe_un un_neg pe_int) (fun _ _ => rfl)) pe_int (fun _ _ => rfl)) (pv 3)) (pa_cons (pe_op op_addP (pe_ix ix_seq (pe_ix ix_seq (pv 2) (pe_un un_neg pe_int) (fun _ _ => rfl)) pe_int (fun _ _ => rfl)) (pv 4)) pa_nil))) pa_nil)))))
        (pss_one (ps_ret (pv 2)))))
theorem ok_f_law_is_spot (T : Txt K mg c_Nothing) (D : Def K mg "_law_is_spot" st_f_law_is_spot (fa "_law_is_spot") ["thing"]) (C_f_law_is_int : Cal P w K mg base (fa "_law_is_int") "_law_is_int" ["thing"] 1 (m_f_law_is_int fa)) :
    Cal P w K mg base (fa "_law_is_spot") "_law_is_spot" ["thing"] 2 (m_f_law_is_spot fa) :=
  cal_ok D sc_f_law_is_spot (by decide) (by decide) fun cdv A outer s H E hr => by
    have hr_f_law_is_int := hr.mono (show 1 ≤ 1 by decide)
    refine ⟨_, ?_, (es_ret (er_and (er_isi (T := "tuple") (er_var (i := 0))) (er_and (er_op ok_eq (er_cb ok_len (el_cons (er_var (i := 0)) el_nil)) er_int) (er_and (er_call (n := 1) (ea_dt (er_idxV (i := 0) er_int) ea_nil')) (er_call (n := 1) (ea_dt (er_idxV (i := 0) er_int) ea_nil'))))))⟩
    exact (pss_one (ps_ret (pe_and (pe_callB call_isi rfl T.b_isinstance (by decide +kernel) (pa_cons (pv 0) (pa_cons (pe_bltn (v := .ty "tuple") rfl T.b_tuple (by decide +kernel) rfl) pa_nil))) (pe_and (pe_cmpR (op_eqD hr.units) (pe_callB call_len rfl T.b_len (by decide +kernel) (pa_cons (pv 0) pa_nil)) pe_int (nomark _)) (pe_and (pe_cal C_f_law_is_int hr_f_law_is_int rfl (takes_of rfl rfl rfl rfl) (pa_cons (pe_ix ix_seq (pv 0) pe_int (fun _ _ => rfl)) pa_nil)) (pe_one (pe_cal C_f_law_is_int hr_f_law_is_int rfl (takes_of rfl rfl rfl rfl) (pa_cons (pe_ix ix_seq (pv 0) pe_int (fun _ _ => rfl)) pa_nil))))))))
theorem ok_f_law_are_steps (T : Txt K mg c_Nothing) (D : Def K mg "_law_are_steps" st_f_law_are_steps (fa "_law_are_steps") ["thing"]) (C_f_law_is_spot : Cal P w K mg base (fa "_law_is_spot") "_law_is_spot" ["thing"] 2 (m_f_law_is_spot fa)) :
    Cal P w K mg base (fa "_law_are_steps") "_law_are_steps" ["thing"] 3 (m_f_law_are_steps fa) :=
  cal_ok D sc_f_law_are_steps (by decide) (by decide) fun cdv A outer s H E hr => by
    have hr_f_law_is_spot := hr.mono (show 2 ≤ 2 by decide)
    refine ⟨_, ?_, (es_ret (er_and (er_isi (T := "tuple") (er_var (i := 0))) (er_op ok_eq (er_L (en_lc (vs := [1]) (ei_seq (er_var (i := 0))) (eg_name (i := 1)) (by decide) (eb_or (eb_not (eb_B (er_call (n := 1) (ea_lk (i := 1) ea_nil')))) (eb_test (er_op ok_ne (er_cb ok_max (el_cons (er_cb ok_abs (el_cons (er_idxV (i := 1) er_int) el_nil)) (el_cons (er_cb ok_abs (el_cons (er_idxV (i := 1) er_int) el_nil)) el_nil))) er_int))) (er_var (i := 1)))) (er_L (en_lst el_nil)))))⟩
    exact (pss_one (ps_ret (pe_and (pe_callB call_isi rfl T.b_isinstance (by decide +kernel) (pa_cons (pv 0) (pa_cons (pe_bltn (v := .ty "tuple") rfl T.b_tuple (by decide +kernel) rfl) pa_nil))) (pe_one (pe_cmpR (op_eqD hr.units) (pe_lc (own := [("one", 1)]) rfl sc_f_law_are_steps.nd (pi_seq (pv 0)) (blkOk_by (N := N_f_law_are_steps) (sc := defScope st_f_law_are_steps) (own := [("one", 1)]) (by decide +kernel)) (fun _ _ _ _ _ => (pg_name (i := 1) sc_f_law_are_steps.nd rfl (by first | exact Or.inl rfl | exact Or.inr rfl))) (fun _ _ _ _ _ => (pts_one (PW.pt (pw_or (pt_not (pt_val (pe_cal C_f_law_is_spot hr_f_law_is_spot rfl takes0 (pa_cons (pv 1) pa_nil)))) (pw_or1 (pt_cmpR (op_neD hr.units) (pe_callB (call_max2 rfl) rfl T.b_max (by decide +kernel) (pa_cons (pe_callB call_abs rfl T.b_abs (by decide +kernel) (pa_cons (pe_ix ix_seq (pv 1) pe_int (fun _ _ => rfl)) pa_nil)) (pa_cons (pe_callB call_abs rfl T.b_abs (by decide +kernel) (pa_cons (pe_ix ix_seq (pv 1) pe_int (fun _ _ => rfl)) pa_nil)) pa_nil))) pe_int (nomark _))))))) (fun _ _ _ _ _ => (pv 1))) (pe_lst pa_nil) (nomark _))))))
theorem ok_f_law_fits (T : Txt K mg c_Nothing) (D : Def K mg "_law_fits" st_f_law_fits (fa "_law_fits") ["begin", "end", "thing"]) (C_f_law_are_steps : Cal P w K mg base (fa "_law_are_steps") "_law_are_steps" ["thing"] 3 (m_f_law_are_steps fa)) (C_f_law_spots : Cal P w K mg base (fa "_law_spots") "_law_spots" ["begin", "steps"] 1 (m_f_law_spots fa)) :
    Cal P w K mg base (fa "_law_fits") "_law_fits" ["begin", "end", "thing"] 4 (m_f_law_fits fa) :=
  cal_ok D sc_f_law_fits (by decide) (by decide) fun cdv A outer s H E hr => by
    have hr_f_law_are_steps := hr.mono (show 3 ≤ 3 by decide)
    have hr_f_law_spots := hr.mono (show 1 ≤ 3 by decide)
    refine ⟨_, ?_, (es_seq (es_asg (eg_name (i := 3)) (by decide) (er_cb ok_max (el_cons (er_cb ok_abs (el_cons (er_op ok_sub (er_idxV (i := 1) er_int) (er_idxV (i := 0) er_int)) el_nil)) (el_cons (er_cb ok_abs (el_cons (er_op ok_sub (er_idxV (i := 1) er_int) (er_idxV (i := 0) er_int)) el_nil)) el_nil))))
        (es_seq (es_if (eb_or (eb_not (eb_B (er_call (n := 1) (ea_lk (i := 2) ea_nil')))) (eb_test (er_op ok_ne (er_cb ok_len (el_cons (er_var (i := 2)) el_nil)) (er_var (i := 3))))) (es_ret er_bl) es_next)
        (es_seq (es_asg (eg_name (i := 4)) (by decide) (er_call (n := 2) (ea_lk (i := 0) (ea_lk (i := 2) ea_nil'))))
        (es_seq (es_for (ei_enumA (el_cons (er_var (i := 4)) el_nil)) (eg_tup (egs_cons (eg_name (i := 5)) (egs_cons (eg_name (i := 6)) egs_nil))) (by decide)
        (es_for (ei_zip3 (el_cons (er_var (i := 6)) (el_cons (er_var (i := 0)) (el_cons (er_var (i := 1)) el_nil)))) (eg_tup (egs_cons (eg_name (i := 7)) (egs_cons (eg_name (i := 8)) (egs_cons (eg_name (i := 9)) egs_nil)))) (by decide)
        (es_if (eb_test (er_op ok_gt (er_op ok_mul er_int (er_cb ok_abs (el_cons (er_op ok_sub (er_op ok_mul (er_var (i := 3)) (er_op ok_sub (er_var (i := 7)) (er_var (i := 8)))) (er_op ok_mul (er_var (i := 5)) (er_op ok_sub (er_var (i := 9)) (er_var (i := 8))))) el_nil))) (er_var (i := 3)))) (es_ret er_bl) es_next)))
        (es_ret (er_op ok_eq (er_idxV (i := 4) (er_un ok_neg er_int)) (er_var (i := 1))))))))⟩
    exact (pss_cons (ps_set (i := 3) sc_f_law_fits.nd rfl (by first | exact Or.inl rfl | exact Or.inr rfl) (pe_callB (call_max2 rfl) rfl T.b_max (by decide +kernel) (pa_cons (pe_callB call_abs rfl T.b_abs (by decide +kernel) (pa_cons (pe_op op_sub (pe_ix ix_seq (pv 1) pe_int (fun _ _ => rfl)) (pe_ix ix_seq (pv 0) pe_int (fun _ _ => rfl))) pa_nil)) (pa_cons (pe_callB call_abs rfl T.b_abs (by decide +kernel) (pa_cons (pe_op op_sub (pe_ix ix_seq (pv 1) pe_int (fun _ _ => rfl)) (pe_ix ix_seq (pv 0) pe_int (fun _ _ => rfl))) pa_nil)) pa_nil))))
        (pss_cons (ps_if (PW.pt (pw_or (pt_not (pt_val (pe_cal C_f_law_are_steps hr_f_law_are_steps rfl (takes_of rfl rfl rfl rfl) (pa_cons (pv 2) pa_nil)))) (pw_or1 (pt_cmpR (op_neD hr.units) (pe_callB call_len rfl T.b_len (by decide +kernel) (pa_cons (pv 2) pa_nil)) (pv 3) (nomark _))))) (pss_one (ps_ret pe_bl)) pss_nil)
        (pss_cons (ps_set (i := 4) sc_f_law_fits.nd rfl (by first | exact Or.inl rfl | exact Or.inr rfl) (pe_cal C_f_law_spots hr_f_law_spots rfl (takes_of rfl rfl rfl rfl) (pa_cons (pv 0) (pa_cons (pv 2) pa_nil))))
        (pss_cons (ps_for (by exact PassesOwn.leaving) rfl (pi_enumA rfl T.b_enumerate (pa_cons (pv 4) pa_nil)) (pg_tup rfl (pgs_cons (pg_name (i := 5) sc_f_law_fits.nd rfl (by first | exact Or.inl rfl | exact Or.inr rfl)) (pgs_cons (pg_name (i := 6) sc_f_law_fits.nd rfl (by first | exact Or.inl rfl | exact Or.inr rfl)) pgs_nil)))
        (pss_one (ps_for (by exact PassesOwn.leaving) rfl (pi_zip3 rfl T.b_zip (pa_cons (pv 6) (pa_cons (pv 0) (pa_cons (pv 1) pa_nil)))) (pg_tup rfl (pgs_cons (pg_name (i := 7) sc_f_law_fits.nd rfl (by first | exact Or.inl rfl | exact Or.inr rfl)) (pgs_cons (pg_name (i := 8) sc_f_law_fits.nd rfl (by first | exact Or.inl rfl | exact Or.inr rfl)) (pgs_cons (pg_name (i := 9) sc_f_law_fits.nd rfl (by first | exact Or.inl rfl | exact Or.inr rfl)) pgs_nil))))
        (pss_one (ps_if (pt_cmpR op_gt (pe_op op_mulW pe_int (pe_callB call_abs rfl T.b_abs (by decide +kernel) (pa_cons (pe_op op_sub (pe_op op_mulW (pv 3) (pe_op op_sub (pv 7) (pv 8))) (pe_op op_mulW (pv 5) (pe_op op_sub (pv 9) (pv 8)))) pa_nil))) (pv 3) (nomark _)) (pss_one (ps_ret pe_bl)) pss_nil)))))
        (pss_one (ps_ret (pe_cmpR (op_eqD hr.units) (pe_ix ix_seq (pv 4) (pe_un un_neg pe_int) (fun _ _ => rfl)) (pv 1) (nomark _))))))))
theorem ok_f_law_bag__new (T : Txt K mg c_Nothing) (D : Def K mg "_law_bag" st_f_law_bag (fa "_law_bag") ["script"])  :
    CalN P w K mg base (fa "_law_bag") "_law_bag" ["script"] 1 (m_f_law_bag__new fa) :=
  calN_ok D sc_f_law_bag (by decide) rfl fun cdv A outer s H E hr => by
    refine ⟨_, ?_, (en_lst (el_cons er_int (el_cons er_int (el_cons er_int (el_cons (er_L (en_lc (vs := [1]) (ei_seq (er_sl (er_var (i := 0)) eo_no (eo_some' er_int))) (eg_name (i := 1)) (by decide) eb_yes (er_cb ok_abs (el_cons (er_var (i := 1)) el_nil)))) el_nil)))))⟩
    exact (pe_lst (pa_cons pe_int (pa_cons pe_int (pa_cons pe_int (pa_cons (pe_lc (own := [("cell", 1)]) rfl sc_f_law_bag.nd (pi_seq (pe_slice sl_P (pv 0) po_none (po_some pe_int))) (blkOk_by (N := N_f_law_bag) (sc := defScope st_f_law_bag) (own := [("cell", 1)]) (by decide +kernel)) (fun _ _ _ _ _ => (pg_name (i := 1) sc_f_law_bag.nd rfl (by first | exact Or.inl rfl | exact Or.inr rfl))) (fun _ _ _ _ _ => pts_nil) (fun _ _ _ _ _ => (pe_callB call_abs rfl T.b_abs (by decide +kernel) (pa_cons (pv 1) pa_nil)))) pa_nil)))))
theorem run_law {fd : FuncData} (T : Txt K mg c_Nothing) (F : Fun K "law" "law" st_f_law (He.fAd K ("law", none)) fd) (TB : LamX.TabB base mg (He.codeOf K ("law", none)) (fa "%tab")) (C_f_law_bag__new : CalN P w K mg base (fa "_law_bag") "_law_bag" ["script"] 1 (m_f_law_bag__new fa)) (C_f_law_take : Cal P w K mg base (fa "_law_take") "_law_take" ["bag", "many"] 1 (m_f_law_take fa)) (C_f_law_some : Cal P w K mg base (fa "_law_some") "_law_some" ["bag", "things"] 2 (m_f_law_some fa)) (C_f_law_line_steps : Cal P w K mg base (fa "_law_line_steps") "_law_line_steps" ["begin", "end"] 1 (m_f_law_line_steps fa)) (C_f_line_steps : Cal P w K mg base (fa "line_steps") "line_steps" ["begin", "end"] 4 (m_f_line_steps fa)) (C_f_law_alike : CalG P w K mg base (fa "_law_alike") "_law_alike" ["found", "due"] 1 (m_f_law_alike fa)) (C_f_is_line_steps : Cal P w K mg base (fa "is_line_steps") "is_line_steps" ["begin", "end", "thing"] 6 (m_f_is_line_steps fa)) (C_f_spots : Cal P w K mg base (fa "spots") "spots" ["begin", "steps"] 1 (m_f_spots fa)) (C_f_is_steps : Cal P w K mg base (fa "is_steps") "is_steps" ["thing"] 5 (m_f_is_steps fa)) (C_f_law_spots : Cal P w K mg base (fa "_law_spots") "_law_spots" ["begin", "steps"] 1 (m_f_law_spots fa)) (C_f_law_fits : Cal P w K mg base (fa "_law_fits") "_law_fits" ["begin", "end", "thing"] 4 (m_f_law_fits fa)) (C_f_law_are_steps : Cal P w K mg base (fa "_law_are_steps") "_law_are_steps" ["thing"] 3 (m_f_law_are_steps fa)) (D_f_law_heard : Def K mg "_law_heard" st_f_law_heard (fa "_law_heard") ["act"]) :
    LawRun P w K mg base 9 (He.fAd K ("law", none)) fd "script" 11 (fa "%tab") N_f_law fun t => EvS K mg (fun _ _ _ _ => False) 0 t (b_f_law fa) :=
  law_run F rfl sc_f_law (ghost_ok (x := "%tab") rfl (by decide +kernel)) fun A outer s H hr hgd => by
    have hr_f_law_bag__new := hr.mono (show 1 ≤ 8 by decide)
    have hr_f_law_take := hr.mono (show 1 ≤ 8 by decide)
    have hr_f_law_some := hr.mono (show 2 ≤ 8 by decide)
    have hr_f_law_line_steps := hr.mono (show 1 ≤ 8 by decide)
    have hr_f_line_steps := hr.mono (show 4 ≤ 8 by decide)
    have hr_f_law_alike := hr.mono (show 1 ≤ 8 by decide)
    have hr_f_is_line_steps := hr.mono (show 6 ≤ 8 by decide)
    have hr_f_spots := hr.mono (show 1 ≤ 8 by decide)
    have hr_f_is_steps := hr.mono (show 5 ≤ 8 by decide)
    have hr_f_law_spots := hr.mono (show 1 ≤ 8 by decide)
    have hr_f_law_fits := hr.mono (show 4 ≤ 8 by decide)
    have hr_f_law_are_steps := hr.mono (show 3 ≤ 8 by decide)
    have hr_lam := hr.mono (show 6 + 2 ≤ 8 by decide)
    refine ⟨_, ?_, (es_seq (es_setN (i := 1) (by decide) (en_call (n := 1) (ea_lk (i := 0) ea_nil')))
        (es_seq (es_for (ei_rng1 er_int) (eg_name (i := 2)) (by decide)
        (es_seq (es_asg (eg_seq (egs_cons (eg_name (i := 3)) (egs_cons (eg_name (i := 4)) egs_nil))) (by decide) (er_L (en_lc (vs := [7]) (ei_rng1 er_int) (eg_name (i := 7)) (by decide) eb_yes (er_tup (el_cons (er_op ok_sub (er_call (n := 2) (ea_lk (i := 1) (ea_dt er_int ea_nil'))) er_int) (el_cons (er_op ok_sub (er_call (n := 2) (ea_lk (i := 1) (ea_dt er_int ea_nil'))) er_int) el_nil))))))
        (es_seq (es_asg (eg_name (i := 4)) (by decide) (er_call (n := 2) (ea_lk (i := 1) (ea_dt (er_L (en_lst (el_cons (er_var (i := 4)) (el_cons (er_var (i := 3)) (el_cons (er_tup (el_cons (er_idxV (i := 3) er_int) (el_cons (er_idxV (i := 4) er_int) el_nil))) (el_cons (er_tup (el_cons (er_op ok_add (er_idxV (i := 3) er_int) er_int) (el_cons (er_op ok_sub (er_idxV (i := 3) er_int) er_int) el_nil))) el_nil)))))) ea_nil'))))
        (es_seq (es_asg (eg_name (i := 5)) (by decide) (er_call (n := 2) (ea_lk (i := 3) (ea_lk (i := 4) ea_nil'))))
        (es_seq (es_asg (eg_name (i := 6)) (by decide) (er_call (n := 2) (ea_lk (i := 3) (ea_lk (i := 4) ea_nil'))))
        (es_seq (es_if (eb_or (eb_not (eb_B (er_call (n := 2) (ea_dt (er_L (en_lst (el_cons (er_var (i := 6)) (el_cons (er_call (n := 3) (ea_lk (i := 3) (ea_lk (i := 4) (ea_lk (i := 6) ea_nil')))) (el_cons (er_call (n := 2) (ea_lk (i := 3) (ea_lk (i := 6) ea_nil'))) (el_cons (er_call (n := 1) (ea_lk (i := 6) ea_nil')) el_nil)))))) (ea_dt (er_L (en_lst (el_cons (er_var (i := 5)) (el_cons er_bl (el_cons (er_tupleQ (eq_R (er_call (n := 2) (ea_lk (i := 3) (ea_lk (i := 5) ea_nil'))))) (el_cons er_bl el_nil)))))) ea_nil'))))) (eb_not (eb_B (er_call (n := 3) (ea_lk (i := 3) (ea_lk (i := 4) (ea_lk (i := 5) ea_nil'))))))) (es_ret er_bl) es_next)
        (es_seq (es_asg (eg_name (i := 7)) (by decide) (er_if (eb_test (er_op ok_ne (er_var (i := 5)) (er_tup el_nil))) (er_call (n := 2) (ea_lk (i := 1) (ea_dt (er_cb ok_len (el_cons (er_var (i := 5)) el_nil)) ea_nil'))) er_int))
        (es_seq (es_setN (i := 8) (by decide) (en_lst (el_cons er_non (el_cons (er_tup el_nil) (el_cons (er_L (en_listQ (eq_V (i := 5)))) (el_cons (er_sl (er_var (i := 5)) (eo_some' er_int) eo_no) (el_cons (er_rev (er_var (i := 5))) (el_cons (er_op ok_add (er_var (i := 5)) (er_tup (el_cons (er_tup (el_cons er_int (el_cons er_int el_nil))) el_nil))) (el_cons (er_op ok_add (er_op ok_add (er_sl (er_var (i := 5)) eo_no (eo_some' (er_var (i := 7)))) (er_tup (el_cons (er_tup (el_cons er_int (el_cons er_int el_nil))) el_nil))) (er_sl (er_var (i := 5)) (eo_some' (er_op ok_add (er_var (i := 7)) er_int)) eo_no)) (el_cons (er_op ok_add (er_op ok_add (er_sl (er_var (i := 5)) eo_no (eo_some' (er_var (i := 7)))) (er_tup (el_cons (er_tup (el_cons er_int (el_cons er_int el_nil))) el_nil))) (er_sl (er_var (i := 5)) (eo_some' (er_op ok_add (er_var (i := 7)) er_int)) eo_no)) el_nil))))))))))
        (es_seq (es_setN (i := 8) (by decide) (en_catV (i := 8) (en_lst (el_cons (er_op ok_add (er_op ok_add (er_sl (er_var (i := 5)) eo_no (eo_some' (er_var (i := 7)))) (er_tup (el_cons (er_tup (el_cons er_int (el_cons er_bl el_nil))) el_nil))) (er_sl (er_var (i := 5)) (eo_some' (er_op ok_add (er_var (i := 7)) er_int)) eo_no)) (el_cons (er_op ok_add (er_op ok_add (er_sl (er_var (i := 5)) eo_no (eo_some' (er_var (i := 7)))) (er_tup (el_cons er_non el_nil))) (er_sl (er_var (i := 5)) (eo_some' (er_op ok_add (er_var (i := 7)) er_int)) eo_no)) el_nil)))))
        (es_seq (es_app (i := 8) (er_op ok_add (er_op ok_add (er_op ok_add (er_sl (er_var (i := 5)) eo_no (eo_some' (er_var (i := 7)))) (er_sl (er_var (i := 5)) (eo_some' (er_op ok_add (er_var (i := 7)) er_int)) (eo_some' (er_op ok_add (er_var (i := 7)) er_int)))) (er_sl (er_var (i := 5)) (eo_some' (er_var (i := 7))) (eo_some' (er_op ok_add (er_var (i := 7)) er_int)))) (er_sl (er_var (i := 5)) (eo_some' (er_op ok_add (er_var (i := 7)) er_int)) eo_no)))
        (es_seq (es_for (ei_seq (er_var (i := 8))) (eg_name (i := 9)) (by decide)
        (es_if (eb_not (eb_B (er_call (n := 2) (ea_dt (er_L (en_lst (el_cons (er_call (n := 3) (ea_lk (i := 3) (ea_lk (i := 4) (ea_lk (i := 9) ea_nil')))) (el_cons (er_call (n := 1) (ea_lk (i := 9) ea_nil')) el_nil)))) (ea_dt (er_L (en_lst (el_cons (er_call (n := 3) (ea_lk (i := 3) (ea_lk (i := 4) (ea_lk (i := 9) ea_nil')))) (el_cons (er_call (n := 1) (ea_lk (i := 9) ea_nil')) el_nil)))) ea_nil'))))) (es_ret er_bl) es_next))
        (es_seq (es_asg (eg_name (i := 10)) (by decide) (er_call (n := 2) (ea_lk (i := 1) (ea_dt (er_L (en_lst (el_cons er_non (el_cons (er_tup (el_cons er_int el_nil)) (el_cons (er_tup (el_cons er_int (el_cons er_bl el_nil))) (el_cons (er_L (en_lst (el_cons er_int (el_cons er_int el_nil)))) (el_cons (er_tup (el_cons er_int (el_cons er_int (el_cons er_int el_nil)))) (el_cons er_int el_nil)))))))) ea_nil'))))
        (es_if (eb_test (er_op ok_ne (er_heard (i := 11) (P := fa "%tab") (q := "law.<locals>.<lambda>") (word := Str.ofString "told") (ret := Str.ofString "nothing") T.e_Nothing.gl T.m_Nothing (fun E' => (er_call (n := 2) (ea_lk (i := 10) (ea_lk (i := 4) ea_nil'))))) (er_tup (el_cons er_str el_nil)))) (es_ret er_bl) es_next)))))))))))))
        (es_ret er_bl)))⟩
    exact (pss_cons (ps_set (i := 1) sc_f_law.nd rfl (by first | exact Or.inl rfl | exact Or.inr rfl) (pe_calN C_f_law_bag__new hr_f_law_bag__new rfl (takes_of rfl rfl rfl rfl) (pa_cons (pv 0) pa_nil)))
        (pss_cons (ps_for (by exact PassesOwn.leaving) rfl (pi_range1 rfl T.b_range (pa_cons pe_int pa_nil)) (pg_name (i := 2) sc_f_law.nd rfl (by first | exact Or.inl rfl | exact Or.inr rfl))
        (pss_cons (ps_asg (pe_lc (own := [("k", 7)]) rfl sc_f_law.nd (pi_range1 rfl T.b_range (pa_cons pe_int pa_nil)) (blkOk_by (N := N_f_law) (sc := defScope st_f_law) (own := [("k", 7)]) (by decide +kernel)) (fun _ _ _ _ _ => (pg_name (i := 7) sc_f_law.nd rfl (by first | exact Or.inl rfl | exact Or.inr rfl))) (fun _ _ _ _ _ => pts_nil) (fun _ _ _ _ _ => (pe_tup (pa_cons (pe_op op_sub (pe_cal C_f_law_take hr_f_law_take rfl takes0 (pa_cons (pv 1) (pa_cons pe_int pa_nil))) pe_int) (pa_cons (pe_op op_sub (pe_cal C_f_law_take hr_f_law_take rfl takes0 (pa_cons (pv 1) (pa_cons pe_int pa_nil))) pe_int) pa_nil))))) (pg_seq rfl (pgs_cons (pg_name (i := 3) sc_f_law.nd rfl (by first | exact Or.inl rfl | exact Or.inr rfl)) (pgs_cons (pg_name (i := 4) sc_f_law.nd rfl (by first | exact Or.inl rfl | exact Or.inr rfl)) pgs_nil))))
        (pss_cons (ps_set (i := 4) sc_f_law.nd rfl (by first | exact Or.inl rfl | exact Or.inr rfl) (pe_cal C_f_law_some hr_f_law_some rfl (takes_of rfl rfl rfl rfl) (pa_cons (pv 1) (pa_cons (pe_lst (pa_cons (pv 4) (pa_cons (pv 3) (pa_cons (pe_tup (pa_cons (pe_ix ix_seq (pv 3) pe_int (fun _ _ => rfl)) (pa_cons (pe_ix ix_seq (pv 4) pe_int (fun _ _ => rfl)) pa_nil))) (pa_cons (pe_tup (pa_cons (pe_op op_addP (pe_ix ix_seq (pv 3) pe_int (fun _ _ => rfl)) pe_int) (pa_cons (pe_op op_sub (pe_ix ix_seq (pv 3) pe_int (fun _ _ => rfl)) pe_int) pa_nil))) pa_nil))))) pa_nil))))
        (pss_cons (ps_set (i := 5) sc_f_law.nd rfl (by first | exact Or.inl rfl | exact Or.inr rfl) (pe_cal C_f_law_line_steps hr_f_law_line_steps rfl (takes_of rfl rfl rfl rfl) (pa_cons (pv 3) (pa_cons (pv 4) pa_nil))))
        (pss_cons (ps_set (i := 6) sc_f_law.nd rfl (by first | exact Or.inl rfl | exact Or.inr rfl) (pe_cal C_f_line_steps hr_f_line_steps rfl (takes_of rfl rfl rfl rfl) (pa_cons (pv 3) (pa_cons (pv 4) pa_nil))))
        (pss_cons (ps_if (PW.pt (pw_or (pt_not (pt_val (pe_calG C_f_law_alike hr_f_law_alike (guards_deeper.trans hgd) rfl (takes_of rfl rfl rfl rfl) (pa_cons (pe_lst (pa_cons (pv 6) (pa_cons (pe_cal C_f_is_line_steps hr_f_is_line_steps rfl (takes_of rfl rfl rfl rfl) (pa_cons (pv 3) (pa_cons (pv 4) (pa_cons (pv 6) pa_nil)))) (pa_cons (pe_cal C_f_spots hr_f_spots rfl (takes_of rfl rfl rfl rfl) (pa_cons (pv 3) (pa_cons (pv 6) pa_nil))) (pa_cons (pe_cal C_f_is_steps hr_f_is_steps rfl (takes_of rfl rfl rfl rfl) (pa_cons (pv 6) pa_nil)) pa_nil))))) (pa_cons (pe_lst (pa_cons (pv 5) (pa_cons pe_bl (pa_cons (pe_callTy call_tuple_of rfl T.b_tuple (by decide +kernel) (pa_cons (pe_cal C_f_law_spots hr_f_law_spots rfl (takes_of rfl rfl rfl rfl) (pa_cons (pv 3) (pa_cons (pv 5) pa_nil))) pa_nil)) (pa_cons pe_bl pa_nil))))) pa_nil))))) (pw_or1 (pt_not (pt_val (pe_cal C_f_law_fits hr_f_law_fits rfl (takes_of rfl rfl rfl rfl) (pa_cons (pv 3) (pa_cons (pv 4) (pa_cons (pv 5) pa_nil))))))))) (pss_one (ps_ret pe_bl)) pss_nil)
        (pss_cons (ps_set (i := 7) sc_f_law.nd rfl (by first | exact Or.inl rfl | exact Or.inr rfl) (pe_ifExp (pt_cmpR (op_neD hr.units) (pv 5) (pe_tup pa_nil) (nomark _)) (pe_cal C_f_law_take hr_f_law_take rfl (takes_of rfl rfl rfl rfl) (pa_cons (pv 1) (pa_cons (pe_callB call_len rfl T.b_len (by decide +kernel) (pa_cons (pv 5) pa_nil)) pa_nil))) pe_int))
        (pss_cons (ps_set (i := 8) sc_f_law.nd rfl (by first | exact Or.inl rfl | exact Or.inr rfl) (pe_lst (pa_cons pe_non (pa_cons (pe_tup pa_nil) (pa_cons (pe_callTy call_list_of rfl T.b_list (by decide +kernel) (pa_cons (pv 5) pa_nil)) (pa_cons (pe_slice sl_P (pv 5) (po_some pe_int) po_none) (pa_cons (pe_revA (pv 5)) (pa_cons (pe_op op_addP (pv 5) (pe_tup (pa_cons (pe_tup (pa_cons pe_int (pa_cons pe_int pa_nil))) pa_nil))) (pa_cons (pe_op op_addP (pe_op op_addP (pe_slice sl_P (pv 5) po_none (po_some (pv 7))) (pe_tup (pa_cons (pe_tup (pa_cons pe_int (pa_cons pe_int pa_nil))) pa_nil))) (pe_slice sl_P (pv 5) (po_some (pe_op op_addP (pv 7) pe_int)) po_none)) (pa_cons (pe_op op_addP (pe_op op_addP (pe_slice sl_P (pv 5) po_none (po_some (pv 7))) (pe_tup (pa_cons (pe_tup (pa_cons pe_int (pa_cons pe_int pa_nil))) pa_nil))) (pe_slice sl_P (pv 5) (po_some (pe_op op_addP (pv 7) pe_int)) po_none)) pa_nil))))))))))
        (pss_cons (ps_set (i := 8) sc_f_law.nd rfl (by first | exact Or.inl rfl | exact Or.inr rfl) (pe_op op_cat (pv 8) (pe_lst (pa_cons (pe_op op_addP (pe_op op_addP (pe_slice sl_P (pv 5) po_none (po_some (pv 7))) (pe_tup (pa_cons (pe_tup (pa_cons pe_int (pa_cons pe_bl pa_nil))) pa_nil))) (pe_slice sl_P (pv 5) (po_some (pe_op op_addP (pv 7) pe_int)) po_none)) (pa_cons (pe_op op_addP (pe_op op_addP (pe_slice sl_P (pv 5) po_none (po_some (pv 7))) (pe_tup (pa_cons pe_non pa_nil))) (pe_slice sl_P (pv 5) (po_some (pe_op op_addP (pv 7) pe_int)) po_none)) pa_nil)))))
        (pss_cons (ps_expr (pe_bm PySem.F.plainAttrs_list PySem.F.slot_list_append PySem.F.type_list_append mt_append (pv 8) (pa_cons (pe_op op_addP (pe_op op_addP (pe_op op_addP (pe_slice sl_P (pv 5) po_none (po_some (pv 7))) (pe_slice sl_P (pv 5) (po_some (pe_op op_addP (pv 7) pe_int)) (po_some (pe_op op_addP (pv 7) pe_int)))) (pe_slice sl_P (pv 5) (po_some (pv 7)) (po_some (pe_op op_addP (pv 7) pe_int)))) (pe_slice sl_P (pv 5) (po_some (pe_op op_addP (pv 7) pe_int)) po_none)) pa_nil)))
        (pss_cons (ps_for (by exact PassesOwn.leaving) rfl (pi_seq (pv 8)) (pg_name (i := 9) sc_f_law.nd rfl (by first | exact Or.inl rfl | exact Or.inr rfl))
        (pss_one (ps_if (pt_not (pt_val (pe_calG C_f_law_alike hr_f_law_alike (guards_deeper.trans hgd) rfl (takes_of rfl rfl rfl rfl) (pa_cons (pe_lst (pa_cons (pe_cal C_f_is_line_steps hr_f_is_line_steps rfl (takes_of rfl rfl rfl rfl) (pa_cons (pv 3) (pa_cons (pv 4) (pa_cons (pv 9) pa_nil)))) (pa_cons (pe_cal C_f_is_steps hr_f_is_steps rfl (takes_of rfl rfl rfl rfl) (pa_cons (pv 9) pa_nil)) pa_nil))) (pa_cons (pe_lst (pa_cons (pe_cal C_f_law_fits hr_f_law_fits rfl (takes_of rfl rfl rfl rfl) (pa_cons (pv 3) (pa_cons (pv 4) (pa_cons (pv 9) pa_nil)))) (pa_cons (pe_cal C_f_law_are_steps hr_f_law_are_steps rfl (takes_of rfl rfl rfl rfl) (pa_cons (pv 9) pa_nil)) pa_nil))) pa_nil))))) (pss_one (ps_ret pe_bl)) pss_nil)))
        (pss_cons (ps_set (i := 10) sc_f_law.nd rfl (by first | exact Or.inl rfl | exact Or.inr rfl) (pe_cal C_f_law_some hr_f_law_some rfl (takes_of rfl rfl rfl rfl) (pa_cons (pv 1) (pa_cons (pe_lst (pa_cons pe_non (pa_cons (pe_tup (pa_cons pe_int pa_nil)) (pa_cons (pe_tup (pa_cons pe_int (pa_cons pe_bl pa_nil))) (pa_cons (pe_lst (pa_cons pe_int (pa_cons pe_int pa_nil))) (pa_cons (pe_tup (pa_cons pe_int (pa_cons pe_int (pa_cons pe_int pa_nil)))) (pa_cons pe_int pa_nil))))))) pa_nil))))
        (pss_one (ps_if (pt_cmpR (op_neD hr.units) (pe_lam (TT := TTup _ _ (Str.ofString "told") (Str.ofString "nothing")) (q := "law.<locals>.<lambda>") rfl D_f_law_heard sc_f_law_heard rfl (by first | exact Or.inl rfl | exact Or.inr (Or.inl rfl)) (fun _ => tup_gives rfl T.e_Nothing.gl (by decide) (fun _ => rfl)) TB rfl hr_lam rfl (LamX.lamS_by (sc := defScope st_f_law) (by decide +kernel)) rfl (fun _ _ _ _ _ => rfl) (fun A' outer' s' H' E' f' c' hrl => (pe_cal C_f_line_steps (hrl.mono (show 4 ≤ 6 by decide)) rfl (takes_of rfl rfl rfl rfl) (pa_cons (pv 10) (pa_cons (pv 4) pa_nil))))) (pe_tup (pa_cons pe_str pa_nil)) (nomark _)) (pss_one (ps_ret pe_bl)) pss_nil))))))))))))))
        (pss_one (ps_ret pe_bl))))
end
/-! ### the head -/
def hfa : List He.Fa := [.glo "_law_alike", .glo "_law_are_steps", .glo "_law_bag", .glo "_law_fits", .glo "_law_heard", .glo "_law_is_int", .glo "_law_is_spot", .glo "_law_line_steps", .glo "_law_some", .glo "_law_spots", .glo "_law_take", .glo "check_spots", .glo "is_line_steps", .glo "is_near", .glo "is_number", .glo "is_sized", .glo "is_spot", .glo "is_step", .glo "is_steps", .glo "is_tuple_of", .glo "law", .glo "length_of", .glo "line_steps", .glo "nearest", .glo "spot_at", .glo "spots", .free "abs", .free "all", .free "bool", .free "enumerate", .free "int", .free "isinstance", .free "len", .free "list", .free "max", .free "range", .free "repr", .free "tuple", .free "zip", .glo "Nothing", .exc "Nothing", .exm "Nothing" "Nothing" true]
def dn_f_law_alike : He.DefD := ⟨("_law_alike", none), "_law_alike", "_law_alike", defArgs st_f_law_alike, defBody st_f_law_alike, defScope st_f_law_alike, [], []⟩
def dn_f_law_are_steps : He.DefD := ⟨("_law_are_steps", none), "_law_are_steps", "_law_are_steps", defArgs st_f_law_are_steps, defBody st_f_law_are_steps, defScope st_f_law_are_steps, [], []⟩
def dn_f_law_bag : He.DefD := ⟨("_law_bag", none), "_law_bag", "_law_bag", defArgs st_f_law_bag, defBody st_f_law_bag, defScope st_f_law_bag, [], []⟩
def dn_f_law_fits : He.DefD := ⟨("_law_fits", none), "_law_fits", "_law_fits", defArgs st_f_law_fits, defBody st_f_law_fits, defScope st_f_law_fits, [], []⟩
def dn_f_law_heard : He.DefD := ⟨("_law_heard", none), "_law_heard", "_law_heard", defArgs st_f_law_heard, defBody st_f_law_heard, defScope st_f_law_heard, [], []⟩
def dn_f_law_is_int : He.DefD := ⟨("_law_is_int", none), "_law_is_int", "_law_is_int", defArgs st_f_law_is_int, defBody st_f_law_is_int, defScope st_f_law_is_int, [], []⟩
def dn_f_law_is_spot : He.DefD := ⟨("_law_is_spot", none), "_law_is_spot", "_law_is_spot", defArgs st_f_law_is_spot, defBody st_f_law_is_spot, defScope st_f_law_is_spot, [], []⟩
def dn_f_law_line_steps : He.DefD := ⟨("_law_line_steps", none), "_law_line_steps", "_law_line_steps", defArgs st_f_law_line_steps, defBody st_f_law_line_steps, defScope st_f_law_line_steps, [], []⟩
def dn_f_law_some : He.DefD := ⟨("_law_some", none), "_law_some", "_law_some", defArgs st_f_law_some, defBody st_f_law_some, defScope st_f_law_some, [], []⟩
def dn_f_law_spots : He.DefD := ⟨("_law_spots", none), "_law_spots", "_law_spots", defArgs st_f_law_spots, defBody st_f_law_spots, defScope st_f_law_spots, [], []⟩
def dn_f_law_take : He.DefD := ⟨("_law_take", none), "_law_take", "_law_take", defArgs st_f_law_take, defBody st_f_law_take, defScope st_f_law_take, [], []⟩
def dn_f_check_spots : He.DefD := ⟨("check_spots", none), "check_spots", "check_spots", defArgs st_f_check_spots, defBody st_f_check_spots, defScope st_f_check_spots, [], []⟩
def dn_f_is_line_steps : He.DefD := ⟨("is_line_steps", none), "is_line_steps", "is_line_steps", defArgs st_f_is_line_steps, defBody st_f_is_line_steps, defScope st_f_is_line_steps, [], []⟩
def dn_f_is_near : He.DefD := ⟨("is_near", none), "is_near", "is_near", defArgs st_f_is_near, defBody st_f_is_near, defScope st_f_is_near, [], []⟩
def dn_f_is_number : He.DefD := ⟨("is_number", none), "is_number", "is_number", defArgs st_f_is_number, defBody st_f_is_number, defScope st_f_is_number, [], []⟩
def dn_f_is_sized : He.DefD := ⟨("is_sized", none), "is_sized", "is_sized", defArgs st_f_is_sized, defBody st_f_is_sized, defScope st_f_is_sized, [], []⟩
def dn_f_is_spot : He.DefD := ⟨("is_spot", none), "is_spot", "is_spot", defArgs st_f_is_spot, defBody st_f_is_spot, defScope st_f_is_spot, [], []⟩
def dn_f_is_step : He.DefD := ⟨("is_step", none), "is_step", "is_step", defArgs st_f_is_step, defBody st_f_is_step, defScope st_f_is_step, [], []⟩
def dn_f_is_steps : He.DefD := ⟨("is_steps", none), "is_steps", "is_steps", defArgs st_f_is_steps, defBody st_f_is_steps, defScope st_f_is_steps, [], []⟩
def dn_f_is_tuple_of : He.DefD := ⟨("is_tuple_of", none), "is_tuple_of", "is_tuple_of", defArgs st_f_is_tuple_of, defBody st_f_is_tuple_of, defScope st_f_is_tuple_of, [], []⟩
def dn_f_law : He.DefD := ⟨("law", none), "law", "law", defArgs st_f_law, defBody st_f_law, defScope st_f_law, [], []⟩
def dn_f_length_of : He.DefD := ⟨("length_of", none), "length_of", "length_of", defArgs st_f_length_of, defBody st_f_length_of, defScope st_f_length_of, [], []⟩
def dn_f_line_steps : He.DefD := ⟨("line_steps", none), "line_steps", "line_steps", defArgs st_f_line_steps, defBody st_f_line_steps, defScope st_f_line_steps, [], []⟩
def dn_f_nearest : He.DefD := ⟨("nearest", none), "nearest", "nearest", defArgs st_f_nearest, defBody st_f_nearest, defScope st_f_nearest, [], []⟩
def dn_f_spot_at : He.DefD := ⟨("spot_at", none), "spot_at", "spot_at", defArgs st_f_spot_at, defBody st_f_spot_at, defScope st_f_spot_at, [], []⟩
def dn_f_spots : He.DefD := ⟨("spots", none), "spots", "spots", defArgs st_f_spots, defBody st_f_spots, defScope st_f_spots, [], []⟩
def hfn : List He.DefD := [dn_f_law_alike, dn_f_law_are_steps, dn_f_law_bag, dn_f_law_fits, dn_f_law_heard, dn_f_law_is_int, dn_f_law_is_spot, dn_f_law_line_steps, dn_f_law_some, dn_f_law_spots, dn_f_law_take, dn_f_check_spots, dn_f_is_line_steps, dn_f_is_near, dn_f_is_number, dn_f_is_sized, dn_f_is_spot, dn_f_is_step, dn_f_is_steps, dn_f_is_tuple_of, dn_f_law, dn_f_length_of, dn_f_line_steps, dn_f_nearest, dn_f_spot_at, dn_f_spots]
abbrev hR : PySem.W.OpenRow := PySem.W.OpenLaw.row PySem.Challenge.rw_arcshapes_k33_whole_unit_steps_of_lines
def hnames0 : List Str := ["_wall", "ShapeError", "Nothing", "is_number", "is_sized", "is_tuple_of", "is_spot", "is_step", "is_steps", "check_spots", "length_of", "nearest", "spot_at", "line_steps", "spots", "is_near", "is_line_steps", "_law_bag", "_law_take", "_law_some", "_law_alike", "_law_is_int", "_law_line_steps", "_law_spots", "_law_heard", "_law_is_spot", "_law_are_steps", "_law_fits"]
abbrev hnames : List Str := hnames0
abbrev hk : PySem.W.Hook := He.hookX 4 hfa hfn [] [("law", none)] (fun _ => true)
def hob (s : PySem.W.SharedT) : He.AlX := He.obsX 4 hfa hfn [] [("law", none)] (fun _ => true) (HandSHeadRun.getT s)
theorem hob_eq (s : PySem.W.SharedT) : hob s = hk.obs s.abs := He.obsX_eq (HandSHeadRun.getT_eq s)
set_option maxHeartbeats 0 in
theorem hrun (w : World) : HandSHeadRun.RunEq hR (PySem.W.view hR.prog [32]) hk hob 6000 hnames w := by
  intro os
  kernel_rfl
theorem hlaw (plain : ∀ (fa : Str → Addr) (ns : List Int), ns.length ≤ 63 → (∀ z ∈ ns, Builtin.Int.intBits z ≤ 1048576) → ∃ s2, b_f_law fa (lawSs 10 (fa "%tab") "law.<locals>.<lambda>" ns) = .rt (.bool true) s2)
    {prog : Program} {w : World} {K : PySem.W.Frag} {h : Heap} {mg : Str → Option Value} {f : Addr} (X : K.In h) (G : h.Ns mainGlobals mg) (hmg : mg ("law" : Str) = some (.ref f)) (c : He.SaysX hfa hfn [] [("law", none)] (fun _ => true) w h K) : LawIs prog w K h mg f 9 63 := by
  have d := c.t.d
  have T : Txt K mg (He.ga K "Nothing") := ⟨free_at X G d 26 rfl, free_at X G d 27 rfl, free_at X G d 28 rfl, free_at X G d 29 rfl, free_at X G d 30 rfl, free_at X G d 31 rfl, free_at X G d 32 rfl, free_at X G d 33 rfl, free_at X G d 34 rfl, free_at X G d 35 rfl, free_at X G d 36 rfl, free_at X G d 37 rfl, free_at X G d 38 rfl, err_at X G d 39 40 rfl rfl, exm_at d 41 rfl⟩
  refine law_at (lv := 9) (n := 10) (N := N_f_law) X G hmg c 20 20 rfl rfl (fun _ _ _ _ _ _ us hl => match us, hl with | [_], _ => rfl) rfl (fun fd base KX Gb F TB => ?_) (plain (faK K))
  have C_f_is_number := ok_f_is_number (P := prog) (w := w) (base := base) T (def_at X G d (x := "is_number") (st := st_f_is_number) (ps := ["thing"]) 14 14 (by decide) rfl rfl (fun _ _ _ _ _ _ us hl => match us, hl with | [_], _ => rfl))
  have C_f_is_sized := ok_f_is_sized (P := prog) (w := w) (base := base) T (def_at X G d (x := "is_sized") (st := st_f_is_sized) (ps := ["thing", "many"]) 15 15 (by decide) rfl rfl (fun _ _ _ _ _ _ us hl => match us, hl with | [_, _], _ => rfl))
  have C_f_is_spot := ok_f_is_spot (P := prog) (w := w) (base := base) T (def_at X G d (x := "is_spot") (st := st_f_is_spot) (ps := ["thing"]) 16 16 (by decide) rfl rfl (fun _ _ _ _ _ _ us hl => match us, hl with | [_], _ => rfl)) C_f_is_sized C_f_is_number
  have C_f_is_step := ok_f_is_step (P := prog) (w := w) (base := base) T (def_at X G d (x := "is_step") (st := st_f_is_step) (ps := ["thing"]) 17 17 (by decide) rfl rfl (fun _ _ _ _ _ _ us hl => match us, hl with | [_], _ => rfl)) C_f_is_spot
  have C_f_is_tuple_of__f_is_step := ok_f_is_tuple_of__f_is_step (P := prog) (w := w) (base := base) T (def_at X G d (x := "is_tuple_of") (st := st_f_is_tuple_of) (ps := ["thing", "is_one"]) 19 19 (by decide) rfl rfl (fun _ _ _ _ _ _ us hl => match us, hl with | [_, _], _ => rfl)) C_f_is_step
  have C_f_is_steps := ok_f_is_steps (P := prog) (w := w) (base := base) T (def_at X G d (x := "is_steps") (st := st_f_is_steps) (ps := ["thing"]) 18 18 (by decide) rfl rfl (fun _ _ _ _ _ _ us hl => match us, hl with | [_], _ => rfl)) C_f_is_step C_f_is_tuple_of__f_is_step
  have C_f_check_spots := ok_f_check_spots (P := prog) (w := w) (base := base) T (def_at X G d (x := "check_spots") (st := st_f_check_spots) (ps := ["begin", "end"]) 11 11 (by decide) rfl rfl (fun _ _ _ _ _ _ us hl => match us, hl with | [_, _], _ => rfl)) C_f_is_spot
  have C_f_length_of := ok_f_length_of (P := prog) (w := w) (base := base) T (def_at X G d (x := "length_of") (st := st_f_length_of) (ps := ["begin", "end"]) 21 21 (by decide) rfl rfl (fun _ _ _ _ _ _ us hl => match us, hl with | [_, _], _ => rfl))
  have C_f_nearest := ok_f_nearest (P := prog) (w := w) (base := base) T (def_at X G d (x := "nearest") (st := st_f_nearest) (ps := ["n", "d"]) 23 23 (by decide) rfl rfl (fun _ _ _ _ _ _ us hl => match us, hl with | [_, _], _ => rfl))
  have C_f_spot_at := ok_f_spot_at (P := prog) (w := w) (base := base) T (def_at X G d (x := "spot_at") (st := st_f_spot_at) (ps := ["begin", "end", "at"]) 24 24 (by decide) rfl rfl (fun _ _ _ _ _ _ us hl => match us, hl with | [_, _, _], _ => rfl)) C_f_length_of C_f_nearest
  have C_f_line_steps := ok_f_line_steps (P := prog) (w := w) (base := base) T (def_at X G d (x := "line_steps") (st := st_f_line_steps) (ps := ["begin", "end"]) 22 22 (by decide) rfl rfl (fun _ _ _ _ _ _ us hl => match us, hl with | [_, _], _ => rfl)) C_f_check_spots C_f_length_of C_f_spot_at
  have C_f_spots := ok_f_spots (P := prog) (w := w) (base := base) T (def_at X G d (x := "spots") (st := st_f_spots) (ps := ["begin", "steps"]) 25 25 (by decide) rfl rfl (fun _ _ _ _ _ _ us hl => match us, hl with | [_, _], _ => rfl))
  have C_f_is_near := ok_f_is_near (P := prog) (w := w) (base := base) T (def_at X G d (x := "is_near") (st := st_f_is_near) (ps := ["begin", "end", "at", "spot"]) 13 13 (by decide) rfl rfl (fun _ _ _ _ _ _ us hl => match us, hl with | [_, _, _, _], _ => rfl)) C_f_length_of
  have C_f_is_line_steps := ok_f_is_line_steps (P := prog) (w := w) (base := base) T (def_at X G d (x := "is_line_steps") (st := st_f_is_line_steps) (ps := ["begin", "end", "thing"]) 12 12 (by decide) rfl rfl (fun _ _ _ _ _ _ us hl => match us, hl with | [_, _, _], _ => rfl)) C_f_check_spots C_f_is_steps C_f_length_of C_f_spots C_f_is_near
  have C_f_law_bag := ok_f_law_bag (P := prog) (w := w) (base := base) T (def_at X G d (x := "_law_bag") (st := st_f_law_bag) (ps := ["script"]) 2 2 (by decide) rfl rfl (fun _ _ _ _ _ _ us hl => match us, hl with | [_], _ => rfl))
  have C_f_law_take := ok_f_law_take (P := prog) (w := w) (base := base) T (def_at X G d (x := "_law_take") (st := st_f_law_take) (ps := ["bag", "many"]) 10 10 (by decide) rfl rfl (fun _ _ _ _ _ _ us hl => match us, hl with | [_, _], _ => rfl))
  have C_f_law_some := ok_f_law_some (P := prog) (w := w) (base := base) T (def_at X G d (x := "_law_some") (st := st_f_law_some) (ps := ["bag", "things"]) 8 8 (by decide) rfl rfl (fun _ _ _ _ _ _ us hl => match us, hl with | [_, _], _ => rfl)) C_f_law_take
  have C_f_law_alike := ok_f_law_alike (P := prog) (w := w) (base := base) T (def_at X G d (x := "_law_alike") (st := st_f_law_alike) (ps := ["found", "due"]) 0 0 (by decide) rfl rfl (fun _ _ _ _ _ _ us hl => match us, hl with | [_, _], _ => rfl))
  have C_f_law_is_int := ok_f_law_is_int (P := prog) (w := w) (base := base) T (def_at X G d (x := "_law_is_int") (st := st_f_law_is_int) (ps := ["thing"]) 5 5 (by decide) rfl rfl (fun _ _ _ _ _ _ us hl => match us, hl with | [_], _ => rfl))
  have C_f_law_line_steps := ok_f_law_line_steps (P := prog) (w := w) (base := base) T (def_at X G d (x := "_law_line_steps") (st := st_f_law_line_steps) (ps := ["begin", "end"]) 7 7 (by decide) rfl rfl (fun _ _ _ _ _ _ us hl => match us, hl with | [_, _], _ => rfl))
  have C_f_law_spots := ok_f_law_spots (P := prog) (w := w) (base := base) T (def_at X G d (x := "_law_spots") (st := st_f_law_spots) (ps := ["begin", "steps"]) 9 9 (by decide) rfl rfl (fun _ _ _ _ _ _ us hl => match us, hl with | [_, _], _ => rfl))
  have C_f_law_is_spot := ok_f_law_is_spot (P := prog) (w := w) (base := base) T (def_at X G d (x := "_law_is_spot") (st := st_f_law_is_spot) (ps := ["thing"]) 6 6 (by decide) rfl rfl (fun _ _ _ _ _ _ us hl => match us, hl with | [_], _ => rfl)) C_f_law_is_int
  have C_f_law_are_steps := ok_f_law_are_steps (P := prog) (w := w) (base := base) T (def_at X G d (x := "_law_are_steps") (st := st_f_law_are_steps) (ps := ["thing"]) 1 1 (by decide) rfl rfl (fun _ _ _ _ _ _ us hl => match us, hl with | [_], _ => rfl)) C_f_law_is_spot
  have C_f_law_fits := ok_f_law_fits (P := prog) (w := w) (base := base) T (def_at X G d (x := "_law_fits") (st := st_f_law_fits) (ps := ["begin", "end", "thing"]) 3 3 (by decide) rfl rfl (fun _ _ _ _ _ _ us hl => match us, hl with | [_, _, _], _ => rfl)) C_f_law_are_steps C_f_law_spots
  have C_f_law_bag__new := ok_f_law_bag__new (P := prog) (w := w) (base := base) T (def_at X G d (x := "_law_bag") (st := st_f_law_bag) (ps := ["script"]) 2 2 (by decide) rfl rfl (fun _ _ _ _ _ _ us hl => match us, hl with | [_], _ => rfl))
  have D_f_law_heard := def_at X G d (x := "_law_heard") (st := st_f_law_heard) (ps := ["act"]) 4 4 (by decide) rfl rfl (fun _ _ _ _ _ _ us hl => match us, hl with | [_], _ => rfl)
  exact run_law T F TB C_f_law_bag__new C_f_law_take C_f_law_some C_f_law_line_steps C_f_line_steps C_f_law_alike C_f_is_line_steps C_f_spots C_f_is_steps C_f_law_spots C_f_law_fits C_f_law_are_steps D_f_law_heard
end K_k33

namespace K_k33
open PySem L2 Evl RZ PyProof.Rows AX
variable {fa : Str → Addr}
def isI : PyData → Bool
  | .int _ => true
  | _ => false
def isSpot : PyData → Bool
  | .tuple [a, b] => isI a && isI b
  | _ => false
abbrev p2 (a b : Int) : PyData := .tuple [.int a, .int b]
theorem m_num (x : PyData) : m_f_is_number fa [.d x] = .ok (.bool (isI x)) [.d x] := by cases x <;> rfl
theorem m_num2 (x : PyData) : m_f_law_is_int fa [.d x] = .ok (.bool (isI x)) [.d x] := by cases x <;> rfl
def isTwo : PyData → Bool
  | .tuple [_, _] => true
  | _ => false
theorem two_len (xs : List PyData) : decide ((xs.length : Int) = 2) = isTwo (.tuple xs) := by
  match xs with
  | [] => rfl
  | [_] => rfl
  | [_, _] => rfl
  | _ :: _ :: _ :: r =>
    show _ = false
    rw [decide_eq_false_iff_not]
    simp only [List.length_cons]
    omega
theorem m_sized (x : PyData) : m_f_is_sized fa [.d x, .d (.int 2)] = .ok (.bool (isTwo x)) [.d x, .d (.int 2)] := by
  cases x with
  | tuple xs =>
    have e : m_f_is_sized fa [.d (.tuple xs), .d (.int 2)] = (lift (pyEq (.int xs.length) (.int 2)) [Sv.d (.tuple xs), .d (.int 2)]) := by
      rw [pyEq_i]; rfl
    rw [e, pyEq_i, two_len]; rfl
  | _ => rfl
theorem two_of {x : PyData} (h : isTwo x = true) : ∃ a b, x = .tuple [a, b] := by
  unfold isTwo at h
  split at h
  · exact ⟨_, _, rfl⟩
  · cases h
theorem spot_no {x : PyData} (h : isTwo x = false) : isSpot x = false := by
  unfold isTwo at h
  split at h
  · cases h
  · rename_i n
    unfold isSpot
    split
    · exact (n _ _ rfl).elim
    · rfl
theorem m_spot (x : PyData) : m_f_is_spot fa [.d x] = .ok (.bool (isSpot x)) [.d x] := by
  unfold m_f_is_spot fnR b_f_is_spot
  cases h : isTwo x with
  | false =>
    simp only [eC_ap, eV_ap, eOp_ap, eUn_ap, bB_ap, bAnd_ap, bOr_ap, bNot_ap, eAnd_ap, eOr_ap, eNot_ap, eIf_ap, eIsN_ap, lNil_ap, lCons_ap, eTup_ap, nLst_ap, eL_ap, nCat_ap, qR_ap, qN_ap, qV_ap, eLenQ_ap, eCB_ap, eTupleQ_ap, nListQ_ap, eIsi_ap, oNo_ap, oSome_ap, eSl_ap, nSl_ap, eIdxV_ap, iR_ap, iZp_ap, iZp3_ap, iEnA_ap, nComp_ap, sNext_ap, sSeq_ap, sIf_ap, sRet_ap, sDrop_ap, sAsg_ap, sSetN_ap, sRaise_ap, sFor_ap, aNil_ap, aDt_ap, aLk_ap, aFn_ap, eCall_ap, eCallN_ap, fb_nx, fb_rt, fb_ex, bind_ok, bind_ex, bind_no, fl_ok, fl_ex, fl_no, lift_some, lift_none, pySub_i, pyAdd_i, pyMax_i, pyAbs_i, pyLe_i, pyLt_i, pyGt_i, pyGe_i, pyEq_i, pyNe_i, py1, py2, asB, hasV, hasS, idxS, agSv, lks, gN, gT, gsC, gsN, wipeA, rstA, keepD, isFn, List.getElem?_cons_zero, List.getElem?_cons_succ, List.set_cons_zero, List.set_cons_succ, List.length_cons, List.length_nil, List.map_cons, List.map_nil, List.getD_cons_zero, List.getD_cons_succ, List.take_succ_cons, List.take_zero, List.take_nil, List.drop_succ_cons, List.drop_zero, List.drop_nil, List.append_nil, List.nil_append, List.cons_append, Option.bind_some, Option.map_some, Nat.zero_add, Nat.reduceAdd, Nat.reduceSub, Nat.reduceLeDiff, Nat.reduceEqDiff, if_true, if_false, Bool.not_true, Bool.not_false, Bool.true_and, Bool.false_and, Bool.and_true, decide_true, decide_false, List.all_nil, List.all_cons, and_self, and_true, true_and, ite_true, ite_false, reduceIte, List.replicate_zero, List.reduceReplicate, List.nodup_cons, List.nodup_nil, List.mem_cons, List.not_mem_nil, List.mem_singleton, or_false, or_self, not_false_eq_true, not_true_eq_false, wb, chg, isO, Bool.false_eq_true, Nat.reduceEqDiff, Nat.one_ne_zero, idx0, idx1, idx2, idx3, ix4_0, ix4_1, sPut_ap, pyIdx_l, pyIdx_t, Bool.or_false, Bool.or_true, Bool.true_or, Bool.false_or, beq_self_eq_true, m_sized, h, spot_no h]
  | true =>
    obtain ⟨a, b, rfl⟩ := two_of h
    cases ha : isI a with
    | false =>
      simp only [eC_ap, eV_ap, eOp_ap, eUn_ap, bB_ap, bAnd_ap, bOr_ap, bNot_ap, eAnd_ap, eOr_ap, eNot_ap, eIf_ap, eIsN_ap, lNil_ap, lCons_ap, eTup_ap, nLst_ap, eL_ap, nCat_ap, qR_ap, qN_ap, qV_ap, eLenQ_ap, eCB_ap, eTupleQ_ap, nListQ_ap, eIsi_ap, oNo_ap, oSome_ap, eSl_ap, nSl_ap, eIdxV_ap, iR_ap, iZp_ap, iZp3_ap, iEnA_ap, nComp_ap, sNext_ap, sSeq_ap, sIf_ap, sRet_ap, sDrop_ap, sAsg_ap, sSetN_ap, sRaise_ap, sFor_ap, aNil_ap, aDt_ap, aLk_ap, aFn_ap, eCall_ap, eCallN_ap, fb_nx, fb_rt, fb_ex, bind_ok, bind_ex, bind_no, fl_ok, fl_ex, fl_no, lift_some, lift_none, pySub_i, pyAdd_i, pyMax_i, pyAbs_i, pyLe_i, pyLt_i, pyGt_i, pyGe_i, pyEq_i, pyNe_i, py1, py2, asB, hasV, hasS, idxS, agSv, lks, gN, gT, gsC, gsN, wipeA, rstA, keepD, isFn, List.getElem?_cons_zero, List.getElem?_cons_succ, List.set_cons_zero, List.set_cons_succ, List.length_cons, List.length_nil, List.map_cons, List.map_nil, List.getD_cons_zero, List.getD_cons_succ, List.take_succ_cons, List.take_zero, List.take_nil, List.drop_succ_cons, List.drop_zero, List.drop_nil, List.append_nil, List.nil_append, List.cons_append, Option.bind_some, Option.map_some, Nat.zero_add, Nat.reduceAdd, Nat.reduceSub, Nat.reduceLeDiff, Nat.reduceEqDiff, if_true, if_false, Bool.not_true, Bool.not_false, Bool.true_and, Bool.false_and, Bool.and_true, decide_true, decide_false, List.all_nil, List.all_cons, and_self, and_true, true_and, ite_true, ite_false, reduceIte, List.replicate_zero, List.reduceReplicate, List.nodup_cons, List.nodup_nil, List.mem_cons, List.not_mem_nil, List.mem_singleton, or_false, or_self, not_false_eq_true, not_true_eq_false, wb, chg, isO, Bool.false_eq_true, Nat.reduceEqDiff, Nat.one_ne_zero, idx0, idx1, idx2, idx3, ix4_0, ix4_1, sPut_ap, pyIdx_l, pyIdx_t, Bool.or_false, Bool.or_true, Bool.true_or, Bool.false_or, beq_self_eq_true, m_sized, h, m_num, isSpot, ha]
    | true =>
      simp only [eC_ap, eV_ap, eOp_ap, eUn_ap, bB_ap, bAnd_ap, bOr_ap, bNot_ap, eAnd_ap, eOr_ap, eNot_ap, eIf_ap, eIsN_ap, lNil_ap, lCons_ap, eTup_ap, nLst_ap, eL_ap, nCat_ap, qR_ap, qN_ap, qV_ap, eLenQ_ap, eCB_ap, eTupleQ_ap, nListQ_ap, eIsi_ap, oNo_ap, oSome_ap, eSl_ap, nSl_ap, eIdxV_ap, iR_ap, iZp_ap, iZp3_ap, iEnA_ap, nComp_ap, sNext_ap, sSeq_ap, sIf_ap, sRet_ap, sDrop_ap, sAsg_ap, sSetN_ap, sRaise_ap, sFor_ap, aNil_ap, aDt_ap, aLk_ap, aFn_ap, eCall_ap, eCallN_ap, fb_nx, fb_rt, fb_ex, bind_ok, bind_ex, bind_no, fl_ok, fl_ex, fl_no, lift_some, lift_none, pySub_i, pyAdd_i, pyMax_i, pyAbs_i, pyLe_i, pyLt_i, pyGt_i, pyGe_i, pyEq_i, pyNe_i, py1, py2, asB, hasV, hasS, idxS, agSv, lks, gN, gT, gsC, gsN, wipeA, rstA, keepD, isFn, List.getElem?_cons_zero, List.getElem?_cons_succ, List.set_cons_zero, List.set_cons_succ, List.length_cons, List.length_nil, List.map_cons, List.map_nil, List.getD_cons_zero, List.getD_cons_succ, List.take_succ_cons, List.take_zero, List.take_nil, List.drop_succ_cons, List.drop_zero, List.drop_nil, List.append_nil, List.nil_append, List.cons_append, Option.bind_some, Option.map_some, Nat.zero_add, Nat.reduceAdd, Nat.reduceSub, Nat.reduceLeDiff, Nat.reduceEqDiff, if_true, if_false, Bool.not_true, Bool.not_false, Bool.true_and, Bool.false_and, Bool.and_true, decide_true, decide_false, List.all_nil, List.all_cons, and_self, and_true, true_and, ite_true, ite_false, reduceIte, List.replicate_zero, List.reduceReplicate, List.nodup_cons, List.nodup_nil, List.mem_cons, List.not_mem_nil, List.mem_singleton, or_false, or_self, not_false_eq_true, not_true_eq_false, wb, chg, isO, Bool.false_eq_true, Nat.reduceEqDiff, Nat.one_ne_zero, idx0, idx1, idx2, idx3, ix4_0, ix4_1, sPut_ap, pyIdx_l, pyIdx_t, Bool.or_false, Bool.or_true, Bool.true_or, Bool.false_or, beq_self_eq_true, m_sized, h, m_num, isSpot, ha]
theorem m_spot2 (x : PyData) : m_f_law_is_spot fa [.d x] = .ok (.bool (isSpot x)) [.d x] := by
  cases x with
  | tuple xs =>
    cases h : isTwo (.tuple xs) with
    | false =>
      unfold m_f_law_is_spot fnR b_f_law_is_spot
      have k : kitB (tyN (.tuple xs)) "tuple" = some true := rfl
      have l : pyLen (.tuple xs) = some (.int xs.length) := rfl
      simp only [eC_ap, eV_ap, eOp_ap, eUn_ap, bB_ap, bAnd_ap, bOr_ap, bNot_ap, eAnd_ap, eOr_ap, eNot_ap, eIf_ap, eIsN_ap, lNil_ap, lCons_ap, eTup_ap, nLst_ap, eL_ap, nCat_ap, qR_ap, qN_ap, qV_ap, eLenQ_ap, eCB_ap, eTupleQ_ap, nListQ_ap, eIsi_ap, oNo_ap, oSome_ap, eSl_ap, nSl_ap, eIdxV_ap, iR_ap, iZp_ap, iZp3_ap, iEnA_ap, nComp_ap, sNext_ap, sSeq_ap, sIf_ap, sRet_ap, sDrop_ap, sAsg_ap, sSetN_ap, sRaise_ap, sFor_ap, aNil_ap, aDt_ap, aLk_ap, aFn_ap, eCall_ap, eCallN_ap, fb_nx, fb_rt, fb_ex, bind_ok, bind_ex, bind_no, fl_ok, fl_ex, fl_no, lift_some, lift_none, pySub_i, pyAdd_i, pyMax_i, pyAbs_i, pyLe_i, pyLt_i, pyGt_i, pyGe_i, pyEq_i, pyNe_i, py1, py2, asB, hasV, hasS, idxS, agSv, lks, gN, gT, gsC, gsN, wipeA, rstA, keepD, isFn, List.getElem?_cons_zero, List.getElem?_cons_succ, List.set_cons_zero, List.set_cons_succ, List.length_cons, List.length_nil, List.map_cons, List.map_nil, List.getD_cons_zero, List.getD_cons_succ, List.take_succ_cons, List.take_zero, List.take_nil, List.drop_succ_cons, List.drop_zero, List.drop_nil, List.append_nil, List.nil_append, List.cons_append, Option.bind_some, Option.map_some, Nat.zero_add, Nat.reduceAdd, Nat.reduceSub, Nat.reduceLeDiff, Nat.reduceEqDiff, if_true, if_false, Bool.not_true, Bool.not_false, Bool.true_and, Bool.false_and, Bool.and_true, decide_true, decide_false, List.all_nil, List.all_cons, and_self, and_true, true_and, ite_true, ite_false, reduceIte, List.replicate_zero, List.reduceReplicate, List.nodup_cons, List.nodup_nil, List.mem_cons, List.not_mem_nil, List.mem_singleton, or_false, or_self, not_false_eq_true, not_true_eq_false, wb, chg, isO, Bool.false_eq_true, Nat.reduceEqDiff, Nat.one_ne_zero, idx0, idx1, idx2, idx3, ix4_0, ix4_1, sPut_ap, pyIdx_l, pyIdx_t, Bool.or_false, Bool.or_true, Bool.true_or, Bool.false_or, beq_self_eq_true, k, l, two_len, h, spot_no h]
    | true =>
      obtain ⟨a, b, e⟩ := two_of h
      cases e
      unfold m_f_law_is_spot fnR b_f_law_is_spot
      have k : kitB (tyN (.tuple [a, b])) "tuple" = some true := rfl
      have l : pyLen (.tuple [a, b]) = some (.int 2) := rfl
      cases ha : isI a with
      | false =>
        simp only [eC_ap, eV_ap, eOp_ap, eUn_ap, bB_ap, bAnd_ap, bOr_ap, bNot_ap, eAnd_ap, eOr_ap, eNot_ap, eIf_ap, eIsN_ap, lNil_ap, lCons_ap, eTup_ap, nLst_ap, eL_ap, nCat_ap, qR_ap, qN_ap, qV_ap, eLenQ_ap, eCB_ap, eTupleQ_ap, nListQ_ap, eIsi_ap, oNo_ap, oSome_ap, eSl_ap, nSl_ap, eIdxV_ap, iR_ap, iZp_ap, iZp3_ap, iEnA_ap, nComp_ap, sNext_ap, sSeq_ap, sIf_ap, sRet_ap, sDrop_ap, sAsg_ap, sSetN_ap, sRaise_ap, sFor_ap, aNil_ap, aDt_ap, aLk_ap, aFn_ap, eCall_ap, eCallN_ap, fb_nx, fb_rt, fb_ex, bind_ok, bind_ex, bind_no, fl_ok, fl_ex, fl_no, lift_some, lift_none, pySub_i, pyAdd_i, pyMax_i, pyAbs_i, pyLe_i, pyLt_i, pyGt_i, pyGe_i, pyEq_i, pyNe_i, py1, py2, asB, hasV, hasS, idxS, agSv, lks, gN, gT, gsC, gsN, wipeA, rstA, keepD, isFn, List.getElem?_cons_zero, List.getElem?_cons_succ, List.set_cons_zero, List.set_cons_succ, List.length_cons, List.length_nil, List.map_cons, List.map_nil, List.getD_cons_zero, List.getD_cons_succ, List.take_succ_cons, List.take_zero, List.take_nil, List.drop_succ_cons, List.drop_zero, List.drop_nil, List.append_nil, List.nil_append, List.cons_append, Option.bind_some, Option.map_some, Nat.zero_add, Nat.reduceAdd, Nat.reduceSub, Nat.reduceLeDiff, Nat.reduceEqDiff, if_true, if_false, Bool.not_true, Bool.not_false, Bool.true_and, Bool.false_and, Bool.and_true, decide_true, decide_false, List.all_nil, List.all_cons, and_self, and_true, true_and, ite_true, ite_false, reduceIte, List.replicate_zero, List.reduceReplicate, List.nodup_cons, List.nodup_nil, List.mem_cons, List.not_mem_nil, List.mem_singleton, or_false, or_self, not_false_eq_true, not_true_eq_false, wb, chg, isO, Bool.false_eq_true, Nat.reduceEqDiff, Nat.one_ne_zero, idx0, idx1, idx2, idx3, ix4_0, ix4_1, sPut_ap, pyIdx_l, pyIdx_t, Bool.or_false, Bool.or_true, Bool.true_or, Bool.false_or, beq_self_eq_true, k, l, m_num2, isSpot, ha]
      | true =>
        simp only [eC_ap, eV_ap, eOp_ap, eUn_ap, bB_ap, bAnd_ap, bOr_ap, bNot_ap, eAnd_ap, eOr_ap, eNot_ap, eIf_ap, eIsN_ap, lNil_ap, lCons_ap, eTup_ap, nLst_ap, eL_ap, nCat_ap, qR_ap, qN_ap, qV_ap, eLenQ_ap, eCB_ap, eTupleQ_ap, nListQ_ap, eIsi_ap, oNo_ap, oSome_ap, eSl_ap, nSl_ap, eIdxV_ap, iR_ap, iZp_ap, iZp3_ap, iEnA_ap, nComp_ap, sNext_ap, sSeq_ap, sIf_ap, sRet_ap, sDrop_ap, sAsg_ap, sSetN_ap, sRaise_ap, sFor_ap, aNil_ap, aDt_ap, aLk_ap, aFn_ap, eCall_ap, eCallN_ap, fb_nx, fb_rt, fb_ex, bind_ok, bind_ex, bind_no, fl_ok, fl_ex, fl_no, lift_some, lift_none, pySub_i, pyAdd_i, pyMax_i, pyAbs_i, pyLe_i, pyLt_i, pyGt_i, pyGe_i, pyEq_i, pyNe_i, py1, py2, asB, hasV, hasS, idxS, agSv, lks, gN, gT, gsC, gsN, wipeA, rstA, keepD, isFn, List.getElem?_cons_zero, List.getElem?_cons_succ, List.set_cons_zero, List.set_cons_succ, List.length_cons, List.length_nil, List.map_cons, List.map_nil, List.getD_cons_zero, List.getD_cons_succ, List.take_succ_cons, List.take_zero, List.take_nil, List.drop_succ_cons, List.drop_zero, List.drop_nil, List.append_nil, List.nil_append, List.cons_append, Option.bind_some, Option.map_some, Nat.zero_add, Nat.reduceAdd, Nat.reduceSub, Nat.reduceLeDiff, Nat.reduceEqDiff, if_true, if_false, Bool.not_true, Bool.not_false, Bool.true_and, Bool.false_and, Bool.and_true, decide_true, decide_false, List.all_nil, List.all_cons, and_self, and_true, true_and, ite_true, ite_false, reduceIte, List.replicate_zero, List.reduceReplicate, List.nodup_cons, List.nodup_nil, List.mem_cons, List.not_mem_nil, List.mem_singleton, or_false, or_self, not_false_eq_true, not_true_eq_false, wb, chg, isO, Bool.false_eq_true, Nat.reduceEqDiff, Nat.one_ne_zero, idx0, idx1, idx2, idx3, ix4_0, ix4_1, sPut_ap, pyIdx_l, pyIdx_t, Bool.or_false, Bool.or_true, Bool.true_or, Bool.false_or, beq_self_eq_true, k, l, m_num2, isSpot, ha]
  | _ => rfl
theorem spot_of {x : PyData} (h : isSpot x = true) : ∃ a b, x = p2 a b := by
  unfold isSpot at h
  split at h
  · rename_i a b
    cases a <;> cases b <;> simp [isI] at h
    exact ⟨_, _, rfl⟩
  · cases h
theorem spot_p2 (a b : Int) : isSpot (p2 a b) = true := rfl
def stp (a b : Int) : Bool := decide (max (a.natAbs : Int) b.natAbs = 1)
def isStep : PyData → Bool
  | .tuple [.int a, .int b] => stp a b
  | _ => false
theorem step_no {x : PyData} (h : isSpot x = false) : isStep x = false := by
  unfold isStep
  split
  · cases h
  · rfl
theorem m_step (x : PyData) : m_f_is_step fa [.d x] = .ok (.bool (isStep x)) [.d x] := by
  unfold m_f_is_step fnR b_f_is_step
  cases h : isSpot x with
  | false =>
    simp only [eC_ap, eV_ap, eOp_ap, eUn_ap, bB_ap, bAnd_ap, bOr_ap, bNot_ap, eAnd_ap, eOr_ap, eNot_ap, eIf_ap, eIsN_ap, lNil_ap, lCons_ap, eTup_ap, nLst_ap, eL_ap, nCat_ap, qR_ap, qN_ap, qV_ap, eLenQ_ap, eCB_ap, eTupleQ_ap, nListQ_ap, eIsi_ap, oNo_ap, oSome_ap, eSl_ap, nSl_ap, eIdxV_ap, iR_ap, iZp_ap, iZp3_ap, iEnA_ap, nComp_ap, sNext_ap, sSeq_ap, sIf_ap, sRet_ap, sDrop_ap, sAsg_ap, sSetN_ap, sRaise_ap, sFor_ap, aNil_ap, aDt_ap, aLk_ap, aFn_ap, eCall_ap, eCallN_ap, fb_nx, fb_rt, fb_ex, bind_ok, bind_ex, bind_no, fl_ok, fl_ex, fl_no, lift_some, lift_none, pySub_i, pyAdd_i, pyMax_i, pyAbs_i, pyLe_i, pyLt_i, pyGt_i, pyGe_i, pyEq_i, pyNe_i, py1, py2, asB, hasV, hasS, idxS, agSv, lks, gN, gT, gsC, gsN, wipeA, rstA, keepD, isFn, List.getElem?_cons_zero, List.getElem?_cons_succ, List.set_cons_zero, List.set_cons_succ, List.length_cons, List.length_nil, List.map_cons, List.map_nil, List.getD_cons_zero, List.getD_cons_succ, List.take_succ_cons, List.take_zero, List.take_nil, List.drop_succ_cons, List.drop_zero, List.drop_nil, List.append_nil, List.nil_append, List.cons_append, Option.bind_some, Option.map_some, Nat.zero_add, Nat.reduceAdd, Nat.reduceSub, Nat.reduceLeDiff, Nat.reduceEqDiff, if_true, if_false, Bool.not_true, Bool.not_false, Bool.true_and, Bool.false_and, Bool.and_true, decide_true, decide_false, List.all_nil, List.all_cons, and_self, and_true, true_and, ite_true, ite_false, reduceIte, List.replicate_zero, List.reduceReplicate, List.nodup_cons, List.nodup_nil, List.mem_cons, List.not_mem_nil, List.mem_singleton, or_false, or_self, not_false_eq_true, not_true_eq_false, wb, chg, isO, Bool.false_eq_true, Nat.reduceEqDiff, Nat.one_ne_zero, idx0, idx1, idx2, idx3, ix4_0, ix4_1, sPut_ap, pyIdx_l, pyIdx_t, Bool.or_false, Bool.or_true, Bool.true_or, Bool.false_or, beq_self_eq_true, m_spot, h, step_no h]
  | true =>
    obtain ⟨a, b, rfl⟩ := spot_of h
    simp only [eC_ap, eV_ap, eOp_ap, eUn_ap, bB_ap, bAnd_ap, bOr_ap, bNot_ap, eAnd_ap, eOr_ap, eNot_ap, eIf_ap, eIsN_ap, lNil_ap, lCons_ap, eTup_ap, nLst_ap, eL_ap, nCat_ap, qR_ap, qN_ap, qV_ap, eLenQ_ap, eCB_ap, eTupleQ_ap, nListQ_ap, eIsi_ap, oNo_ap, oSome_ap, eSl_ap, nSl_ap, eIdxV_ap, iR_ap, iZp_ap, iZp3_ap, iEnA_ap, nComp_ap, sNext_ap, sSeq_ap, sIf_ap, sRet_ap, sDrop_ap, sAsg_ap, sSetN_ap, sRaise_ap, sFor_ap, aNil_ap, aDt_ap, aLk_ap, aFn_ap, eCall_ap, eCallN_ap, fb_nx, fb_rt, fb_ex, bind_ok, bind_ex, bind_no, fl_ok, fl_ex, fl_no, lift_some, lift_none, pySub_i, pyAdd_i, pyMax_i, pyAbs_i, pyLe_i, pyLt_i, pyGt_i, pyGe_i, pyEq_i, pyNe_i, py1, py2, asB, hasV, hasS, idxS, agSv, lks, gN, gT, gsC, gsN, wipeA, rstA, keepD, isFn, List.getElem?_cons_zero, List.getElem?_cons_succ, List.set_cons_zero, List.set_cons_succ, List.length_cons, List.length_nil, List.map_cons, List.map_nil, List.getD_cons_zero, List.getD_cons_succ, List.take_succ_cons, List.take_zero, List.take_nil, List.drop_succ_cons, List.drop_zero, List.drop_nil, List.append_nil, List.nil_append, List.cons_append, Option.bind_some, Option.map_some, Nat.zero_add, Nat.reduceAdd, Nat.reduceSub, Nat.reduceLeDiff, Nat.reduceEqDiff, if_true, if_false, Bool.not_true, Bool.not_false, Bool.true_and, Bool.false_and, Bool.and_true, decide_true, decide_false, List.all_nil, List.all_cons, and_self, and_true, true_and, ite_true, ite_false, reduceIte, List.replicate_zero, List.reduceReplicate, List.nodup_cons, List.nodup_nil, List.mem_cons, List.not_mem_nil, List.mem_singleton, or_false, or_self, not_false_eq_true, not_true_eq_false, wb, chg, isO, Bool.false_eq_true, Nat.reduceEqDiff, Nat.one_ne_zero, idx0, idx1, idx2, idx3, ix4_0, ix4_1, sPut_ap, pyIdx_l, pyIdx_t, Bool.or_false, Bool.or_true, Bool.true_or, Bool.false_or, beq_self_eq_true, m_spot, h, isStep, stp]
def isSteps : PyData → Bool
  | .tuple xs => xs.all isStep
  | _ => false
theorem asBs_map {α : Type} (f : α → Bool) : ∀ l : List α, asBs (l.map fun x => .bool (f x)) = some (l.map f)
  | [] => rfl
  | x :: r => by
    show (asBs (r.map fun x => .bool (f x))).map (f x :: ·) = _
    rw [asBs_map f r]; rfl
theorem tuple_kit (xs : List PyData) : kitB (tyN (.tuple xs)) "tuple" = some true := rfl
theorem m_steps0 (x : PyData) (hx : ∀ xs, x = .tuple xs → xs.length ≤ sizeLine) : m_f_is_tuple_of__f_is_step fa [.d x, .fn (fa "is_step")] = .ok (.bool (isSteps x)) [.d x, .fn (fa "is_step")] := by
  cases x with
  | tuple xs =>
    unfold m_f_is_tuple_of__f_is_step fnR b_f_is_tuple_of__f_is_step
    have so : seqOf (.tuple xs) = some (false, xs) := rfl
    have c := compR_map (vs := [2]) (tg := gN 2) (rc := fun ss => .ok true ss) (re := eCallL 1 (fa "is_step") 1 (m_f_is_step fa) (aLk 2 aNil)) (ss := [.d (.tuple xs), .fn (fa "is_step"), .un]) (fun y : PyData => y) (fun y => .bool (isStep y)) (fun _ => True)
      (fun y _ => ⟨[.d (.tuple xs), .fn (fa "is_step"), .d y], [.d (.tuple xs), .fn (fa "is_step"), .d y], [.d (.tuple xs), .fn (fa "is_step"), .d y], rfl, rfl, by
        have i : isFn (fa "is_step") (some (.fn (fa "is_step"))) = true := decide_eq_true rfl
        show (if isFn (fa "is_step") (some (.fn (fa "is_step"))) = true then _ else _) = _
        rw [i]
        simp only [eC_ap, eV_ap, eOp_ap, eUn_ap, bB_ap, bAnd_ap, bOr_ap, bNot_ap, eAnd_ap, eOr_ap, eNot_ap, eIf_ap, eIsN_ap, lNil_ap, lCons_ap, eTup_ap, nLst_ap, eL_ap, nCat_ap, qR_ap, qN_ap, qV_ap, eLenQ_ap, eCB_ap, eTupleQ_ap, nListQ_ap, eIsi_ap, oNo_ap, oSome_ap, eSl_ap, nSl_ap, eIdxV_ap, iR_ap, iZp_ap, iZp3_ap, iEnA_ap, nComp_ap, sNext_ap, sSeq_ap, sIf_ap, sRet_ap, sDrop_ap, sAsg_ap, sSetN_ap, sRaise_ap, sFor_ap, aNil_ap, aDt_ap, aLk_ap, aFn_ap, eCall_ap, eCallN_ap, fb_nx, fb_rt, fb_ex, bind_ok, bind_ex, bind_no, fl_ok, fl_ex, fl_no, lift_some, lift_none, pySub_i, pyAdd_i, pyMax_i, pyAbs_i, pyLe_i, pyLt_i, pyGt_i, pyGe_i, pyEq_i, pyNe_i, py1, py2, asB, hasV, hasS, idxS, agSv, lks, gN, gT, gsC, gsN, wipeA, rstA, keepD, isFn, List.getElem?_cons_zero, List.getElem?_cons_succ, List.set_cons_zero, List.set_cons_succ, List.length_cons, List.length_nil, List.map_cons, List.map_nil, List.getD_cons_zero, List.getD_cons_succ, List.take_succ_cons, List.take_zero, List.take_nil, List.drop_succ_cons, List.drop_zero, List.drop_nil, List.append_nil, List.nil_append, List.cons_append, Option.bind_some, Option.map_some, Nat.zero_add, Nat.reduceAdd, Nat.reduceSub, Nat.reduceLeDiff, Nat.reduceEqDiff, if_true, if_false, Bool.not_true, Bool.not_false, Bool.true_and, Bool.false_and, Bool.and_true, decide_true, decide_false, List.all_nil, List.all_cons, and_self, and_true, true_and, ite_true, ite_false, reduceIte, List.replicate_zero, List.reduceReplicate, List.nodup_cons, List.nodup_nil, List.mem_cons, List.not_mem_nil, List.mem_singleton, or_false, or_self, not_false_eq_true, not_true_eq_false, wb, chg, isO, Bool.false_eq_true, Nat.reduceEqDiff, Nat.one_ne_zero, idx0, idx1, idx2, idx3, ix4_0, ix4_1, sPut_ap, pyIdx_l, pyIdx_t, Bool.or_false, Bool.or_true, Bool.true_or, Bool.false_or, beq_self_eq_true, m_step], rfl⟩) xs [] (fun _ _ => trivial) (by rw [List.length_nil, Nat.zero_add]; exact hx xs rfl)
    rw [List.map_id'] at c
    simp only [eC_ap, eV_ap, eOp_ap, eUn_ap, bB_ap, bAnd_ap, bOr_ap, bNot_ap, eAnd_ap, eOr_ap, eNot_ap, eIf_ap, eIsN_ap, lNil_ap, lCons_ap, eTup_ap, nLst_ap, eL_ap, nCat_ap, qR_ap, qN_ap, qV_ap, eLenQ_ap, eCB_ap, eTupleQ_ap, nListQ_ap, eIsi_ap, oNo_ap, oSome_ap, eSl_ap, nSl_ap, eIdxV_ap, iR_ap, iZp_ap, iZp3_ap, iEnA_ap, nComp_ap, sNext_ap, sSeq_ap, sIf_ap, sRet_ap, sDrop_ap, sAsg_ap, sSetN_ap, sRaise_ap, sFor_ap, aNil_ap, aDt_ap, aLk_ap, aFn_ap, eCall_ap, eCallN_ap, fb_nx, fb_rt, fb_ex, bind_ok, bind_ex, bind_no, fl_ok, fl_ex, fl_no, lift_some, lift_none, pySub_i, pyAdd_i, pyMax_i, pyAbs_i, pyLe_i, pyLt_i, pyGt_i, pyGe_i, pyEq_i, pyNe_i, py1, py2, asB, hasV, hasS, idxS, agSv, lks, gN, gT, gsC, gsN, wipeA, rstA, keepD, isFn, List.getElem?_cons_zero, List.getElem?_cons_succ, List.set_cons_zero, List.set_cons_succ, List.length_cons, List.length_nil, List.map_cons, List.map_nil, List.getD_cons_zero, List.getD_cons_succ, List.take_succ_cons, List.take_zero, List.take_nil, List.drop_succ_cons, List.drop_zero, List.drop_nil, List.append_nil, List.nil_append, List.cons_append, Option.bind_some, Option.map_some, Nat.zero_add, Nat.reduceAdd, Nat.reduceSub, Nat.reduceLeDiff, Nat.reduceEqDiff, if_true, if_false, Bool.not_true, Bool.not_false, Bool.true_and, Bool.false_and, Bool.and_true, decide_true, decide_false, List.all_nil, List.all_cons, and_self, and_true, true_and, ite_true, ite_false, reduceIte, List.replicate_zero, List.reduceReplicate, List.nodup_cons, List.nodup_nil, List.mem_cons, List.not_mem_nil, List.mem_singleton, or_false, or_self, not_false_eq_true, not_true_eq_false, wb, chg, isO, Bool.false_eq_true, Nat.reduceEqDiff, Nat.one_ne_zero, idx0, idx1, idx2, idx3, ix4_0, ix4_1, sPut_ap, pyIdx_l, pyIdx_t, Bool.or_false, Bool.or_true, Bool.true_or, Bool.false_or, beq_self_eq_true, tuple_kit, so, c, asBs_map, isSteps]
    rw [eAllQ_ap]
    simp only [eC_ap, eV_ap, eOp_ap, eUn_ap, bB_ap, bAnd_ap, bOr_ap, bNot_ap, eAnd_ap, eOr_ap, eNot_ap, eIf_ap, eIsN_ap, lNil_ap, lCons_ap, eTup_ap, nLst_ap, eL_ap, nCat_ap, qR_ap, qN_ap, qV_ap, eLenQ_ap, eCB_ap, eTupleQ_ap, nListQ_ap, eIsi_ap, oNo_ap, oSome_ap, eSl_ap, nSl_ap, eIdxV_ap, iR_ap, iZp_ap, iZp3_ap, iEnA_ap, nComp_ap, sNext_ap, sSeq_ap, sIf_ap, sRet_ap, sDrop_ap, sAsg_ap, sSetN_ap, sRaise_ap, sFor_ap, aNil_ap, aDt_ap, aLk_ap, aFn_ap, eCall_ap, eCallN_ap, fb_nx, fb_rt, fb_ex, bind_ok, bind_ex, bind_no, fl_ok, fl_ex, fl_no, lift_some, lift_none, pySub_i, pyAdd_i, pyMax_i, pyAbs_i, pyLe_i, pyLt_i, pyGt_i, pyGe_i, pyEq_i, pyNe_i, py1, py2, asB, hasV, hasS, idxS, agSv, lks, gN, gT, gsC, gsN, wipeA, rstA, keepD, isFn, List.getElem?_cons_zero, List.getElem?_cons_succ, List.set_cons_zero, List.set_cons_succ, List.length_cons, List.length_nil, List.map_cons, List.map_nil, List.getD_cons_zero, List.getD_cons_succ, List.take_succ_cons, List.take_zero, List.take_nil, List.drop_succ_cons, List.drop_zero, List.drop_nil, List.append_nil, List.nil_append, List.cons_append, Option.bind_some, Option.map_some, Nat.zero_add, Nat.reduceAdd, Nat.reduceSub, Nat.reduceLeDiff, Nat.reduceEqDiff, if_true, if_false, Bool.not_true, Bool.not_false, Bool.true_and, Bool.false_and, Bool.and_true, decide_true, decide_false, List.all_nil, List.all_cons, and_self, and_true, true_and, ite_true, ite_false, reduceIte, List.replicate_zero, List.reduceReplicate, List.nodup_cons, List.nodup_nil, List.mem_cons, List.not_mem_nil, List.mem_singleton, or_false, or_self, not_false_eq_true, not_true_eq_false, wb, chg, isO, Bool.false_eq_true, Nat.reduceEqDiff, Nat.one_ne_zero, idx0, idx1, idx2, idx3, ix4_0, ix4_1, sPut_ap, pyIdx_l, pyIdx_t, Bool.or_false, Bool.or_true, Bool.true_or, Bool.false_or, beq_self_eq_true, tuple_kit, so, c, asBs_map, isSteps]
    rw [List.all_map]
    rfl
  | _ => rfl
theorem m_steps (x : PyData) (hx : ∀ xs, x = .tuple xs → xs.length ≤ sizeLine) : m_f_is_steps fa [.d x] = .ok (.bool (isSteps x)) [.d x] := by
  unfold m_f_is_steps fnR b_f_is_steps
  simp only [eC_ap, eV_ap, eOp_ap, eUn_ap, bB_ap, bAnd_ap, bOr_ap, bNot_ap, eAnd_ap, eOr_ap, eNot_ap, eIf_ap, eIsN_ap, lNil_ap, lCons_ap, eTup_ap, nLst_ap, eL_ap, nCat_ap, qR_ap, qN_ap, qV_ap, eLenQ_ap, eCB_ap, eTupleQ_ap, nListQ_ap, eIsi_ap, oNo_ap, oSome_ap, eSl_ap, nSl_ap, eIdxV_ap, iR_ap, iZp_ap, iZp3_ap, iEnA_ap, nComp_ap, sNext_ap, sSeq_ap, sIf_ap, sRet_ap, sDrop_ap, sAsg_ap, sSetN_ap, sRaise_ap, sFor_ap, aNil_ap, aDt_ap, aLk_ap, aFn_ap, eCall_ap, eCallN_ap, fb_nx, fb_rt, fb_ex, bind_ok, bind_ex, bind_no, fl_ok, fl_ex, fl_no, lift_some, lift_none, pySub_i, pyAdd_i, pyMax_i, pyAbs_i, pyLe_i, pyLt_i, pyGt_i, pyGe_i, pyEq_i, pyNe_i, py1, py2, asB, hasV, hasS, idxS, agSv, lks, gN, gT, gsC, gsN, wipeA, rstA, keepD, isFn, List.getElem?_cons_zero, List.getElem?_cons_succ, List.set_cons_zero, List.set_cons_succ, List.length_cons, List.length_nil, List.map_cons, List.map_nil, List.getD_cons_zero, List.getD_cons_succ, List.take_succ_cons, List.take_zero, List.take_nil, List.drop_succ_cons, List.drop_zero, List.drop_nil, List.append_nil, List.nil_append, List.cons_append, Option.bind_some, Option.map_some, Nat.zero_add, Nat.reduceAdd, Nat.reduceSub, Nat.reduceLeDiff, Nat.reduceEqDiff, if_true, if_false, Bool.not_true, Bool.not_false, Bool.true_and, Bool.false_and, Bool.and_true, decide_true, decide_false, List.all_nil, List.all_cons, and_self, and_true, true_and, ite_true, ite_false, reduceIte, List.replicate_zero, List.reduceReplicate, List.nodup_cons, List.nodup_nil, List.mem_cons, List.not_mem_nil, List.mem_singleton, or_false, or_self, not_false_eq_true, not_true_eq_false, wb, chg, isO, Bool.false_eq_true, Nat.reduceEqDiff, Nat.one_ne_zero, idx0, idx1, idx2, idx3, ix4_0, ix4_1, sPut_ap, pyIdx_l, pyIdx_t, Bool.or_false, Bool.or_true, Bool.true_or, Bool.false_or, beq_self_eq_true, m_steps0 x hx]
theorem m_are_steps (x : PyData) (hx : ∀ xs, x = .tuple xs → xs.length ≤ sizeLine ∧ ∀ y ∈ xs, okD 60 y) : m_f_law_are_steps fa [.d x] = .ok (.bool (isSteps x)) [.d x] := by
  cases x with
  | tuple xs =>
    obtain ⟨hl, hok⟩ := hx xs rfl
    unfold m_f_law_are_steps fnR b_f_law_are_steps
    have so : seqOf (.tuple xs) = some (false, xs) := rfl
    have c := compR_filter (vs := [1]) (tg := gN 1) (rc := bOr (bNot (bB (eCall 1 (m_f_law_is_spot fa) (aLk 1 aNil)))) (bB (eOp pyNe (eCB (py2 pyMax) (lCons (eCB (py1 pyAbs) (lCons (eIdxV 1 (eC (.int 0))) lNil)) (lCons (eCB (py1 pyAbs) (lCons (eIdxV 1 (eC (.int 1))) lNil)) lNil))) (eC (.int 1))))) (re := eV 1)
      (ss := [.d (.tuple xs), .un]) (fun y : PyData => y) (fun y => !isStep y) (fun y => y) (fun _ => True)
      (fun y _ => ⟨[.d (.tuple xs), .d y], [.d (.tuple xs), .d y], rfl, by
        cases h : isSpot y with
        | false =>
          simp only [eC_ap, eV_ap, eOp_ap, eUn_ap, bB_ap, bAnd_ap, bOr_ap, bNot_ap, eAnd_ap, eOr_ap, eNot_ap, eIf_ap, eIsN_ap, lNil_ap, lCons_ap, eTup_ap, nLst_ap, eL_ap, nCat_ap, qR_ap, qN_ap, qV_ap, eLenQ_ap, eCB_ap, eTupleQ_ap, nListQ_ap, eIsi_ap, oNo_ap, oSome_ap, eSl_ap, nSl_ap, eIdxV_ap, iR_ap, iZp_ap, iZp3_ap, iEnA_ap, nComp_ap, sNext_ap, sSeq_ap, sIf_ap, sRet_ap, sDrop_ap, sAsg_ap, sSetN_ap, sRaise_ap, sFor_ap, aNil_ap, aDt_ap, aLk_ap, aFn_ap, eCall_ap, eCallN_ap, fb_nx, fb_rt, fb_ex, bind_ok, bind_ex, bind_no, fl_ok, fl_ex, fl_no, lift_some, lift_none, pySub_i, pyAdd_i, pyMax_i, pyAbs_i, pyLe_i, pyLt_i, pyGt_i, pyGe_i, pyEq_i, pyNe_i, py1, py2, asB, hasV, hasS, idxS, agSv, lks, gN, gT, gsC, gsN, wipeA, rstA, keepD, isFn, List.getElem?_cons_zero, List.getElem?_cons_succ, List.set_cons_zero, List.set_cons_succ, List.length_cons, List.length_nil, List.map_cons, List.map_nil, List.getD_cons_zero, List.getD_cons_succ, List.take_succ_cons, List.take_zero, List.take_nil, List.drop_succ_cons, List.drop_zero, List.drop_nil, List.append_nil, List.nil_append, List.cons_append, Option.bind_some, Option.map_some, Nat.zero_add, Nat.reduceAdd, Nat.reduceSub, Nat.reduceLeDiff, Nat.reduceEqDiff, if_true, if_false, Bool.not_true, Bool.not_false, Bool.true_and, Bool.false_and, Bool.and_true, decide_true, decide_false, List.all_nil, List.all_cons, and_self, and_true, true_and, ite_true, ite_false, reduceIte, List.replicate_zero, List.reduceReplicate, List.nodup_cons, List.nodup_nil, List.mem_cons, List.not_mem_nil, List.mem_singleton, or_false, or_self, not_false_eq_true, not_true_eq_false, wb, chg, isO, Bool.false_eq_true, Nat.reduceEqDiff, Nat.one_ne_zero, idx0, idx1, idx2, idx3, ix4_0, ix4_1, sPut_ap, pyIdx_l, pyIdx_t, Bool.or_false, Bool.or_true, Bool.true_or, Bool.false_or, beq_self_eq_true, m_spot2, h, step_no h]
        | true =>
          obtain ⟨a, b, rfl⟩ := spot_of h
          simp only [eC_ap, eV_ap, eOp_ap, eUn_ap, bB_ap, bAnd_ap, bOr_ap, bNot_ap, eAnd_ap, eOr_ap, eNot_ap, eIf_ap, eIsN_ap, lNil_ap, lCons_ap, eTup_ap, nLst_ap, eL_ap, nCat_ap, qR_ap, qN_ap, qV_ap, eLenQ_ap, eCB_ap, eTupleQ_ap, nListQ_ap, eIsi_ap, oNo_ap, oSome_ap, eSl_ap, nSl_ap, eIdxV_ap, iR_ap, iZp_ap, iZp3_ap, iEnA_ap, nComp_ap, sNext_ap, sSeq_ap, sIf_ap, sRet_ap, sDrop_ap, sAsg_ap, sSetN_ap, sRaise_ap, sFor_ap, aNil_ap, aDt_ap, aLk_ap, aFn_ap, eCall_ap, eCallN_ap, fb_nx, fb_rt, fb_ex, bind_ok, bind_ex, bind_no, fl_ok, fl_ex, fl_no, lift_some, lift_none, pySub_i, pyAdd_i, pyMax_i, pyAbs_i, pyLe_i, pyLt_i, pyGt_i, pyGe_i, pyEq_i, pyNe_i, py1, py2, asB, hasV, hasS, idxS, agSv, lks, gN, gT, gsC, gsN, wipeA, rstA, keepD, isFn, List.getElem?_cons_zero, List.getElem?_cons_succ, List.set_cons_zero, List.set_cons_succ, List.length_cons, List.length_nil, List.map_cons, List.map_nil, List.getD_cons_zero, List.getD_cons_succ, List.take_succ_cons, List.take_zero, List.take_nil, List.drop_succ_cons, List.drop_zero, List.drop_nil, List.append_nil, List.nil_append, List.cons_append, Option.bind_some, Option.map_some, Nat.zero_add, Nat.reduceAdd, Nat.reduceSub, Nat.reduceLeDiff, Nat.reduceEqDiff, if_true, if_false, Bool.not_true, Bool.not_false, Bool.true_and, Bool.false_and, Bool.and_true, decide_true, decide_false, List.all_nil, List.all_cons, and_self, and_true, true_and, ite_true, ite_false, reduceIte, List.replicate_zero, List.reduceReplicate, List.nodup_cons, List.nodup_nil, List.mem_cons, List.not_mem_nil, List.mem_singleton, or_false, or_self, not_false_eq_true, not_true_eq_false, wb, chg, isO, Bool.false_eq_true, Nat.reduceEqDiff, Nat.one_ne_zero, idx0, idx1, idx2, idx3, ix4_0, ix4_1, sPut_ap, pyIdx_l, pyIdx_t, Bool.or_false, Bool.or_true, Bool.true_or, Bool.false_or, beq_self_eq_true, m_spot2, h, isStep, stp], fun _ => rfl, fun _ => ⟨[.d (.tuple xs), .d y], rfl, rfl⟩⟩) xs [] (fun _ _ => trivial) (by rw [List.length_nil, Nat.zero_add]; exact hl)
    rw [List.map_id', List.map_id'] at c
    have e1 : pyEq (.list (xs.filter fun y => !isStep y)) (.list []) = some (.bool (xs.all isStep)) := by
      rw [pyEq_ok (okD_list fun y hy => hok y (List.mem_filter.mp hy).1) (okD_list (n := 0) fun y hy => absurd hy List.not_mem_nil) (by decide) (by decide)]
      congr 2
      show PyData.eqvAll _ [] = _
      clear c hl hok hx so
      induction xs with
      | nil => rfl
      | cons y r ih =>
        cases hy : isStep y with
        | true =>
          rw [List.filter_cons_of_neg (by simp [hy]), ih, List.all_cons, hy]; rfl
        | false =>
          rw [List.filter_cons_of_pos (by simp [hy]), List.all_cons, hy]; rfl
    have z : (0 : Nat) ≤ sizeLine := Nat.zero_le _
    simp only [eC_ap, eV_ap, eOp_ap, eUn_ap, bB_ap, bAnd_ap, bOr_ap, bNot_ap, eAnd_ap, eOr_ap, eNot_ap, eIf_ap, eIsN_ap, lNil_ap, lCons_ap, eTup_ap, nLst_ap, eL_ap, nCat_ap, qR_ap, qN_ap, qV_ap, eLenQ_ap, eCB_ap, eTupleQ_ap, nListQ_ap, eIsi_ap, oNo_ap, oSome_ap, eSl_ap, nSl_ap, eIdxV_ap, iR_ap, iZp_ap, iZp3_ap, iEnA_ap, nComp_ap, sNext_ap, sSeq_ap, sIf_ap, sRet_ap, sDrop_ap, sAsg_ap, sSetN_ap, sRaise_ap, sFor_ap, aNil_ap, aDt_ap, aLk_ap, aFn_ap, eCall_ap, eCallN_ap, fb_nx, fb_rt, fb_ex, bind_ok, bind_ex, bind_no, fl_ok, fl_ex, fl_no, lift_some, lift_none, pySub_i, pyAdd_i, pyMax_i, pyAbs_i, pyLe_i, pyLt_i, pyGt_i, pyGe_i, pyEq_i, pyNe_i, py1, py2, asB, hasV, hasS, idxS, agSv, lks, gN, gT, gsC, gsN, wipeA, rstA, keepD, isFn, List.getElem?_cons_zero, List.getElem?_cons_succ, List.set_cons_zero, List.set_cons_succ, List.length_cons, List.length_nil, List.map_cons, List.map_nil, List.getD_cons_zero, List.getD_cons_succ, List.take_succ_cons, List.take_zero, List.take_nil, List.drop_succ_cons, List.drop_zero, List.drop_nil, List.append_nil, List.nil_append, List.cons_append, Option.bind_some, Option.map_some, Nat.zero_add, Nat.reduceAdd, Nat.reduceSub, Nat.reduceLeDiff, Nat.reduceEqDiff, if_true, if_false, Bool.not_true, Bool.not_false, Bool.true_and, Bool.false_and, Bool.and_true, decide_true, decide_false, List.all_nil, List.all_cons, and_self, and_true, true_and, ite_true, ite_false, reduceIte, List.replicate_zero, List.reduceReplicate, List.nodup_cons, List.nodup_nil, List.mem_cons, List.not_mem_nil, List.mem_singleton, or_false, or_self, not_false_eq_true, not_true_eq_false, wb, chg, isO, Bool.false_eq_true, Nat.reduceEqDiff, Nat.one_ne_zero, idx0, idx1, idx2, idx3, ix4_0, ix4_1, sPut_ap, pyIdx_l, pyIdx_t, Bool.or_false, Bool.or_true, Bool.true_or, Bool.false_or, beq_self_eq_true, tuple_kit, so, c, e1, z, isSteps]
  | _ => rfl
/-! ### numbers -/
abbrev sm (a : Int) : Prop := a.natAbs ≤ 100000
theorem mul_abs {a b : Int} {A B : Nat} (h1 : a.natAbs ≤ A) (h2 : b.natAbs ≤ B) : (a * b).natAbs ≤ A * B := by
  rw [Int.natAbs_mul]; exact Nat.mul_le_mul h1 h2
def lenI (a b c d : Int) : Int := max ((c - a).natAbs : Int) ((d - b).natAbs : Int)
theorem m_check (a b c d : Int) : m_f_check_spots fa [.d (p2 a b), .d (p2 c d)] = .ok .none [.d (p2 a b), .d (p2 c d)] := by
  unfold m_f_check_spots fnR b_f_check_spots
  simp only [eC_ap, eV_ap, eOp_ap, eUn_ap, bB_ap, bAnd_ap, bOr_ap, bNot_ap, eAnd_ap, eOr_ap, eNot_ap, eIf_ap, eIsN_ap, lNil_ap, lCons_ap, eTup_ap, nLst_ap, eL_ap, nCat_ap, qR_ap, qN_ap, qV_ap, eLenQ_ap, eCB_ap, eTupleQ_ap, nListQ_ap, eIsi_ap, oNo_ap, oSome_ap, eSl_ap, nSl_ap, eIdxV_ap, iR_ap, iZp_ap, iZp3_ap, iEnA_ap, nComp_ap, sNext_ap, sSeq_ap, sIf_ap, sRet_ap, sDrop_ap, sAsg_ap, sSetN_ap, sRaise_ap, sFor_ap, aNil_ap, aDt_ap, aLk_ap, aFn_ap, eCall_ap, eCallN_ap, fb_nx, fb_rt, fb_ex, bind_ok, bind_ex, bind_no, fl_ok, fl_ex, fl_no, lift_some, lift_none, pySub_i, pyAdd_i, pyMax_i, pyAbs_i, pyLe_i, pyLt_i, pyGt_i, pyGe_i, pyEq_i, pyNe_i, py1, py2, asB, hasV, hasS, idxS, agSv, lks, gN, gT, gsC, gsN, wipeA, rstA, keepD, isFn, List.getElem?_cons_zero, List.getElem?_cons_succ, List.set_cons_zero, List.set_cons_succ, List.length_cons, List.length_nil, List.map_cons, List.map_nil, List.getD_cons_zero, List.getD_cons_succ, List.take_succ_cons, List.take_zero, List.take_nil, List.drop_succ_cons, List.drop_zero, List.drop_nil, List.append_nil, List.nil_append, List.cons_append, Option.bind_some, Option.map_some, Nat.zero_add, Nat.reduceAdd, Nat.reduceSub, Nat.reduceLeDiff, Nat.reduceEqDiff, if_true, if_false, Bool.not_true, Bool.not_false, Bool.true_and, Bool.false_and, Bool.and_true, decide_true, decide_false, List.all_nil, List.all_cons, and_self, and_true, true_and, ite_true, ite_false, reduceIte, List.replicate_zero, List.reduceReplicate, List.nodup_cons, List.nodup_nil, List.mem_cons, List.not_mem_nil, List.mem_singleton, or_false, or_self, not_false_eq_true, not_true_eq_false, wb, chg, isO, Bool.false_eq_true, Nat.reduceEqDiff, Nat.one_ne_zero, idx0, idx1, idx2, idx3, ix4_0, ix4_1, sPut_ap, pyIdx_l, pyIdx_t, Bool.or_false, Bool.or_true, Bool.true_or, Bool.false_or, beq_self_eq_true, m_spot, spot_p2]
theorem m_check_no (x : PyData) (h : isSpot x = false) (y : PyData) : m_f_check_spots fa [.d x, .d y] = .ex "Nothing" [.d x, .d y] := by
  unfold m_f_check_spots fnR b_f_check_spots
  simp only [eC_ap, eV_ap, eOp_ap, eUn_ap, bB_ap, bAnd_ap, bOr_ap, bNot_ap, eAnd_ap, eOr_ap, eNot_ap, eIf_ap, eIsN_ap, lNil_ap, lCons_ap, eTup_ap, nLst_ap, eL_ap, nCat_ap, qR_ap, qN_ap, qV_ap, eLenQ_ap, eCB_ap, eTupleQ_ap, nListQ_ap, eIsi_ap, oNo_ap, oSome_ap, eSl_ap, nSl_ap, eIdxV_ap, iR_ap, iZp_ap, iZp3_ap, iEnA_ap, nComp_ap, sNext_ap, sSeq_ap, sIf_ap, sRet_ap, sDrop_ap, sAsg_ap, sSetN_ap, sRaise_ap, sFor_ap, aNil_ap, aDt_ap, aLk_ap, aFn_ap, eCall_ap, eCallN_ap, fb_nx, fb_rt, fb_ex, bind_ok, bind_ex, bind_no, fl_ok, fl_ex, fl_no, lift_some, lift_none, pySub_i, pyAdd_i, pyMax_i, pyAbs_i, pyLe_i, pyLt_i, pyGt_i, pyGe_i, pyEq_i, pyNe_i, py1, py2, asB, hasV, hasS, idxS, agSv, lks, gN, gT, gsC, gsN, wipeA, rstA, keepD, isFn, List.getElem?_cons_zero, List.getElem?_cons_succ, List.set_cons_zero, List.set_cons_succ, List.length_cons, List.length_nil, List.map_cons, List.map_nil, List.getD_cons_zero, List.getD_cons_succ, List.take_succ_cons, List.take_zero, List.take_nil, List.drop_succ_cons, List.drop_zero, List.drop_nil, List.append_nil, List.nil_append, List.cons_append, Option.bind_some, Option.map_some, Nat.zero_add, Nat.reduceAdd, Nat.reduceSub, Nat.reduceLeDiff, Nat.reduceEqDiff, if_true, if_false, Bool.not_true, Bool.not_false, Bool.true_and, Bool.false_and, Bool.and_true, decide_true, decide_false, List.all_nil, List.all_cons, and_self, and_true, true_and, ite_true, ite_false, reduceIte, List.replicate_zero, List.reduceReplicate, List.nodup_cons, List.nodup_nil, List.mem_cons, List.not_mem_nil, List.mem_singleton, or_false, or_self, not_false_eq_true, not_true_eq_false, wb, chg, isO, Bool.false_eq_true, Nat.reduceEqDiff, Nat.one_ne_zero, idx0, idx1, idx2, idx3, ix4_0, ix4_1, sPut_ap, pyIdx_l, pyIdx_t, Bool.or_false, Bool.or_true, Bool.true_or, Bool.false_or, beq_self_eq_true, m_spot, h]
theorem m_length (a b c d : Int) : m_f_length_of fa [.d (p2 a b), .d (p2 c d)] = .ok (.int (lenI a b c d)) [.d (p2 a b), .d (p2 c d)] := by
  unfold m_f_length_of fnR b_f_length_of lenI
  simp only [eC_ap, eV_ap, eOp_ap, eUn_ap, bB_ap, bAnd_ap, bOr_ap, bNot_ap, eAnd_ap, eOr_ap, eNot_ap, eIf_ap, eIsN_ap, lNil_ap, lCons_ap, eTup_ap, nLst_ap, eL_ap, nCat_ap, qR_ap, qN_ap, qV_ap, eLenQ_ap, eCB_ap, eTupleQ_ap, nListQ_ap, eIsi_ap, oNo_ap, oSome_ap, eSl_ap, nSl_ap, eIdxV_ap, iR_ap, iZp_ap, iZp3_ap, iEnA_ap, nComp_ap, sNext_ap, sSeq_ap, sIf_ap, sRet_ap, sDrop_ap, sAsg_ap, sSetN_ap, sRaise_ap, sFor_ap, aNil_ap, aDt_ap, aLk_ap, aFn_ap, eCall_ap, eCallN_ap, fb_nx, fb_rt, fb_ex, bind_ok, bind_ex, bind_no, fl_ok, fl_ex, fl_no, lift_some, lift_none, pySub_i, pyAdd_i, pyMax_i, pyAbs_i, pyLe_i, pyLt_i, pyGt_i, pyGe_i, pyEq_i, pyNe_i, py1, py2, asB, hasV, hasS, idxS, agSv, lks, gN, gT, gsC, gsN, wipeA, rstA, keepD, isFn, List.getElem?_cons_zero, List.getElem?_cons_succ, List.set_cons_zero, List.set_cons_succ, List.length_cons, List.length_nil, List.map_cons, List.map_nil, List.getD_cons_zero, List.getD_cons_succ, List.take_succ_cons, List.take_zero, List.take_nil, List.drop_succ_cons, List.drop_zero, List.drop_nil, List.append_nil, List.nil_append, List.cons_append, Option.bind_some, Option.map_some, Nat.zero_add, Nat.reduceAdd, Nat.reduceSub, Nat.reduceLeDiff, Nat.reduceEqDiff, if_true, if_false, Bool.not_true, Bool.not_false, Bool.true_and, Bool.false_and, Bool.and_true, decide_true, decide_false, List.all_nil, List.all_cons, and_self, and_true, true_and, ite_true, ite_false, reduceIte, List.replicate_zero, List.reduceReplicate, List.nodup_cons, List.nodup_nil, List.mem_cons, List.not_mem_nil, List.mem_singleton, or_false, or_self, not_false_eq_true, not_true_eq_false, wb, chg, isO, Bool.false_eq_true, Nat.reduceEqDiff, Nat.one_ne_zero, idx0, idx1, idx2, idx3, ix4_0, ix4_1, sPut_ap, pyIdx_l, pyIdx_t, Bool.or_false, Bool.or_true, Bool.true_or, Bool.false_or, beq_self_eq_true]
def near (n d : Int) : Int := (2 * n + d) / (2 * d)
theorem m_nearest {n d : Int} (h0 : 0 < d) (h1 : n.natAbs ≤ 10 ^ 12) (h2 : d.natAbs ≤ 10 ^ 12) : m_f_nearest fa [.d (.int n), .d (.int d)] = .ok (.int (near n d)) [.d (.int n), .d (.int d)] := by
  unfold m_f_nearest fnR b_f_nearest near
  have e1 := pyMul_s (i := 2) (j := n) (by decide) (by omega)
  have e2 := pyMul_s (i := 2) (j := d) (by decide) (by omega)
  have e3 := pyDiv_s (i := 2 * n + d) (j := 2 * d) (by omega) (by omega)
  simp only [eC_ap, eV_ap, eOp_ap, eUn_ap, bB_ap, bAnd_ap, bOr_ap, bNot_ap, eAnd_ap, eOr_ap, eNot_ap, eIf_ap, eIsN_ap, lNil_ap, lCons_ap, eTup_ap, nLst_ap, eL_ap, nCat_ap, qR_ap, qN_ap, qV_ap, eLenQ_ap, eCB_ap, eTupleQ_ap, nListQ_ap, eIsi_ap, oNo_ap, oSome_ap, eSl_ap, nSl_ap, eIdxV_ap, iR_ap, iZp_ap, iZp3_ap, iEnA_ap, nComp_ap, sNext_ap, sSeq_ap, sIf_ap, sRet_ap, sDrop_ap, sAsg_ap, sSetN_ap, sRaise_ap, sFor_ap, aNil_ap, aDt_ap, aLk_ap, aFn_ap, eCall_ap, eCallN_ap, fb_nx, fb_rt, fb_ex, bind_ok, bind_ex, bind_no, fl_ok, fl_ex, fl_no, lift_some, lift_none, pySub_i, pyAdd_i, pyMax_i, pyAbs_i, pyLe_i, pyLt_i, pyGt_i, pyGe_i, pyEq_i, pyNe_i, py1, py2, asB, hasV, hasS, idxS, agSv, lks, gN, gT, gsC, gsN, wipeA, rstA, keepD, isFn, List.getElem?_cons_zero, List.getElem?_cons_succ, List.set_cons_zero, List.set_cons_succ, List.length_cons, List.length_nil, List.map_cons, List.map_nil, List.getD_cons_zero, List.getD_cons_succ, List.take_succ_cons, List.take_zero, List.take_nil, List.drop_succ_cons, List.drop_zero, List.drop_nil, List.append_nil, List.nil_append, List.cons_append, Option.bind_some, Option.map_some, Nat.zero_add, Nat.reduceAdd, Nat.reduceSub, Nat.reduceLeDiff, Nat.reduceEqDiff, if_true, if_false, Bool.not_true, Bool.not_false, Bool.true_and, Bool.false_and, Bool.and_true, decide_true, decide_false, List.all_nil, List.all_cons, and_self, and_true, true_and, ite_true, ite_false, reduceIte, List.replicate_zero, List.reduceReplicate, List.nodup_cons, List.nodup_nil, List.mem_cons, List.not_mem_nil, List.mem_singleton, or_false, or_self, not_false_eq_true, not_true_eq_false, wb, chg, isO, Bool.false_eq_true, Nat.reduceEqDiff, Nat.one_ne_zero, idx0, idx1, idx2, idx3, ix4_0, ix4_1, sPut_ap, pyIdx_l, pyIdx_t, Bool.or_false, Bool.or_true, Bool.true_or, Bool.false_or, beq_self_eq_true, e1, e2, e3]
/-- the spot of the line at k -/
def at1 (a c many k : Int) : Int := a + near (k * (c - a)) many
theorem m_spot_at {a b c d k : Int} (ha : sm a) (hb : sm b) (hc : sm c) (hd : sm d) (hk : k.natAbs ≤ 100000) (h0 : 0 < lenI a b c d) :
    m_f_spot_at fa [.d (p2 a b), .d (p2 c d), .d (.int k)] = .ok (p2 (at1 a c (lenI a b c d) k) (at1 b d (lenI a b c d) k)) [.d (p2 a b), .d (p2 c d), .d (.int k)] := by
  unfold m_f_spot_at fnR b_f_spot_at
  have hm : (lenI a b c d).natAbs ≤ 200000 := by unfold lenI; omega
  have k1 : (k * (c - a)).natAbs ≤ 100000 * 200000 := mul_abs hk (by omega)
  have k2 : (k * (d - b)).natAbs ≤ 100000 * 200000 := mul_abs hk (by omega)
  have e1 := pyMul_s (i := k) (j := c - a) (by omega) (by omega)
  have e2 := pyMul_s (i := k) (j := d - b) (by omega) (by omega)
  have n1 := m_nearest (fa := fa) (n := k * (c - a)) (d := lenI a b c d) h0 (by omega) (by omega)
  have n2 := m_nearest (fa := fa) (n := k * (d - b)) (d := lenI a b c d) h0 (by omega) (by omega)
  have z : zipD [.int a, .int b] [.int c, .int d] = [p2 a c, p2 b d] := rfl
  have l0 : (0 : Nat) < sizeLine := by decide
  have l1 : (1 : Nat) < sizeLine := by decide
  simp only [eC_ap, eV_ap, eOp_ap, eUn_ap, bB_ap, bAnd_ap, bOr_ap, bNot_ap, eAnd_ap, eOr_ap, eNot_ap, eIf_ap, eIsN_ap, lNil_ap, lCons_ap, eTup_ap, nLst_ap, eL_ap, nCat_ap, qR_ap, qN_ap, qV_ap, eLenQ_ap, eCB_ap, eTupleQ_ap, nListQ_ap, eIsi_ap, oNo_ap, oSome_ap, eSl_ap, nSl_ap, eIdxV_ap, iR_ap, iZp_ap, iZp3_ap, iEnA_ap, nComp_ap, sNext_ap, sSeq_ap, sIf_ap, sRet_ap, sDrop_ap, sAsg_ap, sSetN_ap, sRaise_ap, sFor_ap, aNil_ap, aDt_ap, aLk_ap, aFn_ap, eCall_ap, eCallN_ap, fb_nx, fb_rt, fb_ex, bind_ok, bind_ex, bind_no, fl_ok, fl_ex, fl_no, lift_some, lift_none, pySub_i, pyAdd_i, pyMax_i, pyAbs_i, pyLe_i, pyLt_i, pyGt_i, pyGe_i, pyEq_i, pyNe_i, py1, py2, asB, hasV, hasS, idxS, agSv, lks, gN, gT, gsC, gsN, wipeA, rstA, keepD, isFn, List.getElem?_cons_zero, List.getElem?_cons_succ, List.set_cons_zero, List.set_cons_succ, List.length_cons, List.length_nil, List.map_cons, List.map_nil, List.getD_cons_zero, List.getD_cons_succ, List.take_succ_cons, List.take_zero, List.take_nil, List.drop_succ_cons, List.drop_zero, List.drop_nil, List.append_nil, List.nil_append, List.cons_append, Option.bind_some, Option.map_some, Nat.zero_add, Nat.reduceAdd, Nat.reduceSub, Nat.reduceLeDiff, Nat.reduceEqDiff, if_true, if_false, Bool.not_true, Bool.not_false, Bool.true_and, Bool.false_and, Bool.and_true, decide_true, decide_false, List.all_nil, List.all_cons, and_self, and_true, true_and, ite_true, ite_false, reduceIte, List.replicate_zero, List.reduceReplicate, List.nodup_cons, List.nodup_nil, List.mem_cons, List.not_mem_nil, List.mem_singleton, or_false, or_self, not_false_eq_true, not_true_eq_false, wb, chg, isO, Bool.false_eq_true, Nat.reduceEqDiff, Nat.one_ne_zero, idx0, idx1, idx2, idx3, ix4_0, ix4_1, sPut_ap, pyIdx_l, pyIdx_t, Bool.or_false, Bool.or_true, Bool.true_or, Bool.false_or, beq_self_eq_true, m_length, z, compR, e1, e2, n1, n2, l0, l1, at1]
end K_k33

namespace K_k33
open PySem L2 Evl RZ PyProof.Rows AX
variable {fa : Str → Addr}
theorem near0 (d : Int) (h : 0 ≤ d) : near 0 d = 0 := by
  unfold near
  rcases Int.lt_or_eq_of_le h with h | h
  · rw [Int.mul_zero, Int.zero_add]
    exact Int.ediv_eq_zero_of_lt (by omega) (by omega)
  · rw [← h]; rfl
theorem at0 (a c many : Int) (h : 0 ≤ many) : at1 a c many 0 = a := by
  unfold at1
  rw [Int.zero_mul, near0 _ h, Int.add_zero]
theorem len_nonneg (a b c d : Int) : 0 ≤ lenI a b c d := by unfold lenI; omega
/-- the spots of the line -/
def ptI (a b c d : Int) (k : Nat) : PyData := p2 (at1 a c (lenI a b c d) k) (at1 b d (lenI a b c d) k)
theorem ptI0 (a b c d : Int) : ptI a b c d 0 = p2 a b := by
  unfold ptI
  have e : ((0 : Nat) : Int) = 0 := rfl
  rw [e, at0 _ _ _ (len_nonneg ..), at0 _ _ _ (len_nonneg ..)]
def stpX (a b c d : Int) (k : Nat) : Int := at1 a c (lenI a b c d) ((k + 1 : Nat) : Int) - at1 a c (lenI a b c d) (k : Nat)
def stpY (a b c d : Int) (k : Nat) : Int := at1 b d (lenI a b c d) ((k + 1 : Nat) : Int) - at1 b d (lenI a b c d) (k : Nat)
def due (a b c d : Int) : List PyData := (List.range (lenI a b c d).toNat).map fun k => p2 (stpX a b c d k) (stpY a b c d k)
/-- the differences of a row of spots -/
theorem diffs {tg : Tg} {vs : List Nat} {rc : AS → R Bool} {re : AS → R PyData} {ss : AS} (a b c d : Int) (n : Nat) (hn : n ≤ 1000000)
    (st : ∀ p q r s : Int, ∃ s1 s2 s3, tg (.tuple [p2 p q, p2 r s]) (wipeA ss vs) = some s1 ∧ rc s1 = .ok true s2 ∧ re s2 = .ok (p2 (r - p) (s - q)) s3 ∧ rstA ss s3 vs = ss) :
    compR vs tg rc re (zipD ((List.range (n + 1)).map (ptI a b c d)) (cutD ((List.range (n + 1)).map (ptI a b c d)) (some 1) none)) [] ss = .ok ((List.range n).map fun k => p2 (stpX a b c d k) (stpY a b c d k)) ss := by
  unfold zipD
  rw [cutD_1, zip_next, List.map_map]
  have := compR_map (vs := vs) (tg := tg) (rc := rc) (re := re) (ss := ss) (fun k : Nat => .tuple [ptI a b c d k, ptI a b c d (k + 1)]) (fun k => p2 (stpX a b c d k) (stpY a b c d k)) (fun _ => True) (fun k _ => st _ _ _ _) (List.range n) [] (fun _ _ => trivial)
    (by rw [List.length_nil, List.length_range]; exact Nat.le_trans (by omega) (show 1000000 ≤ sizeLine by decide))
  rw [List.nil_append] at this
  exact this
theorem m_line_steps {a b c d : Int} (ha : sm a) (hb : sm b) (hc : sm c) (hd : sm d) (hk : (lenI a b c d).natAbs ≤ 100000) : m_f_line_steps fa [.d (p2 a b), .d (p2 c d)] = .ok (.tuple (due a b c d)) [.d (p2 a b), .d (p2 c d)] := by
  unfold m_f_line_steps fnR b_f_line_steps
  have l0 := len_nonneg a b c d
  have r1 := iRng1 (rl := lCons (eOp pyAdd (eCall 2 (m_f_length_of fa) (aLk 0 (aLk 1 aNil))) (eC (.int 1))) lNil) (ss := [.d (p2 a b), .d (p2 c d), .un, .un, .un, .un]) (s := [.d (p2 a b), .d (p2 c d), .un, .un, .un, .un]) (j := lenI a b c d + 1)
    (by simp only [eC_ap, eV_ap, eOp_ap, eUn_ap, bB_ap, bAnd_ap, bOr_ap, bNot_ap, eAnd_ap, eOr_ap, eNot_ap, eIf_ap, eIsN_ap, lNil_ap, lCons_ap, eTup_ap, nLst_ap, eL_ap, nCat_ap, qR_ap, qN_ap, qV_ap, eLenQ_ap, eCB_ap, eTupleQ_ap, nListQ_ap, eIsi_ap, oNo_ap, oSome_ap, eSl_ap, nSl_ap, eIdxV_ap, iR_ap, iZp_ap, iZp3_ap, iEnA_ap, nComp_ap, sNext_ap, sSeq_ap, sIf_ap, sRet_ap, sDrop_ap, sAsg_ap, sSetN_ap, sRaise_ap, sFor_ap, aNil_ap, aDt_ap, aLk_ap, aFn_ap, eCall_ap, eCallN_ap, fb_nx, fb_rt, fb_ex, bind_ok, bind_ex, bind_no, fl_ok, fl_ex, fl_no, lift_some, lift_none, pySub_i, pyAdd_i, pyMax_i, pyAbs_i, pyLe_i, pyLt_i, pyGt_i, pyGe_i, pyEq_i, pyNe_i, py1, py2, asB, hasV, hasS, idxS, agSv, lks, gN, gT, gsC, gsN, wipeA, rstA, keepD, isFn, List.getElem?_cons_zero, List.getElem?_cons_succ, List.set_cons_zero, List.set_cons_succ, List.length_cons, List.length_nil, List.map_cons, List.map_nil, List.getD_cons_zero, List.getD_cons_succ, List.take_succ_cons, List.take_zero, List.take_nil, List.drop_succ_cons, List.drop_zero, List.drop_nil, List.append_nil, List.nil_append, List.cons_append, Option.bind_some, Option.map_some, Nat.zero_add, Nat.reduceAdd, Nat.reduceSub, Nat.reduceLeDiff, Nat.reduceEqDiff, if_true, if_false, Bool.not_true, Bool.not_false, Bool.true_and, Bool.false_and, Bool.and_true, decide_true, decide_false, List.all_nil, List.all_cons, and_self, and_true, true_and, ite_true, ite_false, reduceIte, List.replicate_zero, List.reduceReplicate, List.nodup_cons, List.nodup_nil, List.mem_cons, List.not_mem_nil, List.mem_singleton, or_false, or_self, not_false_eq_true, not_true_eq_false, wb, chg, isO, Bool.false_eq_true, Nat.reduceEqDiff, Nat.one_ne_zero, idx0, idx1, idx2, idx3, ix4_0, ix4_1, sPut_ap, pyIdx_l, pyIdx_t, Bool.or_false, Bool.or_true, Bool.true_or, Bool.false_or, beq_self_eq_true, m_length]) (by omega)
  have tn : (lenI a b c d + 1).toNat = (lenI a b c d).toNat + 1 := by omega
  have c1 := compR_map (vs := [3]) (tg := gN 3) (rc := fun ss => .ok true ss) (re := eIf (bB (eOp pyGt (eV 3) (eC (.int 0)))) (eCall 3 (m_f_spot_at fa) (aLk 0 (aLk 1 (aLk 3 aNil)))) (eV 0))
    (ss := [.d (p2 a b), .d (p2 c d), .un, .un, .un, .un]) (fun i : Nat => .int i) (ptI a b c d) (fun i => i ≤ (lenI a b c d).toNat) (fun i hi => ⟨[.d (p2 a b), .d (p2 c d), .un, .d (.int i), .un, .un], [.d (p2 a b), .d (p2 c d), .un, .d (.int i), .un, .un], [.d (p2 a b), .d (p2 c d), .un, .d (.int i), .un, .un], rfl, rfl, by
      rcases Nat.eq_zero_or_pos i with z | z
      · subst z
        rw [ptI0]
        simp only [eC_ap, eV_ap, eOp_ap, eUn_ap, bB_ap, bAnd_ap, bOr_ap, bNot_ap, eAnd_ap, eOr_ap, eNot_ap, eIf_ap, eIsN_ap, lNil_ap, lCons_ap, eTup_ap, nLst_ap, eL_ap, nCat_ap, qR_ap, qN_ap, qV_ap, eLenQ_ap, eCB_ap, eTupleQ_ap, nListQ_ap, eIsi_ap, oNo_ap, oSome_ap, eSl_ap, nSl_ap, eIdxV_ap, iR_ap, iZp_ap, iZp3_ap, iEnA_ap, nComp_ap, sNext_ap, sSeq_ap, sIf_ap, sRet_ap, sDrop_ap, sAsg_ap, sSetN_ap, sRaise_ap, sFor_ap, aNil_ap, aDt_ap, aLk_ap, aFn_ap, eCall_ap, eCallN_ap, fb_nx, fb_rt, fb_ex, bind_ok, bind_ex, bind_no, fl_ok, fl_ex, fl_no, lift_some, lift_none, pySub_i, pyAdd_i, pyMax_i, pyAbs_i, pyLe_i, pyLt_i, pyGt_i, pyGe_i, pyEq_i, pyNe_i, py1, py2, asB, hasV, hasS, idxS, agSv, lks, gN, gT, gsC, gsN, wipeA, rstA, keepD, isFn, List.getElem?_cons_zero, List.getElem?_cons_succ, List.set_cons_zero, List.set_cons_succ, List.length_cons, List.length_nil, List.map_cons, List.map_nil, List.getD_cons_zero, List.getD_cons_succ, List.take_succ_cons, List.take_zero, List.take_nil, List.drop_succ_cons, List.drop_zero, List.drop_nil, List.append_nil, List.nil_append, List.cons_append, Option.bind_some, Option.map_some, Nat.zero_add, Nat.reduceAdd, Nat.reduceSub, Nat.reduceLeDiff, Nat.reduceEqDiff, if_true, if_false, Bool.not_true, Bool.not_false, Bool.true_and, Bool.false_and, Bool.and_true, decide_true, decide_false, List.all_nil, List.all_cons, and_self, and_true, true_and, ite_true, ite_false, reduceIte, List.replicate_zero, List.reduceReplicate, List.nodup_cons, List.nodup_nil, List.mem_cons, List.not_mem_nil, List.mem_singleton, or_false, or_self, not_false_eq_true, not_true_eq_false, wb, chg, isO, Bool.false_eq_true, Nat.reduceEqDiff, Nat.one_ne_zero, idx0, idx1, idx2, idx3, ix4_0, ix4_1, sPut_ap, pyIdx_l, pyIdx_t, Bool.or_false, Bool.or_true, Bool.true_or, Bool.false_or, beq_self_eq_true]
        rfl
      · have e := m_spot_at (fa := fa) (k := i) ha hb hc hd (by omega) (by omega)
        have g : decide ((0 : Int) < (i : Nat)) = true := decide_eq_true (by omega)
        simp only [eC_ap, eV_ap, eOp_ap, eUn_ap, bB_ap, bAnd_ap, bOr_ap, bNot_ap, eAnd_ap, eOr_ap, eNot_ap, eIf_ap, eIsN_ap, lNil_ap, lCons_ap, eTup_ap, nLst_ap, eL_ap, nCat_ap, qR_ap, qN_ap, qV_ap, eLenQ_ap, eCB_ap, eTupleQ_ap, nListQ_ap, eIsi_ap, oNo_ap, oSome_ap, eSl_ap, nSl_ap, eIdxV_ap, iR_ap, iZp_ap, iZp3_ap, iEnA_ap, nComp_ap, sNext_ap, sSeq_ap, sIf_ap, sRet_ap, sDrop_ap, sAsg_ap, sSetN_ap, sRaise_ap, sFor_ap, aNil_ap, aDt_ap, aLk_ap, aFn_ap, eCall_ap, eCallN_ap, fb_nx, fb_rt, fb_ex, bind_ok, bind_ex, bind_no, fl_ok, fl_ex, fl_no, lift_some, lift_none, pySub_i, pyAdd_i, pyMax_i, pyAbs_i, pyLe_i, pyLt_i, pyGt_i, pyGe_i, pyEq_i, pyNe_i, py1, py2, asB, hasV, hasS, idxS, agSv, lks, gN, gT, gsC, gsN, wipeA, rstA, keepD, isFn, List.getElem?_cons_zero, List.getElem?_cons_succ, List.set_cons_zero, List.set_cons_succ, List.length_cons, List.length_nil, List.map_cons, List.map_nil, List.getD_cons_zero, List.getD_cons_succ, List.take_succ_cons, List.take_zero, List.take_nil, List.drop_succ_cons, List.drop_zero, List.drop_nil, List.append_nil, List.nil_append, List.cons_append, Option.bind_some, Option.map_some, Nat.zero_add, Nat.reduceAdd, Nat.reduceSub, Nat.reduceLeDiff, Nat.reduceEqDiff, if_true, if_false, Bool.not_true, Bool.not_false, Bool.true_and, Bool.false_and, Bool.and_true, decide_true, decide_false, List.all_nil, List.all_cons, and_self, and_true, true_and, ite_true, ite_false, reduceIte, List.replicate_zero, List.reduceReplicate, List.nodup_cons, List.nodup_nil, List.mem_cons, List.not_mem_nil, List.mem_singleton, or_false, or_self, not_false_eq_true, not_true_eq_false, wb, chg, isO, Bool.false_eq_true, Nat.reduceEqDiff, Nat.one_ne_zero, idx0, idx1, idx2, idx3, ix4_0, ix4_1, sPut_ap, pyIdx_l, pyIdx_t, Bool.or_false, Bool.or_true, Bool.true_or, Bool.false_or, beq_self_eq_true, g, e, ptI], rfl⟩) (List.range ((lenI a b c d).toNat + 1)) [] (fun i hi => Nat.lt_succ_iff.mp (List.mem_range.mp hi)) (by rw [List.length_nil, List.length_range]; exact Nat.le_trans (by omega) (show 1000000 ≤ sizeLine by decide))
  rw [← tn] at c1
  have c2 := diffs (tg := gT 2 (gsC (gN 4) (gsC (gN 5) gsN))) (vs := [4, 5]) (rc := fun ss => .ok true ss) (re := eTup (lCons (eOp pySub (eIdxV 5 (eC (.int 0))) (eIdxV 4 (eC (.int 0)))) (lCons (eOp pySub (eIdxV 5 (eC (.int 1))) (eIdxV 4 (eC (.int 1)))) lNil)))
    (ss := [.d (p2 a b), .d (p2 c d), .d (.list ((List.range ((lenI a b c d).toNat + 1)).map (ptI a b c d))), .un, .un, .un]) a b c d (lenI a b c d).toNat (by omega) (fun p q r s => ⟨[.d (p2 a b), .d (p2 c d), .d (.list ((List.range ((lenI a b c d).toNat + 1)).map (ptI a b c d))), .un, .d (p2 p q), .d (p2 r s)],
      [.d (p2 a b), .d (p2 c d), .d (.list ((List.range ((lenI a b c d).toNat + 1)).map (ptI a b c d))), .un, .d (p2 p q), .d (p2 r s)], [.d (p2 a b), .d (p2 c d), .d (.list ((List.range ((lenI a b c d).toNat + 1)).map (ptI a b c d))), .un, .d (p2 p q), .d (p2 r s)], rfl, rfl, by
      have l2 : (2 : Nat) ≤ sizeLine := by decide
      simp only [eC_ap, eV_ap, eOp_ap, eUn_ap, bB_ap, bAnd_ap, bOr_ap, bNot_ap, eAnd_ap, eOr_ap, eNot_ap, eIf_ap, eIsN_ap, lNil_ap, lCons_ap, eTup_ap, nLst_ap, eL_ap, nCat_ap, qR_ap, qN_ap, qV_ap, eLenQ_ap, eCB_ap, eTupleQ_ap, nListQ_ap, eIsi_ap, oNo_ap, oSome_ap, eSl_ap, nSl_ap, eIdxV_ap, iR_ap, iZp_ap, iZp3_ap, iEnA_ap, nComp_ap, sNext_ap, sSeq_ap, sIf_ap, sRet_ap, sDrop_ap, sAsg_ap, sSetN_ap, sRaise_ap, sFor_ap, aNil_ap, aDt_ap, aLk_ap, aFn_ap, eCall_ap, eCallN_ap, fb_nx, fb_rt, fb_ex, bind_ok, bind_ex, bind_no, fl_ok, fl_ex, fl_no, lift_some, lift_none, pySub_i, pyAdd_i, pyMax_i, pyAbs_i, pyLe_i, pyLt_i, pyGt_i, pyGe_i, pyEq_i, pyNe_i, py1, py2, asB, hasV, hasS, idxS, agSv, lks, gN, gT, gsC, gsN, wipeA, rstA, keepD, isFn, List.getElem?_cons_zero, List.getElem?_cons_succ, List.set_cons_zero, List.set_cons_succ, List.length_cons, List.length_nil, List.map_cons, List.map_nil, List.getD_cons_zero, List.getD_cons_succ, List.take_succ_cons, List.take_zero, List.take_nil, List.drop_succ_cons, List.drop_zero, List.drop_nil, List.append_nil, List.nil_append, List.cons_append, Option.bind_some, Option.map_some, Nat.zero_add, Nat.reduceAdd, Nat.reduceSub, Nat.reduceLeDiff, Nat.reduceEqDiff, if_true, if_false, Bool.not_true, Bool.not_false, Bool.true_and, Bool.false_and, Bool.and_true, decide_true, decide_false, List.all_nil, List.all_cons, and_self, and_true, true_and, ite_true, ite_false, reduceIte, List.replicate_zero, List.reduceReplicate, List.nodup_cons, List.nodup_nil, List.mem_cons, List.not_mem_nil, List.mem_singleton, or_false, or_self, not_false_eq_true, not_true_eq_false, wb, chg, isO, Bool.false_eq_true, Nat.reduceEqDiff, Nat.one_ne_zero, idx0, idx1, idx2, idx3, ix4_0, ix4_1, sPut_ap, pyIdx_l, pyIdx_t, Bool.or_false, Bool.or_true, Bool.true_or, Bool.false_or, beq_self_eq_true, l2], rfl⟩)
  rw [← tn] at c2
  have sl : ∀ xs : List PyData, pySl (.list xs) (some 1) none = some (.list (cutD xs (some 1) none)) := fun _ => rfl
  have so : ∀ xs : List PyData, seqOf (.list xs) = some (true, xs) := fun _ => rfl
  simp only [eC_ap, eV_ap, eOp_ap, eUn_ap, bB_ap, bAnd_ap, bOr_ap, bNot_ap, eAnd_ap, eOr_ap, eNot_ap, eIf_ap, eIsN_ap, lNil_ap, lCons_ap, eTup_ap, nLst_ap, eL_ap, nCat_ap, qR_ap, qN_ap, qV_ap, eLenQ_ap, eCB_ap, eTupleQ_ap, nListQ_ap, eIsi_ap, oNo_ap, oSome_ap, eSl_ap, nSl_ap, eIdxV_ap, iR_ap, iZp_ap, iZp3_ap, iEnA_ap, nComp_ap, sNext_ap, sSeq_ap, sIf_ap, sRet_ap, sDrop_ap, sAsg_ap, sSetN_ap, sRaise_ap, sFor_ap, aNil_ap, aDt_ap, aLk_ap, aFn_ap, eCall_ap, eCallN_ap, fb_nx, fb_rt, fb_ex, bind_ok, bind_ex, bind_no, fl_ok, fl_ex, fl_no, lift_some, lift_none, pySub_i, pyAdd_i, pyMax_i, pyAbs_i, pyLe_i, pyLt_i, pyGt_i, pyGe_i, pyEq_i, pyNe_i, py1, py2, asB, hasV, hasS, idxS, agSv, lks, gN, gT, gsC, gsN, wipeA, rstA, keepD, isFn, List.getElem?_cons_zero, List.getElem?_cons_succ, List.set_cons_zero, List.set_cons_succ, List.length_cons, List.length_nil, List.map_cons, List.map_nil, List.getD_cons_zero, List.getD_cons_succ, List.take_succ_cons, List.take_zero, List.take_nil, List.drop_succ_cons, List.drop_zero, List.drop_nil, List.append_nil, List.nil_append, List.cons_append, Option.bind_some, Option.map_some, Nat.zero_add, Nat.reduceAdd, Nat.reduceSub, Nat.reduceLeDiff, Nat.reduceEqDiff, if_true, if_false, Bool.not_true, Bool.not_false, Bool.true_and, Bool.false_and, Bool.and_true, decide_true, decide_false, List.all_nil, List.all_cons, and_self, and_true, true_and, ite_true, ite_false, reduceIte, List.replicate_zero, List.reduceReplicate, List.nodup_cons, List.nodup_nil, List.mem_cons, List.not_mem_nil, List.mem_singleton, or_false, or_self, not_false_eq_true, not_true_eq_false, wb, chg, isO, Bool.false_eq_true, Nat.reduceEqDiff, Nat.one_ne_zero, idx0, idx1, idx2, idx3, ix4_0, ix4_1, sPut_ap, pyIdx_l, pyIdx_t, Bool.or_false, Bool.or_true, Bool.true_or, Bool.false_or, beq_self_eq_true, m_check, r1, c1, sl, c2, so, due]
theorem m_line_no (x y : PyData) (h : isSpot x = false) : m_f_line_steps fa [.d x, .d y] = .ex "Nothing" [.d x, .d y] := by
  unfold m_f_line_steps fnR b_f_line_steps
  simp only [eC_ap, eV_ap, eOp_ap, eUn_ap, bB_ap, bAnd_ap, bOr_ap, bNot_ap, eAnd_ap, eOr_ap, eNot_ap, eIf_ap, eIsN_ap, lNil_ap, lCons_ap, eTup_ap, nLst_ap, eL_ap, nCat_ap, qR_ap, qN_ap, qV_ap, eLenQ_ap, eCB_ap, eTupleQ_ap, nListQ_ap, eIsi_ap, oNo_ap, oSome_ap, eSl_ap, nSl_ap, eIdxV_ap, iR_ap, iZp_ap, iZp3_ap, iEnA_ap, nComp_ap, sNext_ap, sSeq_ap, sIf_ap, sRet_ap, sDrop_ap, sAsg_ap, sSetN_ap, sRaise_ap, sFor_ap, aNil_ap, aDt_ap, aLk_ap, aFn_ap, eCall_ap, eCallN_ap, fb_nx, fb_rt, fb_ex, bind_ok, bind_ex, bind_no, fl_ok, fl_ex, fl_no, lift_some, lift_none, pySub_i, pyAdd_i, pyMax_i, pyAbs_i, pyLe_i, pyLt_i, pyGt_i, pyGe_i, pyEq_i, pyNe_i, py1, py2, asB, hasV, hasS, idxS, agSv, lks, gN, gT, gsC, gsN, wipeA, rstA, keepD, isFn, List.getElem?_cons_zero, List.getElem?_cons_succ, List.set_cons_zero, List.set_cons_succ, List.length_cons, List.length_nil, List.map_cons, List.map_nil, List.getD_cons_zero, List.getD_cons_succ, List.take_succ_cons, List.take_zero, List.take_nil, List.drop_succ_cons, List.drop_zero, List.drop_nil, List.append_nil, List.nil_append, List.cons_append, Option.bind_some, Option.map_some, Nat.zero_add, Nat.reduceAdd, Nat.reduceSub, Nat.reduceLeDiff, Nat.reduceEqDiff, if_true, if_false, Bool.not_true, Bool.not_false, Bool.true_and, Bool.false_and, Bool.and_true, decide_true, decide_false, List.all_nil, List.all_cons, and_self, and_true, true_and, ite_true, ite_false, reduceIte, List.replicate_zero, List.reduceReplicate, List.nodup_cons, List.nodup_nil, List.mem_cons, List.not_mem_nil, List.mem_singleton, or_false, or_self, not_false_eq_true, not_true_eq_false, wb, chg, isO, Bool.false_eq_true, Nat.reduceEqDiff, Nat.one_ne_zero, idx0, idx1, idx2, idx3, ix4_0, ix4_1, sPut_ap, pyIdx_l, pyIdx_t, Bool.or_false, Bool.or_true, Bool.true_or, Bool.false_or, beq_self_eq_true, m_check_no x h y]
end K_k33

namespace K_k33
open PySem L2 Evl RZ PyProof.Rows AX
variable {fa : Str → Addr}
theorem m_law_line {a b c d : Int} (ha : sm a) (hb : sm b) (hc : sm c) (hd : sm d) (hk : (lenI a b c d).natAbs ≤ 100000) : m_f_law_line_steps fa [.d (p2 a b), .d (p2 c d)] = .ok (.tuple (due a b c d)) [.d (p2 a b), .d (p2 c d)] := by
  unfold m_f_law_line_steps fnR b_f_law_line_steps
  have l0 := len_nonneg a b c d
  have l1 : (1 : Nat) ≤ sizeLine := by decide
  have r1 := iRng2 (rl := lCons (eC (.int 1)) (lCons (eOp pyAdd (eV 2) (eC (.int 1))) lNil)) (ss := [.d (p2 a b), .d (p2 c d), .d (.int (lenI a b c d)), .own [p2 a b], .un, .un, .un, .un, .un]) (s := [.d (p2 a b), .d (p2 c d), .d (.int (lenI a b c d)), .own [p2 a b], .un, .un, .un, .un, .un])
    (i := 1) (j := lenI a b c d + 1) (by simp only [eC_ap, eV_ap, eOp_ap, eUn_ap, bB_ap, bAnd_ap, bOr_ap, bNot_ap, eAnd_ap, eOr_ap, eNot_ap, eIf_ap, eIsN_ap, lNil_ap, lCons_ap, eTup_ap, nLst_ap, eL_ap, nCat_ap, qR_ap, qN_ap, qV_ap, eLenQ_ap, eCB_ap, eTupleQ_ap, nListQ_ap, eIsi_ap, oNo_ap, oSome_ap, eSl_ap, nSl_ap, eIdxV_ap, iR_ap, iZp_ap, iZp3_ap, iEnA_ap, nComp_ap, sNext_ap, sSeq_ap, sIf_ap, sRet_ap, sDrop_ap, sAsg_ap, sSetN_ap, sRaise_ap, sFor_ap, aNil_ap, aDt_ap, aLk_ap, aFn_ap, eCall_ap, eCallN_ap, fb_nx, fb_rt, fb_ex, bind_ok, bind_ex, bind_no, fl_ok, fl_ex, fl_no, lift_some, lift_none, pySub_i, pyAdd_i, pyMax_i, pyAbs_i, pyLe_i, pyLt_i, pyGt_i, pyGe_i, pyEq_i, pyNe_i, py1, py2, asB, hasV, hasS, idxS, agSv, lks, gN, gT, gsC, gsN, wipeA, rstA, keepD, isFn, List.getElem?_cons_zero, List.getElem?_cons_succ, List.set_cons_zero, List.set_cons_succ, List.length_cons, List.length_nil, List.map_cons, List.map_nil, List.getD_cons_zero, List.getD_cons_succ, List.take_succ_cons, List.take_zero, List.take_nil, List.drop_succ_cons, List.drop_zero, List.drop_nil, List.append_nil, List.nil_append, List.cons_append, Option.bind_some, Option.map_some, Nat.zero_add, Nat.reduceAdd, Nat.reduceSub, Nat.reduceLeDiff, Nat.reduceEqDiff, if_true, if_false, Bool.not_true, Bool.not_false, Bool.true_and, Bool.false_and, Bool.and_true, decide_true, decide_false, List.all_nil, List.all_cons, and_self, and_true, true_and, ite_true, ite_false, reduceIte, List.replicate_zero, List.reduceReplicate, List.nodup_cons, List.nodup_nil, List.mem_cons, List.not_mem_nil, List.mem_singleton, or_false, or_self, not_false_eq_true, not_true_eq_false, wb, chg, isO, Bool.false_eq_true, Nat.reduceEqDiff, Nat.one_ne_zero, idx0, idx1, idx2, idx3, ix4_0, ix4_1, sPut_ap, pyIdx_l, pyIdx_t, Bool.or_false, Bool.or_true, Bool.true_or, Bool.false_or, beq_self_eq_true]) (by decide) (by omega)
  have tn : (lenI a b c d + 1 - 1).toNat = (lenI a b c d).toNat := by omega
  rw [tn] at r1
  have len1 : max ((c - a).natAbs : Int) ((d - b).natAbs : Int) = lenI a b c d := rfl
  have f1 := forR_n (tg := gN 4) (body := sApp 3 (eTupleQ (qN (nComp [7, 8] (iZp (lCons (eV 0) (lCons (eV 1) lNil))) (gT 2 (gsC (gN 7) (gsC (gN 8) gsN))) (fun ss => .ok true ss) (eOp pyAdd (eV 7) (eOp pyDiv (eOp pyAdd (eOp pyMul (eOp pyMul (eC (.int 2)) (eV 4)) (eOp pySub (eV 8) (eV 7))) (eV 2)) (eOp pyMul (eC (.int 2)) (eV 2))))))))
    (fun k : Nat => .int (1 + (k : Nat))) (lenI a b c d).toNat (fun k ss => ∃ s4, ss = [.d (p2 a b), .d (p2 c d), .d (.int (lenI a b c d)), .own ((List.range (k + 1)).map (ptI a b c d)), s4, .un, .un, .un, .un])
    (by
      rintro x ss kl ⟨s4, rfl⟩
      refine ⟨[.d (p2 a b), .d (p2 c d), .d (.int (lenI a b c d)), .own ((List.range (x + 1)).map (ptI a b c d)), .d (.int (1 + (x : Nat))), .un, .un, .un, .un], [.d (p2 a b), .d (p2 c d), .d (.int (lenI a b c d)), .own ((List.range (x + 1 + 1)).map (ptI a b c d)), .d (.int (1 + (x : Nat))), .un, .un, .un, .un], rfl, .inl ?_, _, rfl⟩
      have z : zipD [.int a, .int b] [.int c, .int d] = [p2 a c, p2 b d] := rfl
      have q0 : (0 : Nat) < sizeLine := by decide
      have q1 : (1 : Nat) < sizeLine := by decide
      have e1 := pyMul_s (i := 2) (j := 1 + (x : Nat)) (by decide) (by omega)
      have m1 : (2 * (1 + (x : Int))).natAbs ≤ 400000 := by omega
      have e2 := pyMul_s (i := 2 * (1 + (x : Nat))) (j := c - a) (by omega) (by omega)
      have e3 := pyMul_s (i := 2 * (1 + (x : Nat))) (j := d - b) (by omega) (by omega)
      have e4 := pyMul_s (i := 2) (j := lenI a b c d) (by decide) (by omega)
      have e5 := fun i => pyDiv_big (i := i) (j := 2 * lenI a b c d) (by omega) (by omega)
      have g1 : a + (2 * (1 + (x : Int)) * (c - a) + lenI a b c d) / (2 * lenI a b c d) = at1 a c (lenI a b c d) ((x + 1 : Nat) : Int) := by
        unfold at1 near
        rw [Int.mul_assoc]
        congr 3
        push_cast
        rw [Int.add_comm 1]
      have g2 : b + (2 * (1 + (x : Int)) * (d - b) + lenI a b c d) / (2 * lenI a b c d) = at1 b d (lenI a b c d) ((x + 1 : Nat) : Int) := by
        unfold at1 near
        rw [Int.mul_assoc]
        congr 3
        push_cast
        rw [Int.add_comm 1]
      rw [sApp_own (xs := (List.range (x + 1)).map (ptI a b c d)) (d := ptI a b c d (x + 1)) (s := [.d (p2 a b), .d (p2 c d), .d (.int (lenI a b c d)), .own ((List.range (x + 1)).map (ptI a b c d)), .d (.int (1 + (x : Nat))), .un, .un, .un, .un]) rfl (by simp only [eC_ap, eV_ap, eOp_ap, eUn_ap, bB_ap, bAnd_ap, bOr_ap, bNot_ap, eAnd_ap, eOr_ap, eNot_ap, eIf_ap, eIsN_ap, lNil_ap, lCons_ap, eTup_ap, nLst_ap, eL_ap, nCat_ap, qR_ap, qN_ap, qV_ap, eLenQ_ap, eCB_ap, eTupleQ_ap, nListQ_ap, eIsi_ap, oNo_ap, oSome_ap, eSl_ap, nSl_ap, eIdxV_ap, iR_ap, iZp_ap, iZp3_ap, iEnA_ap, nComp_ap, sNext_ap, sSeq_ap, sIf_ap, sRet_ap, sDrop_ap, sAsg_ap, sSetN_ap, sRaise_ap, sFor_ap, aNil_ap, aDt_ap, aLk_ap, aFn_ap, eCall_ap, eCallN_ap, fb_nx, fb_rt, fb_ex, bind_ok, bind_ex, bind_no, fl_ok, fl_ex, fl_no, lift_some, lift_none, pySub_i, pyAdd_i, pyMax_i, pyAbs_i, pyLe_i, pyLt_i, pyGt_i, pyGe_i, pyEq_i, pyNe_i, py1, py2, asB, hasV, hasS, idxS, agSv, lks, gN, gT, gsC, gsN, wipeA, rstA, keepD, isFn, List.getElem?_cons_zero, List.getElem?_cons_succ, List.set_cons_zero, List.set_cons_succ, List.length_cons, List.length_nil, List.map_cons, List.map_nil, List.getD_cons_zero, List.getD_cons_succ, List.take_succ_cons, List.take_zero, List.take_nil, List.drop_succ_cons, List.drop_zero, List.drop_nil, List.append_nil, List.nil_append, List.cons_append, Option.bind_some, Option.map_some, Nat.zero_add, Nat.reduceAdd, Nat.reduceSub, Nat.reduceLeDiff, Nat.reduceEqDiff, if_true, if_false, Bool.not_true, Bool.not_false, Bool.true_and, Bool.false_and, Bool.and_true, decide_true, decide_false, List.all_nil, List.all_cons, and_self, and_true, true_and, ite_true, ite_false, reduceIte, List.replicate_zero, List.reduceReplicate, List.nodup_cons, List.nodup_nil, List.mem_cons, List.not_mem_nil, List.mem_singleton, or_false, or_self, not_false_eq_true, not_true_eq_false, wb, chg, isO, Bool.false_eq_true, Nat.reduceEqDiff, Nat.one_ne_zero, idx0, idx1, idx2, idx3, ix4_0, ix4_1, sPut_ap, pyIdx_l, pyIdx_t, Bool.or_false, Bool.or_true, Bool.true_or, Bool.false_or, beq_self_eq_true, z, compR, q0, q1, e1, e2, e3, e4, e5, g1, g2, ptI]) rfl (by rw [List.length_map, List.length_range]; exact Nat.lt_of_le_of_lt (by omega) (show 200000 < sizeLine by decide))]
      rw [List.range_succ (n := x + 1), List.map_append]
      rfl)
    [.d (p2 a b), .d (p2 c d), .d (.int (lenI a b c d)), .own [p2 a b], .un, .un, .un, .un, .un] ⟨.un, by
      show _ = ([.d (p2 a b), .d (p2 c d), .d (.int (lenI a b c d)), .own [ptI a b c d 0], .un, .un, .un, .un, .un] : AS); rw [ptI0]⟩
  obtain ⟨s2, f2, s4, rfl⟩ := f1
  have c2 := diffs (tg := gT 2 (gsC (gN 5) (gsC (gN 6) gsN))) (vs := [5, 6]) (rc := fun ss => .ok true ss) (re := eTup (lCons (eOp pySub (eIdxV 6 (eC (.int 0))) (eIdxV 5 (eC (.int 0)))) (lCons (eOp pySub (eIdxV 6 (eC (.int 1))) (eIdxV 5 (eC (.int 1)))) lNil)))
    (ss := [.d (p2 a b), .d (p2 c d), .d (.int (lenI a b c d)), .d (.list ((List.range ((lenI a b c d).toNat + 1)).map (ptI a b c d))), s4, .un, .un, .un, .un]) a b c d (lenI a b c d).toNat (by omega) (fun p q r s => ⟨[.d (p2 a b), .d (p2 c d), .d (.int (lenI a b c d)), .d (.list ((List.range ((lenI a b c d).toNat + 1)).map (ptI a b c d))), s4, .d (p2 p q), .d (p2 r s), .un, .un], [.d (p2 a b), .d (p2 c d), .d (.int (lenI a b c d)), .d (.list ((List.range ((lenI a b c d).toNat + 1)).map (ptI a b c d))), s4, .d (p2 p q), .d (p2 r s), .un, .un], [.d (p2 a b), .d (p2 c d), .d (.int (lenI a b c d)), .d (.list ((List.range ((lenI a b c d).toNat + 1)).map (ptI a b c d))), s4, .d (p2 p q), .d (p2 r s), .un, .un], rfl, rfl, by
      have l2 : (2 : Nat) ≤ sizeLine := by decide
      simp only [eC_ap, eV_ap, eOp_ap, eUn_ap, bB_ap, bAnd_ap, bOr_ap, bNot_ap, eAnd_ap, eOr_ap, eNot_ap, eIf_ap, eIsN_ap, lNil_ap, lCons_ap, eTup_ap, nLst_ap, eL_ap, nCat_ap, qR_ap, qN_ap, qV_ap, eLenQ_ap, eCB_ap, eTupleQ_ap, nListQ_ap, eIsi_ap, oNo_ap, oSome_ap, eSl_ap, nSl_ap, eIdxV_ap, iR_ap, iZp_ap, iZp3_ap, iEnA_ap, nComp_ap, sNext_ap, sSeq_ap, sIf_ap, sRet_ap, sDrop_ap, sAsg_ap, sSetN_ap, sRaise_ap, sFor_ap, aNil_ap, aDt_ap, aLk_ap, aFn_ap, eCall_ap, eCallN_ap, fb_nx, fb_rt, fb_ex, bind_ok, bind_ex, bind_no, fl_ok, fl_ex, fl_no, lift_some, lift_none, pySub_i, pyAdd_i, pyMax_i, pyAbs_i, pyLe_i, pyLt_i, pyGt_i, pyGe_i, pyEq_i, pyNe_i, py1, py2, asB, hasV, hasS, idxS, agSv, lks, gN, gT, gsC, gsN, wipeA, rstA, keepD, isFn, List.getElem?_cons_zero, List.getElem?_cons_succ, List.set_cons_zero, List.set_cons_succ, List.length_cons, List.length_nil, List.map_cons, List.map_nil, List.getD_cons_zero, List.getD_cons_succ, List.take_succ_cons, List.take_zero, List.take_nil, List.drop_succ_cons, List.drop_zero, List.drop_nil, List.append_nil, List.nil_append, List.cons_append, Option.bind_some, Option.map_some, Nat.zero_add, Nat.reduceAdd, Nat.reduceSub, Nat.reduceLeDiff, Nat.reduceEqDiff, if_true, if_false, Bool.not_true, Bool.not_false, Bool.true_and, Bool.false_and, Bool.and_true, decide_true, decide_false, List.all_nil, List.all_cons, and_self, and_true, true_and, ite_true, ite_false, reduceIte, List.replicate_zero, List.reduceReplicate, List.nodup_cons, List.nodup_nil, List.mem_cons, List.not_mem_nil, List.mem_singleton, or_false, or_self, not_false_eq_true, not_true_eq_false, wb, chg, isO, Bool.false_eq_true, Nat.reduceEqDiff, Nat.one_ne_zero, idx0, idx1, idx2, idx3, ix4_0, ix4_1, sPut_ap, pyIdx_l, pyIdx_t, Bool.or_false, Bool.or_true, Bool.true_or, Bool.false_or, beq_self_eq_true, l2], rfl⟩)
  have sl : ∀ xs : List PyData, pySl (.list xs) (some 1) none = some (.list (cutD xs (some 1) none)) := fun _ => rfl
  simp only [eC_ap, eV_ap, eOp_ap, eUn_ap, bB_ap, bAnd_ap, bOr_ap, bNot_ap, eAnd_ap, eOr_ap, eNot_ap, eIf_ap, eIsN_ap, lNil_ap, lCons_ap, eTup_ap, nLst_ap, eL_ap, nCat_ap, qR_ap, qN_ap, qV_ap, eLenQ_ap, eCB_ap, eTupleQ_ap, nListQ_ap, eIsi_ap, oNo_ap, oSome_ap, eSl_ap, nSl_ap, eIdxV_ap, iR_ap, iZp_ap, iZp3_ap, iEnA_ap, nComp_ap, sNext_ap, sSeq_ap, sIf_ap, sRet_ap, sDrop_ap, sAsg_ap, sSetN_ap, sRaise_ap, sFor_ap, aNil_ap, aDt_ap, aLk_ap, aFn_ap, eCall_ap, eCallN_ap, fb_nx, fb_rt, fb_ex, bind_ok, bind_ex, bind_no, fl_ok, fl_ex, fl_no, lift_some, lift_none, pySub_i, pyAdd_i, pyMax_i, pyAbs_i, pyLe_i, pyLt_i, pyGt_i, pyGe_i, pyEq_i, pyNe_i, py1, py2, asB, hasV, hasS, idxS, agSv, lks, gN, gT, gsC, gsN, wipeA, rstA, keepD, isFn, List.getElem?_cons_zero, List.getElem?_cons_succ, List.set_cons_zero, List.set_cons_succ, List.length_cons, List.length_nil, List.map_cons, List.map_nil, List.getD_cons_zero, List.getD_cons_succ, List.take_succ_cons, List.take_zero, List.take_nil, List.drop_succ_cons, List.drop_zero, List.drop_nil, List.append_nil, List.nil_append, List.cons_append, Option.bind_some, Option.map_some, Nat.zero_add, Nat.reduceAdd, Nat.reduceSub, Nat.reduceLeDiff, Nat.reduceEqDiff, if_true, if_false, Bool.not_true, Bool.not_false, Bool.true_and, Bool.false_and, Bool.and_true, decide_true, decide_false, List.all_nil, List.all_cons, and_self, and_true, true_and, ite_true, ite_false, reduceIte, List.replicate_zero, List.reduceReplicate, List.nodup_cons, List.nodup_nil, List.mem_cons, List.not_mem_nil, List.mem_singleton, or_false, or_self, not_false_eq_true, not_true_eq_false, wb, chg, isO, Bool.false_eq_true, Nat.reduceEqDiff, Nat.one_ne_zero, idx0, idx1, idx2, idx3, ix4_0, ix4_1, sPut_ap, pyIdx_l, pyIdx_t, Bool.or_false, Bool.or_true, Bool.true_or, Bool.false_or, beq_self_eq_true, len1, l1, r1, f2, sl, c2, due]
end K_k33

namespace K_k33
open PySem L2 Evl RZ PyProof.Rows AX
variable {fa : Str → Addr}
/-! ### the spots that steps lead to -/
abbrev pp (q : Int × Int) : PyData := p2 q.1 q.2
def sums : Int × Int → List (Int × Int) → List (Int × Int)
  | p, [] => [p]
  | p, q :: r => p :: sums (p.1 + q.1, p.2 + q.2) r
theorem sums_len (p : Int × Int) (l : List (Int × Int)) : (sums p l).length = l.length + 1 := by
  induction l generalizing p with
  | nil => rfl
  | cons q r ih => simp [sums, ih]
theorem sums_ne (p : Int × Int) (l : List (Int × Int)) : sums p l ≠ [] := by cases l <;> simp [sums]
/-- one turn of both loops: the list grows by the next spot -/
theorem walk_steps {body : AS → Fl} {tg : Tg} (f : Int × Int → PyData) (ss0 : List PyData → AS → AS)
    (st : ∀ (done : List PyData) (p q : Int × Int) (z : AS), done.length < 1000000 → ∃ s1 z2, tg (f q) (ss0 (done ++ [pp p]) z) = some s1 ∧ body s1 = .nx (ss0 (done ++ [pp p] ++ [pp (p.1 + q.1, p.2 + q.2)]) z2)) :
    ∀ (l : List (Int × Int)) (done : List PyData) (p : Int × Int) (z : AS), done.length + l.length ≤ 1000000 → ∃ z2, forR tg body (l.map f) (ss0 (done ++ [pp p]) z) = .nx (ss0 (done ++ (sums p l).map pp) z2)
  | [], done, p, z, _ => ⟨z, rfl⟩
  | q :: r, done, p, z, h => by
    rw [List.length_cons] at h
    obtain ⟨s1, z2, h1, h2⟩ := st done p q z (by omega)
    obtain ⟨z3, h3⟩ := walk_steps f ss0 st r (done ++ [pp p]) (p.1 + q.1, p.2 + q.2) z2 (by rw [List.length_append, List.length_singleton]; omega)
    refine ⟨z3, ?_⟩
    rw [List.map_cons, forR, h1]
    dsimp only
    rw [h2]
    dsimp only
    rw [h3]
    simp [sums]
theorem m_spots (p : Int × Int) (l : List (Int × Int)) (hl : l.length ≤ 100000) : m_f_spots fa [.d (pp p), .d (.tuple (l.map pp))] = .ok (.tuple ((sums p l).map pp)) [.d (pp p), .d (.tuple (l.map pp))] := by
  unfold m_f_spots fnR b_f_spots
  have l1 : (1 : Nat) ≤ sizeLine := by decide
  have l2 : (2 : Nat) ≤ sizeLine := by decide
  have so : seqOf (.tuple (l.map pp)) = some (false, l.map pp) := rfl
  have neg1 : pyNeg (.int 1) = some (.int (-1)) := rfl
  obtain ⟨z2, f1⟩ := walk_steps (tg := gT 2 (gsC (gN 3) (gsC (gN 4) gsN))) (body := sApp 2 (eTup (lCons (eOp pyAdd (eOp pyIdx (eIdxV 2 (eUn pyNeg (eC (.int 1)))) (eC (.int 0))) (eV 3)) (lCons (eOp pyAdd (eOp pyIdx (eIdxV 2 (eUn pyNeg (eC (.int 1)))) (eC (.int 1))) (eV 4)) lNil)))) pp
    (fun xs z => [.d (pp p), .d (.tuple (l.map pp)), .own xs, z.getD 0 .un, z.getD 1 .un]) (fun done p1 q z hd => by
      refine ⟨[.d (pp p), .d (.tuple (l.map pp)), .own (done ++ [pp p1]), .d (.int q.1), .d (.int q.2)], [.d (.int q.1), .d (.int q.2)], rfl, ?_⟩
      rw [sApp_own (xs := done ++ [pp p1]) (d := pp (p1.1 + q.1, p1.2 + q.2)) (s := [.d (pp p), .d (.tuple (l.map pp)), .own (done ++ [pp p1]), .d (.int q.1), .d (.int q.2)]) rfl (by simp only [eC_ap, eV_ap, eOp_ap, eUn_ap, bB_ap, bAnd_ap, bOr_ap, bNot_ap, eAnd_ap, eOr_ap, eNot_ap, eIf_ap, eIsN_ap, lNil_ap, lCons_ap, eTup_ap, nLst_ap, eL_ap, nCat_ap, qR_ap, qN_ap, qV_ap, eLenQ_ap, eCB_ap, eTupleQ_ap, nListQ_ap, eIsi_ap, oNo_ap, oSome_ap, eSl_ap, nSl_ap, eIdxV_ap, iR_ap, iZp_ap, iZp3_ap, iEnA_ap, nComp_ap, sNext_ap, sSeq_ap, sIf_ap, sRet_ap, sDrop_ap, sAsg_ap, sSetN_ap, sRaise_ap, sFor_ap, aNil_ap, aDt_ap, aLk_ap, aFn_ap, eCall_ap, eCallN_ap, fb_nx, fb_rt, fb_ex, bind_ok, bind_ex, bind_no, fl_ok, fl_ex, fl_no, lift_some, lift_none, pySub_i, pyAdd_i, pyMax_i, pyAbs_i, pyLe_i, pyLt_i, pyGt_i, pyGe_i, pyEq_i, pyNe_i, py1, py2, asB, hasV, hasS, idxS, agSv, lks, gN, gT, gsC, gsN, wipeA, rstA, keepD, isFn, List.getElem?_cons_zero, List.getElem?_cons_succ, List.set_cons_zero, List.set_cons_succ, List.length_cons, List.length_nil, List.map_cons, List.map_nil, List.getD_cons_zero, List.getD_cons_succ, List.take_succ_cons, List.take_zero, List.take_nil, List.drop_succ_cons, List.drop_zero, List.drop_nil, List.append_nil, List.nil_append, List.cons_append, Option.bind_some, Option.map_some, Nat.zero_add, Nat.reduceAdd, Nat.reduceSub, Nat.reduceLeDiff, Nat.reduceEqDiff, if_true, if_false, Bool.not_true, Bool.not_false, Bool.true_and, Bool.false_and, Bool.and_true, decide_true, decide_false, List.all_nil, List.all_cons, and_self, and_true, true_and, ite_true, ite_false, reduceIte, List.replicate_zero, List.reduceReplicate, List.nodup_cons, List.nodup_nil, List.mem_cons, List.not_mem_nil, List.mem_singleton, or_false, or_self, not_false_eq_true, not_true_eq_false, wb, chg, isO, Bool.false_eq_true, Nat.reduceEqDiff, Nat.one_ne_zero, idx0, idx1, idx2, idx3, ix4_0, ix4_1, sPut_ap, pyIdx_l, pyIdx_t, Bool.or_false, Bool.or_true, Bool.true_or, Bool.false_or, beq_self_eq_true, neg1, at_last, l2]) rfl (by rw [List.length_append, List.length_singleton]; exact Nat.lt_of_le_of_lt (by omega) (show 1000001 < sizeLine by decide))]
      rfl) l [] p [] (by rw [List.length_nil]; omega)
  have f1 : forR (gT 2 (gsC (gN 3) (gsC (gN 4) gsN))) (sApp 2 (eTup (lCons (eOp pyAdd (eOp pyIdx (eIdxV 2 (eUn pyNeg (eC (.int 1)))) (eC (.int 0))) (eV 3)) (lCons (eOp pyAdd (eOp pyIdx (eIdxV 2 (eUn pyNeg (eC (.int 1)))) (eC (.int 1))) (eV 4)) lNil)))) (l.map pp) [.d (pp p), .d (.tuple (l.map pp)), .own [pp p], .un, .un] = _ := f1
  simp only [eC_ap, eV_ap, eOp_ap, eUn_ap, bB_ap, bAnd_ap, bOr_ap, bNot_ap, eAnd_ap, eOr_ap, eNot_ap, eIf_ap, eIsN_ap, lNil_ap, lCons_ap, eTup_ap, nLst_ap, eL_ap, nCat_ap, qR_ap, qN_ap, qV_ap, eLenQ_ap, eCB_ap, eTupleQ_ap, nListQ_ap, eIsi_ap, oNo_ap, oSome_ap, eSl_ap, nSl_ap, eIdxV_ap, iR_ap, iZp_ap, iZp3_ap, iEnA_ap, nComp_ap, sNext_ap, sSeq_ap, sIf_ap, sRet_ap, sDrop_ap, sAsg_ap, sSetN_ap, sRaise_ap, sFor_ap, aNil_ap, aDt_ap, aLk_ap, aFn_ap, eCall_ap, eCallN_ap, fb_nx, fb_rt, fb_ex, bind_ok, bind_ex, bind_no, fl_ok, fl_ex, fl_no, lift_some, lift_none, pySub_i, pyAdd_i, pyMax_i, pyAbs_i, pyLe_i, pyLt_i, pyGt_i, pyGe_i, pyEq_i, pyNe_i, py1, py2, asB, hasV, hasS, idxS, agSv, lks, gN, gT, gsC, gsN, wipeA, rstA, keepD, isFn, List.getElem?_cons_zero, List.getElem?_cons_succ, List.set_cons_zero, List.set_cons_succ, List.length_cons, List.length_nil, List.map_cons, List.map_nil, List.getD_cons_zero, List.getD_cons_succ, List.take_succ_cons, List.take_zero, List.take_nil, List.drop_succ_cons, List.drop_zero, List.drop_nil, List.append_nil, List.nil_append, List.cons_append, Option.bind_some, Option.map_some, Nat.zero_add, Nat.reduceAdd, Nat.reduceSub, Nat.reduceLeDiff, Nat.reduceEqDiff, if_true, if_false, Bool.not_true, Bool.not_false, Bool.true_and, Bool.false_and, Bool.and_true, decide_true, decide_false, List.all_nil, List.all_cons, and_self, and_true, true_and, ite_true, ite_false, reduceIte, List.replicate_zero, List.reduceReplicate, List.nodup_cons, List.nodup_nil, List.mem_cons, List.not_mem_nil, List.mem_singleton, or_false, or_self, not_false_eq_true, not_true_eq_false, wb, chg, isO, Bool.false_eq_true, Nat.reduceEqDiff, Nat.one_ne_zero, idx0, idx1, idx2, idx3, ix4_0, ix4_1, sPut_ap, pyIdx_l, pyIdx_t, Bool.or_false, Bool.or_true, Bool.true_or, Bool.false_or, beq_self_eq_true, l1, so, f1]
theorem m_law_spots (p : Int × Int) (l : List (Int × Int)) (hl : l.length ≤ 100000) : m_f_law_spots fa [.d (pp p), .d (.tuple (l.map pp))] = .ok (.list ((sums p l).map pp)) [.d (pp p), .d (.tuple (l.map pp))] := by
  unfold m_f_law_spots fnR b_f_law_spots
  have l1 : (1 : Nat) ≤ sizeLine := by decide
  have l2 : (2 : Nat) ≤ sizeLine := by decide
  have so : seqOf (.tuple (l.map pp)) = some (false, l.map pp) := rfl
  have neg1 : pyNeg (.int 1) = some (.int (-1)) := rfl
  obtain ⟨z2, f1⟩ := walk_steps (tg := gT 2 (gsC (gN 3) (gsC (gN 4) gsN))) (body := sApp 2 (eTup (lCons (eOp pyAdd (eOp pyIdx (eIdxV 2 (eUn pyNeg (eC (.int 1)))) (eC (.int 0))) (eV 3)) (lCons (eOp pyAdd (eOp pyIdx (eIdxV 2 (eUn pyNeg (eC (.int 1)))) (eC (.int 1))) (eV 4)) lNil)))) pp
    (fun xs z => [.d (pp p), .d (.tuple (l.map pp)), .own xs, z.getD 0 .un, z.getD 1 .un]) (fun done p1 q z hd => by
      refine ⟨[.d (pp p), .d (.tuple (l.map pp)), .own (done ++ [pp p1]), .d (.int q.1), .d (.int q.2)], [.d (.int q.1), .d (.int q.2)], rfl, ?_⟩
      rw [sApp_own (xs := done ++ [pp p1]) (d := pp (p1.1 + q.1, p1.2 + q.2)) (s := [.d (pp p), .d (.tuple (l.map pp)), .own (done ++ [pp p1]), .d (.int q.1), .d (.int q.2)]) rfl (by simp only [eC_ap, eV_ap, eOp_ap, eUn_ap, bB_ap, bAnd_ap, bOr_ap, bNot_ap, eAnd_ap, eOr_ap, eNot_ap, eIf_ap, eIsN_ap, lNil_ap, lCons_ap, eTup_ap, nLst_ap, eL_ap, nCat_ap, qR_ap, qN_ap, qV_ap, eLenQ_ap, eCB_ap, eTupleQ_ap, nListQ_ap, eIsi_ap, oNo_ap, oSome_ap, eSl_ap, nSl_ap, eIdxV_ap, iR_ap, iZp_ap, iZp3_ap, iEnA_ap, nComp_ap, sNext_ap, sSeq_ap, sIf_ap, sRet_ap, sDrop_ap, sAsg_ap, sSetN_ap, sRaise_ap, sFor_ap, aNil_ap, aDt_ap, aLk_ap, aFn_ap, eCall_ap, eCallN_ap, fb_nx, fb_rt, fb_ex, bind_ok, bind_ex, bind_no, fl_ok, fl_ex, fl_no, lift_some, lift_none, pySub_i, pyAdd_i, pyMax_i, pyAbs_i, pyLe_i, pyLt_i, pyGt_i, pyGe_i, pyEq_i, pyNe_i, py1, py2, asB, hasV, hasS, idxS, agSv, lks, gN, gT, gsC, gsN, wipeA, rstA, keepD, isFn, List.getElem?_cons_zero, List.getElem?_cons_succ, List.set_cons_zero, List.set_cons_succ, List.length_cons, List.length_nil, List.map_cons, List.map_nil, List.getD_cons_zero, List.getD_cons_succ, List.take_succ_cons, List.take_zero, List.take_nil, List.drop_succ_cons, List.drop_zero, List.drop_nil, List.append_nil, List.nil_append, List.cons_append, Option.bind_some, Option.map_some, Nat.zero_add, Nat.reduceAdd, Nat.reduceSub, Nat.reduceLeDiff, Nat.reduceEqDiff, if_true, if_false, Bool.not_true, Bool.not_false, Bool.true_and, Bool.false_and, Bool.and_true, decide_true, decide_false, List.all_nil, List.all_cons, and_self, and_true, true_and, ite_true, ite_false, reduceIte, List.replicate_zero, List.reduceReplicate, List.nodup_cons, List.nodup_nil, List.mem_cons, List.not_mem_nil, List.mem_singleton, or_false, or_self, not_false_eq_true, not_true_eq_false, wb, chg, isO, Bool.false_eq_true, Nat.reduceEqDiff, Nat.one_ne_zero, idx0, idx1, idx2, idx3, ix4_0, ix4_1, sPut_ap, pyIdx_l, pyIdx_t, Bool.or_false, Bool.or_true, Bool.true_or, Bool.false_or, beq_self_eq_true, neg1, at_last, l2]) rfl (by rw [List.length_append, List.length_singleton]; exact Nat.lt_of_le_of_lt (by omega) (show 1000001 < sizeLine by decide))]
      rfl) l [] p [] (by rw [List.length_nil]; omega)
  have f1 : forR (gT 2 (gsC (gN 3) (gsC (gN 4) gsN))) (sApp 2 (eTup (lCons (eOp pyAdd (eOp pyIdx (eIdxV 2 (eUn pyNeg (eC (.int 1)))) (eC (.int 0))) (eV 3)) (lCons (eOp pyAdd (eOp pyIdx (eIdxV 2 (eUn pyNeg (eC (.int 1)))) (eC (.int 1))) (eV 4)) lNil)))) (l.map pp) [.d (pp p), .d (.tuple (l.map pp)), .own [pp p], .un, .un] = _ := f1
  simp only [eC_ap, eV_ap, eOp_ap, eUn_ap, bB_ap, bAnd_ap, bOr_ap, bNot_ap, eAnd_ap, eOr_ap, eNot_ap, eIf_ap, eIsN_ap, lNil_ap, lCons_ap, eTup_ap, nLst_ap, eL_ap, nCat_ap, qR_ap, qN_ap, qV_ap, eLenQ_ap, eCB_ap, eTupleQ_ap, nListQ_ap, eIsi_ap, oNo_ap, oSome_ap, eSl_ap, nSl_ap, eIdxV_ap, iR_ap, iZp_ap, iZp3_ap, iEnA_ap, nComp_ap, sNext_ap, sSeq_ap, sIf_ap, sRet_ap, sDrop_ap, sAsg_ap, sSetN_ap, sRaise_ap, sFor_ap, aNil_ap, aDt_ap, aLk_ap, aFn_ap, eCall_ap, eCallN_ap, fb_nx, fb_rt, fb_ex, bind_ok, bind_ex, bind_no, fl_ok, fl_ex, fl_no, lift_some, lift_none, pySub_i, pyAdd_i, pyMax_i, pyAbs_i, pyLe_i, pyLt_i, pyGt_i, pyGe_i, pyEq_i, pyNe_i, py1, py2, asB, hasV, hasS, idxS, agSv, lks, gN, gT, gsC, gsN, wipeA, rstA, keepD, isFn, List.getElem?_cons_zero, List.getElem?_cons_succ, List.set_cons_zero, List.set_cons_succ, List.length_cons, List.length_nil, List.map_cons, List.map_nil, List.getD_cons_zero, List.getD_cons_succ, List.take_succ_cons, List.take_zero, List.take_nil, List.drop_succ_cons, List.drop_zero, List.drop_nil, List.append_nil, List.nil_append, List.cons_append, Option.bind_some, Option.map_some, Nat.zero_add, Nat.reduceAdd, Nat.reduceSub, Nat.reduceLeDiff, Nat.reduceEqDiff, if_true, if_false, Bool.not_true, Bool.not_false, Bool.true_and, Bool.false_and, Bool.and_true, decide_true, decide_false, List.all_nil, List.all_cons, and_self, and_true, true_and, ite_true, ite_false, reduceIte, List.replicate_zero, List.reduceReplicate, List.nodup_cons, List.nodup_nil, List.mem_cons, List.not_mem_nil, List.mem_singleton, or_false, or_self, not_false_eq_true, not_true_eq_false, wb, chg, isO, Bool.false_eq_true, Nat.reduceEqDiff, Nat.one_ne_zero, idx0, idx1, idx2, idx3, ix4_0, ix4_1, sPut_ap, pyIdx_l, pyIdx_t, Bool.or_false, Bool.or_true, Bool.true_or, Bool.false_or, beq_self_eq_true, l1, so, f1]
theorem steps_of {x : PyData} (h : isSteps x = true) : ∃ l : List (Int × Int), x = .tuple (l.map pp) ∧ ∀ q ∈ l, stp q.1 q.2 = true := by
  unfold isSteps at h
  split at h
  · rename_i xs
    have h1 := List.all_eq_true.mp h
    clear h
    have : ∃ l : List (Int × Int), xs = l.map pp ∧ ∀ q ∈ l, stp q.1 q.2 = true := by
      induction xs with
      | nil => exact ⟨[], rfl, fun q hq => absurd hq List.not_mem_nil⟩
      | cons y r ih =>
        obtain ⟨l, e, hl⟩ := ih fun z hz => h1 z (List.mem_cons_of_mem _ hz)
        have hy := h1 y List.mem_cons_self
        unfold isStep at hy
        split at hy
        · rename_i a b
          refine ⟨(a, b) :: l, by rw [e]; rfl, fun q hq => ?_⟩
          rcases List.mem_cons.mp hq with z | z
          · subst z; exact hy
          · exact hl q z
        · cases hy
    obtain ⟨l, e, hl⟩ := this
    exact ⟨l, by rw [e], hl⟩
  · cases h
end K_k33

namespace K_k33
open PySem L2 Evl RZ PyProof.Rows AX
variable {fa : Str → Addr}
def nrI (m a c i x : Int) : Bool := decide (2 * ((m * (x - a) - i * (c - a)).natAbs : Int) ≤ m)
def nearP (a b c d : Int) (i : Int) (p : Int × Int) : Bool := nrI (lenI a b c d) a c i p.1 && nrI (lenI a b c d) b d i p.2
theorem m_near {a b c d i x y : Int} (ha : sm a) (hb : sm b) (hc : sm c) (hd : sm d) (hi : i.natAbs ≤ 1000000) (hx : x.natAbs ≤ 1000000) (hy : y.natAbs ≤ 1000000) :
    m_f_is_near fa [.d (p2 a b), .d (p2 c d), .d (.int i), .d (p2 x y)] = .ok (.bool (nearP a b c d i (x, y))) [.d (p2 a b), .d (p2 c d), .d (.int i), .d (p2 x y)] := by
  unfold m_f_is_near fnR b_f_is_near
  have hm : (lenI a b c d).natAbs ≤ 200000 := by unfold lenI; omega
  have z : zip3D [.int x, .int y] [.int a, .int b] [.int c, .int d] = [.tuple [.int x, .int a, .int c], .tuple [.int y, .int b, .int d]] := rfl
  have q0 : (0 : Nat) < sizeLine := by decide
  have q1 : (1 : Nat) < sizeLine := by decide
  have e1 := pyMul_s (i := lenI a b c d) (j := x - a) (by omega) (by omega)
  have e2 := pyMul_s (i := lenI a b c d) (j := y - b) (by omega) (by omega)
  have e3 := pyMul_s (i := i) (j := c - a) (by omega) (by omega)
  have e4 := pyMul_s (i := i) (j := d - b) (by omega) (by omega)
  have k1 := mul_abs (a := lenI a b c d) (b := x - a) (A := 200000) (B := 2000000) (by omega) (by omega)
  have k2 := mul_abs (a := lenI a b c d) (b := y - b) (A := 200000) (B := 2000000) (by omega) (by omega)
  have k3 := mul_abs (a := i) (b := c - a) (A := 1000000) (B := 2000000) (by omega) (by omega)
  have k4 := mul_abs (a := i) (b := d - b) (A := 1000000) (B := 2000000) (by omega) (by omega)
  have e5 := pyMul_s (i := 2) (j := ((lenI a b c d * (x - a) - i * (c - a)).natAbs : Int)) (by decide) (by omega)
  have e6 := pyMul_s (i := 2) (j := ((lenI a b c d * (y - b) - i * (d - b)).natAbs : Int)) (by decide) (by omega)
  have so : ∀ xs : List PyData, seqOf (.list xs) = some (true, xs) := fun _ => rfl
  simp only [eC_ap, eV_ap, eOp_ap, eUn_ap, bB_ap, bAnd_ap, bOr_ap, bNot_ap, eAnd_ap, eOr_ap, eNot_ap, eIf_ap, eIsN_ap, lNil_ap, lCons_ap, eTup_ap, nLst_ap, eL_ap, nCat_ap, qR_ap, qN_ap, qV_ap, eLenQ_ap, eCB_ap, eTupleQ_ap, nListQ_ap, eIsi_ap, oNo_ap, oSome_ap, eSl_ap, nSl_ap, eIdxV_ap, iR_ap, iZp_ap, iZp3_ap, iEnA_ap, nComp_ap, sNext_ap, sSeq_ap, sIf_ap, sRet_ap, sDrop_ap, sAsg_ap, sSetN_ap, sRaise_ap, sFor_ap, aNil_ap, aDt_ap, aLk_ap, aFn_ap, eCall_ap, eCallN_ap, fb_nx, fb_rt, fb_ex, bind_ok, bind_ex, bind_no, fl_ok, fl_ex, fl_no, lift_some, lift_none, pySub_i, pyAdd_i, pyMax_i, pyAbs_i, pyLe_i, pyLt_i, pyGt_i, pyGe_i, pyEq_i, pyNe_i, py1, py2, asB, hasV, hasS, idxS, agSv, lks, gN, gT, gsC, gsN, wipeA, rstA, keepD, isFn, List.getElem?_cons_zero, List.getElem?_cons_succ, List.set_cons_zero, List.set_cons_succ, List.length_cons, List.length_nil, List.map_cons, List.map_nil, List.getD_cons_zero, List.getD_cons_succ, List.take_succ_cons, List.take_zero, List.take_nil, List.drop_succ_cons, List.drop_zero, List.drop_nil, List.append_nil, List.nil_append, List.cons_append, Option.bind_some, Option.map_some, Nat.zero_add, Nat.reduceAdd, Nat.reduceSub, Nat.reduceLeDiff, Nat.reduceEqDiff, if_true, if_false, Bool.not_true, Bool.not_false, Bool.true_and, Bool.false_and, Bool.and_true, decide_true, decide_false, List.all_nil, List.all_cons, and_self, and_true, true_and, ite_true, ite_false, reduceIte, List.replicate_zero, List.reduceReplicate, List.nodup_cons, List.nodup_nil, List.mem_cons, List.not_mem_nil, List.mem_singleton, or_false, or_self, not_false_eq_true, not_true_eq_false, wb, chg, isO, Bool.false_eq_true, Nat.reduceEqDiff, Nat.one_ne_zero, idx0, idx1, idx2, idx3, ix4_0, ix4_1, sPut_ap, pyIdx_l, pyIdx_t, Bool.or_false, Bool.or_true, Bool.true_or, Bool.false_or, beq_self_eq_true, m_length, z, compR, q0, q1, e1, e2, e3, e4, e5, e6, so]
  rw [eAllQ_ap]
  simp only [eC_ap, eV_ap, eOp_ap, eUn_ap, bB_ap, bAnd_ap, bOr_ap, bNot_ap, eAnd_ap, eOr_ap, eNot_ap, eIf_ap, eIsN_ap, lNil_ap, lCons_ap, eTup_ap, nLst_ap, eL_ap, nCat_ap, qR_ap, qN_ap, qV_ap, eLenQ_ap, eCB_ap, eTupleQ_ap, nListQ_ap, eIsi_ap, oNo_ap, oSome_ap, eSl_ap, nSl_ap, eIdxV_ap, iR_ap, iZp_ap, iZp3_ap, iEnA_ap, nComp_ap, sNext_ap, sSeq_ap, sIf_ap, sRet_ap, sDrop_ap, sAsg_ap, sSetN_ap, sRaise_ap, sFor_ap, aNil_ap, aDt_ap, aLk_ap, aFn_ap, eCall_ap, eCallN_ap, fb_nx, fb_rt, fb_ex, bind_ok, bind_ex, bind_no, fl_ok, fl_ex, fl_no, lift_some, lift_none, pySub_i, pyAdd_i, pyMax_i, pyAbs_i, pyLe_i, pyLt_i, pyGt_i, pyGe_i, pyEq_i, pyNe_i, py1, py2, asB, hasV, hasS, idxS, agSv, lks, gN, gT, gsC, gsN, wipeA, rstA, keepD, isFn, List.getElem?_cons_zero, List.getElem?_cons_succ, List.set_cons_zero, List.set_cons_succ, List.length_cons, List.length_nil, List.map_cons, List.map_nil, List.getD_cons_zero, List.getD_cons_succ, List.take_succ_cons, List.take_zero, List.take_nil, List.drop_succ_cons, List.drop_zero, List.drop_nil, List.append_nil, List.nil_append, List.cons_append, Option.bind_some, Option.map_some, Nat.zero_add, Nat.reduceAdd, Nat.reduceSub, Nat.reduceLeDiff, Nat.reduceEqDiff, if_true, if_false, Bool.not_true, Bool.not_false, Bool.true_and, Bool.false_and, Bool.and_true, decide_true, decide_false, List.all_nil, List.all_cons, and_self, and_true, true_and, ite_true, ite_false, reduceIte, List.replicate_zero, List.reduceReplicate, List.nodup_cons, List.nodup_nil, List.mem_cons, List.not_mem_nil, List.mem_singleton, or_false, or_self, not_false_eq_true, not_true_eq_false, wb, chg, isO, Bool.false_eq_true, Nat.reduceEqDiff, Nat.one_ne_zero, idx0, idx1, idx2, idx3, ix4_0, ix4_1, sPut_ap, pyIdx_l, pyIdx_t, Bool.or_false, Bool.or_true, Bool.true_or, Bool.false_or, beq_self_eq_true, compR, q0, q1, e5, e6, so, asBs, nearP, nrI]
  simp
def lastS : Int × Int → List (Int × Int) → Int × Int
  | p, [] => p
  | p, q :: r => lastS (p.1 + q.1, p.2 + q.2) r
theorem sums_last (p : Int × Int) (l : List (Int × Int)) : (sums p l).getLast? = some (lastS p l) := by
  induction l generalizing p with
  | nil => rfl
  | cons q r ih =>
    rw [sums, lastS, ← ih, List.getLast?_cons]
    cases h : (sums (p.1 + q.1, p.2 + q.2) r).getLast? with
    | none => exact absurd (List.getLast?_eq_none_iff.mp h) (sums_ne _ _)
    | some z => rfl
theorem eq_pp (e : Int × Int) (c d : Int) : pyEq (pp e) (p2 c d) = some (.bool (decide (e = (c, d)))) := by
  rw [pyEq_ok (n := 1) (m := 1) (okD_tuple fun x hx => by simp at hx; rcases hx with h | h <;> subst h <;> exact okD_int _ _) (okD_tuple fun x hx => by simp at hx; rcases hx with h | h <;> subst h <;> exact okD_int _ _) (by decide) (by decide)]
  congr 2
  obtain ⟨x, y⟩ := e
  show PyData.eqv (.tuple [.int x, .int y]) (.tuple [.int c, .int d]) = _
  simp only [PyData.eqv, PyData.eqvAll]
  rw [Bool.eq_iff_iff]
  simp
def fitsL (a b c d : Int) (l : List (Int × Int)) : Bool := decide (lastS (a, b) l = (c, d)) && (idx 0 (sums (a, b) l)).all fun q => nearP a b c d (q.1 : Nat) q.2
theorem stp_small {x y : Int} (h : stp x y = true) : x.natAbs ≤ 1 ∧ y.natAbs ≤ 1 := by
  have := of_decide_eq_true h
  omega
theorem sums_small : ∀ (l : List (Int × Int)) (p : Int × Int) (n : Nat), (∀ q ∈ l, stp q.1 q.2 = true) → p.1.natAbs ≤ n → p.2.natAbs ≤ n → ∀ z ∈ sums p l, z.1.natAbs ≤ n + l.length ∧ z.2.natAbs ≤ n + l.length
  | [], p, n, _, h1, h2, z, hz => by
    rw [sums, List.mem_singleton] at hz
    subst hz
    exact ⟨h1, h2⟩
  | q :: r, p, n, h, h1, h2, z, hz => by
    rw [sums, List.mem_cons] at hz
    rw [List.length_cons]
    rcases hz with hz | hz
    · subst hz
      exact ⟨by omega, by omega⟩
    · have hq := stp_small (h q List.mem_cons_self)
      have := sums_small r (p.1 + q.1, p.2 + q.2) (n + 1) (fun y hy => h y (List.mem_cons_of_mem _ hy)) (by show (p.1 + q.1).natAbs ≤ _; omega) (by show (p.2 + q.2).natAbs ≤ _; omega) z hz
      omega
theorem idx_mem {α : Type} : ∀ (l : List α) (k : Nat) (q : Nat × α), q ∈ idx k l → q.2 ∈ l ∧ q.1 < k + l.length
  | [], _, q, h => absurd h List.not_mem_nil
  | x :: r, k, q, h => by
    rw [idx, List.mem_cons] at h
    rcases h with h | h
    · subst h; exact ⟨List.mem_cons_self, by simp⟩
    · obtain ⟨h1, h2⟩ := idx_mem r (k + 1) q h
      exact ⟨List.mem_cons_of_mem _ h1, by simp; omega⟩
theorem idx_len {α : Type} : ∀ (l : List α) (k : Nat), (idx k l).length = l.length
  | [], _ => rfl
  | x :: r, k => by simp [idx, idx_len r]
/-- what a thing is to a line -/
def unpp : PyData → Int × Int
  | .tuple [.int a, .int b] => (a, b)
  | _ => (0, 0)
theorem unpp_map (l : List (Int × Int)) : (l.map pp).map unpp = l := by
  rw [List.map_map]
  have : unpp ∘ pp = id := rfl
  rw [this, List.map_id]
def fitsD (a b c d : Int) : PyData → Bool
  | .tuple xs => isSteps (.tuple xs) && decide ((xs.length : Int) = lenI a b c d) && fitsL a b c d (xs.map unpp)
  | _ => false
theorem m_is_line {a b c d : Int} (ha : sm a) (hb : sm b) (hc : sm c) (hd : sm d) (hk : (lenI a b c d).natAbs ≤ 100000) (x : PyData) (hx : ∀ xs, x = .tuple xs → xs.length ≤ 100000) :
    m_f_is_line_steps fa [.d (p2 a b), .d (p2 c d), .d x] = .ok (.bool (fitsD a b c d x)) [.d (p2 a b), .d (p2 c d), .d x] := by
  unfold m_f_is_line_steps fnR b_f_is_line_steps
  have ms := m_steps (fa := fa) x (fun xs e => Nat.le_trans (hx xs e) (by decide))
  cases h : isSteps x with
  | false =>
    have e : fitsD a b c d x = false := by
      cases x with
      | tuple xs => simp only [fitsD, h, Bool.false_and]
      | _ => rfl
    simp only [eC_ap, eV_ap, eOp_ap, eUn_ap, bB_ap, bAnd_ap, bOr_ap, bNot_ap, eAnd_ap, eOr_ap, eNot_ap, eIf_ap, eIsN_ap, lNil_ap, lCons_ap, eTup_ap, nLst_ap, eL_ap, nCat_ap, qR_ap, qN_ap, qV_ap, eLenQ_ap, eCB_ap, eTupleQ_ap, nListQ_ap, eIsi_ap, oNo_ap, oSome_ap, eSl_ap, nSl_ap, eIdxV_ap, iR_ap, iZp_ap, iZp3_ap, iEnA_ap, nComp_ap, sNext_ap, sSeq_ap, sIf_ap, sRet_ap, sDrop_ap, sAsg_ap, sSetN_ap, sRaise_ap, sFor_ap, aNil_ap, aDt_ap, aLk_ap, aFn_ap, eCall_ap, eCallN_ap, fb_nx, fb_rt, fb_ex, bind_ok, bind_ex, bind_no, fl_ok, fl_ex, fl_no, lift_some, lift_none, pySub_i, pyAdd_i, pyMax_i, pyAbs_i, pyLe_i, pyLt_i, pyGt_i, pyGe_i, pyEq_i, pyNe_i, py1, py2, asB, hasV, hasS, idxS, agSv, lks, gN, gT, gsC, gsN, wipeA, rstA, keepD, isFn, List.getElem?_cons_zero, List.getElem?_cons_succ, List.set_cons_zero, List.set_cons_succ, List.length_cons, List.length_nil, List.map_cons, List.map_nil, List.getD_cons_zero, List.getD_cons_succ, List.take_succ_cons, List.take_zero, List.take_nil, List.drop_succ_cons, List.drop_zero, List.drop_nil, List.append_nil, List.nil_append, List.cons_append, Option.bind_some, Option.map_some, Nat.zero_add, Nat.reduceAdd, Nat.reduceSub, Nat.reduceLeDiff, Nat.reduceEqDiff, if_true, if_false, Bool.not_true, Bool.not_false, Bool.true_and, Bool.false_and, Bool.and_true, decide_true, decide_false, List.all_nil, List.all_cons, and_self, and_true, true_and, ite_true, ite_false, reduceIte, List.replicate_zero, List.reduceReplicate, List.nodup_cons, List.nodup_nil, List.mem_cons, List.not_mem_nil, List.mem_singleton, or_false, or_self, not_false_eq_true, not_true_eq_false, wb, chg, isO, Bool.false_eq_true, Nat.reduceEqDiff, Nat.one_ne_zero, idx0, idx1, idx2, idx3, ix4_0, ix4_1, sPut_ap, pyIdx_l, pyIdx_t, Bool.or_false, Bool.or_true, Bool.true_or, Bool.false_or, beq_self_eq_true, m_check, ms, h, e]
  | true =>
    obtain ⟨l, rfl, hl⟩ := steps_of h
    have hll : l.length ≤ 100000 := by have := hx _ rfl; rwa [List.length_map] at this
    have pl : pyLen (.tuple (l.map pp)) = some (.int l.length) := by
      show some (PyData.int _) = _
      rw [List.length_map]
    cases hn : decide ((l.length : Int) = lenI a b c d) with
    | false =>
      have e : fitsD a b c d (.tuple (l.map pp)) = false := by
        simp only [fitsD, List.length_map, hn, Bool.and_false, Bool.false_and]
      simp only [eC_ap, eV_ap, eOp_ap, eUn_ap, bB_ap, bAnd_ap, bOr_ap, bNot_ap, eAnd_ap, eOr_ap, eNot_ap, eIf_ap, eIsN_ap, lNil_ap, lCons_ap, eTup_ap, nLst_ap, eL_ap, nCat_ap, qR_ap, qN_ap, qV_ap, eLenQ_ap, eCB_ap, eTupleQ_ap, nListQ_ap, eIsi_ap, oNo_ap, oSome_ap, eSl_ap, nSl_ap, eIdxV_ap, iR_ap, iZp_ap, iZp3_ap, iEnA_ap, nComp_ap, sNext_ap, sSeq_ap, sIf_ap, sRet_ap, sDrop_ap, sAsg_ap, sSetN_ap, sRaise_ap, sFor_ap, aNil_ap, aDt_ap, aLk_ap, aFn_ap, eCall_ap, eCallN_ap, fb_nx, fb_rt, fb_ex, bind_ok, bind_ex, bind_no, fl_ok, fl_ex, fl_no, lift_some, lift_none, pySub_i, pyAdd_i, pyMax_i, pyAbs_i, pyLe_i, pyLt_i, pyGt_i, pyGe_i, pyEq_i, pyNe_i, py1, py2, asB, hasV, hasS, idxS, agSv, lks, gN, gT, gsC, gsN, wipeA, rstA, keepD, isFn, List.getElem?_cons_zero, List.getElem?_cons_succ, List.set_cons_zero, List.set_cons_succ, List.length_cons, List.length_nil, List.map_cons, List.map_nil, List.getD_cons_zero, List.getD_cons_succ, List.take_succ_cons, List.take_zero, List.take_nil, List.drop_succ_cons, List.drop_zero, List.drop_nil, List.append_nil, List.nil_append, List.cons_append, Option.bind_some, Option.map_some, Nat.zero_add, Nat.reduceAdd, Nat.reduceSub, Nat.reduceLeDiff, Nat.reduceEqDiff, if_true, if_false, Bool.not_true, Bool.not_false, Bool.true_and, Bool.false_and, Bool.and_true, decide_true, decide_false, List.all_nil, List.all_cons, and_self, and_true, true_and, ite_true, ite_false, reduceIte, List.replicate_zero, List.reduceReplicate, List.nodup_cons, List.nodup_nil, List.mem_cons, List.not_mem_nil, List.mem_singleton, or_false, or_self, not_false_eq_true, not_true_eq_false, wb, chg, isO, Bool.false_eq_true, Nat.reduceEqDiff, Nat.one_ne_zero, idx0, idx1, idx2, idx3, ix4_0, ix4_1, sPut_ap, pyIdx_l, pyIdx_t, Bool.or_false, Bool.or_true, Bool.true_or, Bool.false_or, beq_self_eq_true, m_check, ms, h, pl, m_length, hn, e]
    | true =>
      have sp := m_spots (fa := fa) (a, b) l hll
      have sp : m_f_spots fa [.d (p2 a b), .d (.tuple (l.map pp))] = .ok (.tuple ((sums (a, b) l).map pp)) [.d (p2 a b), .d (.tuple (l.map pp))] := sp
      have neg1 : pyNeg (.int 1) = some (.int (-1)) := rfl
      have lastE : atI ((sums (a, b) l).map pp) (-1) = some (pp (lastS (a, b) l)) := by rw [at_m1, List.getLast?_map, sums_last]; rfl
      have sl := sums_len (a, b) l
      have c1 := compR_map (vs := [4, 5]) (tg := gT 2 (gsC (gN 4) (gsC (gN 5) gsN))) (rc := fun ss => .ok true ss) (re := eCall 4 (m_f_is_near fa) (aLk 0 (aLk 1 (aLk 4 (aLk 5 aNil)))))
        (ss := [.d (p2 a b), .d (p2 c d), .d (.tuple (l.map pp)), .d (.tuple ((sums (a, b) l).map pp)), .un, .un]) (fun q : Nat × (Int × Int) => .tuple [.int (q.1 : Nat), pp q.2]) (fun q => .bool (nearP a b c d (q.1 : Nat) q.2)) (fun q => q.1 ≤ 200000 ∧ q.2.1.natAbs ≤ 200000 ∧ q.2.2.natAbs ≤ 200000)
        (fun q ⟨q1, q2, q3⟩ => ⟨[.d (p2 a b), .d (p2 c d), .d (.tuple (l.map pp)), .d (.tuple ((sums (a, b) l).map pp)), .d (.int (q.1 : Nat)), .d (pp q.2)], [.d (p2 a b), .d (p2 c d), .d (.tuple (l.map pp)), .d (.tuple ((sums (a, b) l).map pp)), .d (.int (q.1 : Nat)), .d (pp q.2)], [.d (p2 a b), .d (p2 c d), .d (.tuple (l.map pp)), .d (.tuple ((sums (a, b) l).map pp)), .d (.int (q.1 : Nat)), .d (pp q.2)], rfl, rfl, by
          have e := m_near (fa := fa) (i := (q.1 : Nat)) (x := q.2.1) (y := q.2.2) ha hb hc hd (by omega) (by omega) (by omega)
          simp only [eC_ap, eV_ap, eOp_ap, eUn_ap, bB_ap, bAnd_ap, bOr_ap, bNot_ap, eAnd_ap, eOr_ap, eNot_ap, eIf_ap, eIsN_ap, lNil_ap, lCons_ap, eTup_ap, nLst_ap, eL_ap, nCat_ap, qR_ap, qN_ap, qV_ap, eLenQ_ap, eCB_ap, eTupleQ_ap, nListQ_ap, eIsi_ap, oNo_ap, oSome_ap, eSl_ap, nSl_ap, eIdxV_ap, iR_ap, iZp_ap, iZp3_ap, iEnA_ap, nComp_ap, sNext_ap, sSeq_ap, sIf_ap, sRet_ap, sDrop_ap, sAsg_ap, sSetN_ap, sRaise_ap, sFor_ap, aNil_ap, aDt_ap, aLk_ap, aFn_ap, eCall_ap, eCallN_ap, fb_nx, fb_rt, fb_ex, bind_ok, bind_ex, bind_no, fl_ok, fl_ex, fl_no, lift_some, lift_none, pySub_i, pyAdd_i, pyMax_i, pyAbs_i, pyLe_i, pyLt_i, pyGt_i, pyGe_i, pyEq_i, pyNe_i, py1, py2, asB, hasV, hasS, idxS, agSv, lks, gN, gT, gsC, gsN, wipeA, rstA, keepD, isFn, List.getElem?_cons_zero, List.getElem?_cons_succ, List.set_cons_zero, List.set_cons_succ, List.length_cons, List.length_nil, List.map_cons, List.map_nil, List.getD_cons_zero, List.getD_cons_succ, List.take_succ_cons, List.take_zero, List.take_nil, List.drop_succ_cons, List.drop_zero, List.drop_nil, List.append_nil, List.nil_append, List.cons_append, Option.bind_some, Option.map_some, Nat.zero_add, Nat.reduceAdd, Nat.reduceSub, Nat.reduceLeDiff, Nat.reduceEqDiff, if_true, if_false, Bool.not_true, Bool.not_false, Bool.true_and, Bool.false_and, Bool.and_true, decide_true, decide_false, List.all_nil, List.all_cons, and_self, and_true, true_and, ite_true, ite_false, reduceIte, List.replicate_zero, List.reduceReplicate, List.nodup_cons, List.nodup_nil, List.mem_cons, List.not_mem_nil, List.mem_singleton, or_false, or_self, not_false_eq_true, not_true_eq_false, wb, chg, isO, Bool.false_eq_true, Nat.reduceEqDiff, Nat.one_ne_zero, idx0, idx1, idx2, idx3, ix4_0, ix4_1, sPut_ap, pyIdx_l, pyIdx_t, Bool.or_false, Bool.or_true, Bool.true_or, Bool.false_or, beq_self_eq_true, e], rfl⟩) (idx 0 (sums (a, b) l)) [] (fun q hq => by
          obtain ⟨h1, h2⟩ := idx_mem _ _ _ hq
          have := sums_small l (a, b) 100000 hl ha hb _ h1
          omega) (by rw [List.length_nil, idx_len]; exact Nat.le_trans (by omega) (show 1000000 ≤ sizeLine by decide))
      rw [← enumD_idx] at c1
      have e : fitsD a b c d (.tuple (l.map pp)) = fitsL a b c d l := by
        simp only [fitsD, List.length_map, hn, h, unpp_map, Bool.true_and]
      simp only [eC_ap, eV_ap, eOp_ap, eUn_ap, bB_ap, bAnd_ap, bOr_ap, bNot_ap, eAnd_ap, eOr_ap, eNot_ap, eIf_ap, eIsN_ap, lNil_ap, lCons_ap, eTup_ap, nLst_ap, eL_ap, nCat_ap, qR_ap, qN_ap, qV_ap, eLenQ_ap, eCB_ap, eTupleQ_ap, nListQ_ap, eIsi_ap, oNo_ap, oSome_ap, eSl_ap, nSl_ap, eIdxV_ap, iR_ap, iZp_ap, iZp3_ap, iEnA_ap, nComp_ap, sNext_ap, sSeq_ap, sIf_ap, sRet_ap, sDrop_ap, sAsg_ap, sSetN_ap, sRaise_ap, sFor_ap, aNil_ap, aDt_ap, aLk_ap, aFn_ap, eCall_ap, eCallN_ap, fb_nx, fb_rt, fb_ex, bind_ok, bind_ex, bind_no, fl_ok, fl_ex, fl_no, lift_some, lift_none, pySub_i, pyAdd_i, pyMax_i, pyAbs_i, pyLe_i, pyLt_i, pyGt_i, pyGe_i, pyEq_i, pyNe_i, py1, py2, asB, hasV, hasS, idxS, agSv, lks, gN, gT, gsC, gsN, wipeA, rstA, keepD, isFn, List.getElem?_cons_zero, List.getElem?_cons_succ, List.set_cons_zero, List.set_cons_succ, List.length_cons, List.length_nil, List.map_cons, List.map_nil, List.getD_cons_zero, List.getD_cons_succ, List.take_succ_cons, List.take_zero, List.take_nil, List.drop_succ_cons, List.drop_zero, List.drop_nil, List.append_nil, List.nil_append, List.cons_append, Option.bind_some, Option.map_some, Nat.zero_add, Nat.reduceAdd, Nat.reduceSub, Nat.reduceLeDiff, Nat.reduceEqDiff, if_true, if_false, Bool.not_true, Bool.not_false, Bool.true_and, Bool.false_and, Bool.and_true, decide_true, decide_false, List.all_nil, List.all_cons, and_self, and_true, true_and, ite_true, ite_false, reduceIte, List.replicate_zero, List.reduceReplicate, List.nodup_cons, List.nodup_nil, List.mem_cons, List.not_mem_nil, List.mem_singleton, or_false, or_self, not_false_eq_true, not_true_eq_false, wb, chg, isO, Bool.false_eq_true, Nat.reduceEqDiff, Nat.one_ne_zero, idx0, idx1, idx2, idx3, ix4_0, ix4_1, sPut_ap, pyIdx_l, pyIdx_t, Bool.or_false, Bool.or_true, Bool.true_or, Bool.false_or, beq_self_eq_true, m_check, ms, h, pl, m_length, hn, sp, neg1, lastE, eq_pp, e]
      cases hc2 : decide (lastS (a, b) l = (c, d)) with
      | false =>
        simp only [fitsL, hc2]
        rfl
      | true =>
        dsimp only
        rw [eAllQ_ap]
        simp only [eC_ap, eV_ap, eOp_ap, eUn_ap, bB_ap, bAnd_ap, bOr_ap, bNot_ap, eAnd_ap, eOr_ap, eNot_ap, eIf_ap, eIsN_ap, lNil_ap, lCons_ap, eTup_ap, nLst_ap, eL_ap, nCat_ap, qR_ap, qN_ap, qV_ap, eLenQ_ap, eCB_ap, eTupleQ_ap, nListQ_ap, eIsi_ap, oNo_ap, oSome_ap, eSl_ap, nSl_ap, eIdxV_ap, iR_ap, iZp_ap, iZp3_ap, iEnA_ap, nComp_ap, sNext_ap, sSeq_ap, sIf_ap, sRet_ap, sDrop_ap, sAsg_ap, sSetN_ap, sRaise_ap, sFor_ap, aNil_ap, aDt_ap, aLk_ap, aFn_ap, eCall_ap, eCallN_ap, fb_nx, fb_rt, fb_ex, bind_ok, bind_ex, bind_no, fl_ok, fl_ex, fl_no, lift_some, lift_none, pySub_i, pyAdd_i, pyMax_i, pyAbs_i, pyLe_i, pyLt_i, pyGt_i, pyGe_i, pyEq_i, pyNe_i, py1, py2, asB, hasV, hasS, idxS, agSv, lks, gN, gT, gsC, gsN, wipeA, rstA, keepD, isFn, List.getElem?_cons_zero, List.getElem?_cons_succ, List.set_cons_zero, List.set_cons_succ, List.length_cons, List.length_nil, List.map_cons, List.map_nil, List.getD_cons_zero, List.getD_cons_succ, List.take_succ_cons, List.take_zero, List.take_nil, List.drop_succ_cons, List.drop_zero, List.drop_nil, List.append_nil, List.nil_append, List.cons_append, Option.bind_some, Option.map_some, Nat.zero_add, Nat.reduceAdd, Nat.reduceSub, Nat.reduceLeDiff, Nat.reduceEqDiff, if_true, if_false, Bool.not_true, Bool.not_false, Bool.true_and, Bool.false_and, Bool.and_true, decide_true, decide_false, List.all_nil, List.all_cons, and_self, and_true, true_and, ite_true, ite_false, reduceIte, List.replicate_zero, List.reduceReplicate, List.nodup_cons, List.nodup_nil, List.mem_cons, List.not_mem_nil, List.mem_singleton, or_false, or_self, not_false_eq_true, not_true_eq_false, wb, chg, isO, Bool.false_eq_true, Nat.reduceEqDiff, Nat.one_ne_zero, idx0, idx1, idx2, idx3, ix4_0, ix4_1, sPut_ap, pyIdx_l, pyIdx_t, Bool.or_false, Bool.or_true, Bool.true_or, Bool.false_or, beq_self_eq_true, c1, asBs_map, fitsL, hc2]
        rw [List.all_map]
        rfl
end K_k33

namespace K_k33
open PySem L2 Evl RZ PyProof.Rows AX
variable {fa : Str → Addr}
theorem gt_not (a b : Int) : decide (b < a) = !decide (a ≤ b) := by
  rw [Bool.eq_iff_iff]; simp
theorem m_law_fits {a b c d : Int} (ha : sm a) (hb : sm b) (hc : sm c) (hd : sm d) (hk : (lenI a b c d).natAbs ≤ 100000) (x : PyData) (hx : ∀ xs, x = .tuple xs → xs.length ≤ 100000 ∧ ∀ y ∈ xs, okD 60 y) :
    m_f_law_fits fa [.d (p2 a b), .d (p2 c d), .d x] = .ok (.bool (fitsD a b c d x)) [.d (p2 a b), .d (p2 c d), .d x] := by
  unfold m_f_law_fits fnR b_f_law_fits
  have ms := m_are_steps (fa := fa) x (fun xs e => ⟨Nat.le_trans (hx xs e).1 (by decide), (hx xs e).2⟩)
  have len1 : max ((c - a).natAbs : Int) ((d - b).natAbs : Int) = lenI a b c d := rfl
  cases h : isSteps x with
  | false =>
    have e : fitsD a b c d x = false := by
      cases x with
      | tuple xs => simp only [fitsD, h, Bool.false_and]
      | _ => rfl
    simp only [eC_ap, eV_ap, eOp_ap, eUn_ap, bB_ap, bAnd_ap, bOr_ap, bNot_ap, eAnd_ap, eOr_ap, eNot_ap, eIf_ap, eIsN_ap, lNil_ap, lCons_ap, eTup_ap, nLst_ap, eL_ap, nCat_ap, qR_ap, qN_ap, qV_ap, eLenQ_ap, eCB_ap, eTupleQ_ap, nListQ_ap, eIsi_ap, oNo_ap, oSome_ap, eSl_ap, nSl_ap, eIdxV_ap, iR_ap, iZp_ap, iZp3_ap, iEnA_ap, nComp_ap, sNext_ap, sSeq_ap, sIf_ap, sRet_ap, sDrop_ap, sAsg_ap, sSetN_ap, sRaise_ap, sFor_ap, aNil_ap, aDt_ap, aLk_ap, aFn_ap, eCall_ap, eCallN_ap, fb_nx, fb_rt, fb_ex, bind_ok, bind_ex, bind_no, fl_ok, fl_ex, fl_no, lift_some, lift_none, pySub_i, pyAdd_i, pyMax_i, pyAbs_i, pyLe_i, pyLt_i, pyGt_i, pyGe_i, pyEq_i, pyNe_i, py1, py2, asB, hasV, hasS, idxS, agSv, lks, gN, gT, gsC, gsN, wipeA, rstA, keepD, isFn, List.getElem?_cons_zero, List.getElem?_cons_succ, List.set_cons_zero, List.set_cons_succ, List.length_cons, List.length_nil, List.map_cons, List.map_nil, List.getD_cons_zero, List.getD_cons_succ, List.take_succ_cons, List.take_zero, List.take_nil, List.drop_succ_cons, List.drop_zero, List.drop_nil, List.append_nil, List.nil_append, List.cons_append, Option.bind_some, Option.map_some, Nat.zero_add, Nat.reduceAdd, Nat.reduceSub, Nat.reduceLeDiff, Nat.reduceEqDiff, if_true, if_false, Bool.not_true, Bool.not_false, Bool.true_and, Bool.false_and, Bool.and_true, decide_true, decide_false, List.all_nil, List.all_cons, and_self, and_true, true_and, ite_true, ite_false, reduceIte, List.replicate_zero, List.reduceReplicate, List.nodup_cons, List.nodup_nil, List.mem_cons, List.not_mem_nil, List.mem_singleton, or_false, or_self, not_false_eq_true, not_true_eq_false, wb, chg, isO, Bool.false_eq_true, Nat.reduceEqDiff, Nat.one_ne_zero, idx0, idx1, idx2, idx3, ix4_0, ix4_1, sPut_ap, pyIdx_l, pyIdx_t, Bool.or_false, Bool.or_true, Bool.true_or, Bool.false_or, beq_self_eq_true, len1, ms, h, e]
  | true =>
    obtain ⟨l, rfl, hl⟩ := steps_of h
    have hll : l.length ≤ 100000 := by have := (hx _ rfl).1; rwa [List.length_map] at this
    have pl : pyLen (.tuple (l.map pp)) = some (.int l.length) := by
      show some (PyData.int _) = _
      rw [List.length_map]
    cases hn : decide ((l.length : Int) = lenI a b c d) with
    | false =>
      have e : fitsD a b c d (.tuple (l.map pp)) = false := by
        simp only [fitsD, List.length_map, hn, Bool.and_false, Bool.false_and]
      simp only [eC_ap, eV_ap, eOp_ap, eUn_ap, bB_ap, bAnd_ap, bOr_ap, bNot_ap, eAnd_ap, eOr_ap, eNot_ap, eIf_ap, eIsN_ap, lNil_ap, lCons_ap, eTup_ap, nLst_ap, eL_ap, nCat_ap, qR_ap, qN_ap, qV_ap, eLenQ_ap, eCB_ap, eTupleQ_ap, nListQ_ap, eIsi_ap, oNo_ap, oSome_ap, eSl_ap, nSl_ap, eIdxV_ap, iR_ap, iZp_ap, iZp3_ap, iEnA_ap, nComp_ap, sNext_ap, sSeq_ap, sIf_ap, sRet_ap, sDrop_ap, sAsg_ap, sSetN_ap, sRaise_ap, sFor_ap, aNil_ap, aDt_ap, aLk_ap, aFn_ap, eCall_ap, eCallN_ap, fb_nx, fb_rt, fb_ex, bind_ok, bind_ex, bind_no, fl_ok, fl_ex, fl_no, lift_some, lift_none, pySub_i, pyAdd_i, pyMax_i, pyAbs_i, pyLe_i, pyLt_i, pyGt_i, pyGe_i, pyEq_i, pyNe_i, py1, py2, asB, hasV, hasS, idxS, agSv, lks, gN, gT, gsC, gsN, wipeA, rstA, keepD, isFn, List.getElem?_cons_zero, List.getElem?_cons_succ, List.set_cons_zero, List.set_cons_succ, List.length_cons, List.length_nil, List.map_cons, List.map_nil, List.getD_cons_zero, List.getD_cons_succ, List.take_succ_cons, List.take_zero, List.take_nil, List.drop_succ_cons, List.drop_zero, List.drop_nil, List.append_nil, List.nil_append, List.cons_append, Option.bind_some, Option.map_some, Nat.zero_add, Nat.reduceAdd, Nat.reduceSub, Nat.reduceLeDiff, Nat.reduceEqDiff, if_true, if_false, Bool.not_true, Bool.not_false, Bool.true_and, Bool.false_and, Bool.and_true, decide_true, decide_false, List.all_nil, List.all_cons, and_self, and_true, true_and, ite_true, ite_false, reduceIte, List.replicate_zero, List.reduceReplicate, List.nodup_cons, List.nodup_nil, List.mem_cons, List.not_mem_nil, List.mem_singleton, or_false, or_self, not_false_eq_true, not_true_eq_false, wb, chg, isO, Bool.false_eq_true, Nat.reduceEqDiff, Nat.one_ne_zero, idx0, idx1, idx2, idx3, ix4_0, ix4_1, sPut_ap, pyIdx_l, pyIdx_t, Bool.or_false, Bool.or_true, Bool.true_or, Bool.false_or, beq_self_eq_true, len1, ms, h, pl, hn, e]
    | true =>
      have sp : m_f_law_spots fa [.d (p2 a b), .d (.tuple (l.map pp))] = .ok (.list ((sums (a, b) l).map pp)) [.d (p2 a b), .d (.tuple (l.map pp))] := m_law_spots (fa := fa) (a, b) l hll
      have neg1 : pyNeg (.int 1) = some (.int (-1)) := rfl
      have lastE : atI ((sums (a, b) l).map pp) (-1) = some (pp (lastS (a, b) l)) := by rw [at_m1, List.getLast?_map, sums_last]; rfl
      have sl := sums_len (a, b) l
      have hm : (lenI a b c d).natAbs ≤ 200000 := by omega
      obtain ⟨s2, ⟨z, rfl⟩, f1⟩ := forR_all (tg := gT 2 (gsC (gN 5) (gsC (gN 6) gsN))) (body := sFor (iZp3 (lCons (eV 6) (lCons (eV 0) (lCons (eV 1) lNil)))) (gT 3 (gsC (gN 7) (gsC (gN 8) (gsC (gN 9) gsN))))
          (sIf (bB (eOp pyGt (eOp pyMul (eC (.int 2)) (eCB (py1 pyAbs) (lCons (eOp pySub (eOp pyMul (eV 3) (eOp pySub (eV 7) (eV 8))) (eOp pyMul (eV 5) (eOp pySub (eV 9) (eV 8)))) lNil))) (eV 3))) (sRet (eC (.bool false))) sNext))
        (fun q : Nat × (Int × Int) => .tuple [.int (q.1 : Nat), pp q.2]) (fun q => nearP a b c d (q.1 : Nat) q.2) (.bool false) (fun q => q.1 ≤ 200000 ∧ q.2.1.natAbs ≤ 200000 ∧ q.2.2.natAbs ≤ 200000)
        (fun ss => ∃ z : Sv × Sv × Sv × Sv × Sv, ss = [.d (p2 a b), .d (p2 c d), .d (.tuple (l.map pp)), .d (.int (lenI a b c d)), .d (.list ((sums (a, b) l).map pp)), z.1, z.2.1, z.2.2.1, z.2.2.2.1, z.2.2.2.2])
        (by
          rintro ⟨i, x, y⟩ ss ⟨q1, q2, q3⟩ ⟨⟨z1, z2, z3, z4, z5⟩, rfl⟩
          have z : zip3D [.int x, .int y] [.int a, .int b] [.int c, .int d] = [.tuple [.int x, .int a, .int c], .tuple [.int y, .int b, .int d]] := rfl
          have q2 : x.natAbs ≤ 200000 := q2
          have q3 : y.natAbs ≤ 200000 := q3
          have q1 : i ≤ 200000 := q1
          have e1 := pyMul_s (i := lenI a b c d) (j := x - a) (by omega) (by omega)
          have e2 := pyMul_s (i := lenI a b c d) (j := y - b) (by omega) (by omega)
          have e3 := pyMul_s (i := (i : Nat)) (j := c - a) (by omega) (by omega)
          have e4 := pyMul_s (i := (i : Nat)) (j := d - b) (by omega) (by omega)
          have k1 := mul_abs (a := lenI a b c d) (b := x - a) (A := 200000) (B := 2000000) (by omega) (by omega)
          have k2 := mul_abs (a := lenI a b c d) (b := y - b) (A := 200000) (B := 2000000) (by omega) (by omega)
          have k3 := mul_abs (a := (i : Nat)) (b := c - a) (A := 1000000) (B := 2000000) (by omega) (by omega)
          have k4 := mul_abs (a := (i : Nat)) (b := d - b) (A := 1000000) (B := 2000000) (by omega) (by omega)
          have e5 := pyMul_s (i := 2) (j := ((lenI a b c d * (x - a) - (i : Nat) * (c - a)).natAbs : Int)) (by decide) (by omega)
          have e6 := pyMul_s (i := 2) (j := ((lenI a b c d * (y - b) - (i : Nat) * (d - b)).natAbs : Int)) (by decide) (by omega)
          cases h1 : nrI (lenI a b c d) a c i x with
          | false =>
            have g1 : decide (2 * ((lenI a b c d * (x - a) - (i : Nat) * (c - a)).natAbs : Int) ≤ lenI a b c d) = false := h1
            refine ⟨_, [.d (p2 a b), .d (p2 c d), .d (.tuple (l.map pp)), .d (.int (lenI a b c d)), .d (.list ((sums (a, b) l).map pp)), .d (.int i), .d (p2 x y), .d (.int x), .d (.int a), .d (.int c)], rfl, ⟨⟨_, _, _, _, _⟩, rfl⟩, ?_⟩
            simp only [eC_ap, eV_ap, eOp_ap, eUn_ap, bB_ap, bAnd_ap, bOr_ap, bNot_ap, eAnd_ap, eOr_ap, eNot_ap, eIf_ap, eIsN_ap, lNil_ap, lCons_ap, eTup_ap, nLst_ap, eL_ap, nCat_ap, qR_ap, qN_ap, qV_ap, eLenQ_ap, eCB_ap, eTupleQ_ap, nListQ_ap, eIsi_ap, oNo_ap, oSome_ap, eSl_ap, nSl_ap, eIdxV_ap, iR_ap, iZp_ap, iZp3_ap, iEnA_ap, nComp_ap, sNext_ap, sSeq_ap, sIf_ap, sRet_ap, sDrop_ap, sAsg_ap, sSetN_ap, sRaise_ap, sFor_ap, aNil_ap, aDt_ap, aLk_ap, aFn_ap, eCall_ap, eCallN_ap, fb_nx, fb_rt, fb_ex, bind_ok, bind_ex, bind_no, fl_ok, fl_ex, fl_no, lift_some, lift_none, pySub_i, pyAdd_i, pyMax_i, pyAbs_i, pyLe_i, pyLt_i, pyGt_i, pyGe_i, pyEq_i, pyNe_i, py1, py2, asB, hasV, hasS, idxS, agSv, lks, gN, gT, gsC, gsN, wipeA, rstA, keepD, isFn, List.getElem?_cons_zero, List.getElem?_cons_succ, List.set_cons_zero, List.set_cons_succ, List.length_cons, List.length_nil, List.map_cons, List.map_nil, List.getD_cons_zero, List.getD_cons_succ, List.take_succ_cons, List.take_zero, List.take_nil, List.drop_succ_cons, List.drop_zero, List.drop_nil, List.append_nil, List.nil_append, List.cons_append, Option.bind_some, Option.map_some, Nat.zero_add, Nat.reduceAdd, Nat.reduceSub, Nat.reduceLeDiff, Nat.reduceEqDiff, if_true, if_false, Bool.not_true, Bool.not_false, Bool.true_and, Bool.false_and, Bool.and_true, decide_true, decide_false, List.all_nil, List.all_cons, and_self, and_true, true_and, ite_true, ite_false, reduceIte, List.replicate_zero, List.reduceReplicate, List.nodup_cons, List.nodup_nil, List.mem_cons, List.not_mem_nil, List.mem_singleton, or_false, or_self, not_false_eq_true, not_true_eq_false, wb, chg, isO, Bool.false_eq_true, Nat.reduceEqDiff, Nat.one_ne_zero, idx0, idx1, idx2, idx3, ix4_0, ix4_1, sPut_ap, pyIdx_l, pyIdx_t, Bool.or_false, Bool.or_true, Bool.true_or, Bool.false_or, beq_self_eq_true, z, forR, e1, e3, e5, gt_not, g1, nearP, h1]
          | true =>
            have g1 : decide (2 * ((lenI a b c d * (x - a) - (i : Nat) * (c - a)).natAbs : Int) ≤ lenI a b c d) = true := h1
            cases h2 : nrI (lenI a b c d) b d i y with
            | false =>
              have g2 : decide (2 * ((lenI a b c d * (y - b) - (i : Nat) * (d - b)).natAbs : Int) ≤ lenI a b c d) = false := h2
              refine ⟨_, [.d (p2 a b), .d (p2 c d), .d (.tuple (l.map pp)), .d (.int (lenI a b c d)), .d (.list ((sums (a, b) l).map pp)), .d (.int i), .d (p2 x y), .d (.int y), .d (.int b), .d (.int d)], rfl, ⟨⟨_, _, _, _, _⟩, rfl⟩, ?_⟩
              simp only [eC_ap, eV_ap, eOp_ap, eUn_ap, bB_ap, bAnd_ap, bOr_ap, bNot_ap, eAnd_ap, eOr_ap, eNot_ap, eIf_ap, eIsN_ap, lNil_ap, lCons_ap, eTup_ap, nLst_ap, eL_ap, nCat_ap, qR_ap, qN_ap, qV_ap, eLenQ_ap, eCB_ap, eTupleQ_ap, nListQ_ap, eIsi_ap, oNo_ap, oSome_ap, eSl_ap, nSl_ap, eIdxV_ap, iR_ap, iZp_ap, iZp3_ap, iEnA_ap, nComp_ap, sNext_ap, sSeq_ap, sIf_ap, sRet_ap, sDrop_ap, sAsg_ap, sSetN_ap, sRaise_ap, sFor_ap, aNil_ap, aDt_ap, aLk_ap, aFn_ap, eCall_ap, eCallN_ap, fb_nx, fb_rt, fb_ex, bind_ok, bind_ex, bind_no, fl_ok, fl_ex, fl_no, lift_some, lift_none, pySub_i, pyAdd_i, pyMax_i, pyAbs_i, pyLe_i, pyLt_i, pyGt_i, pyGe_i, pyEq_i, pyNe_i, py1, py2, asB, hasV, hasS, idxS, agSv, lks, gN, gT, gsC, gsN, wipeA, rstA, keepD, isFn, List.getElem?_cons_zero, List.getElem?_cons_succ, List.set_cons_zero, List.set_cons_succ, List.length_cons, List.length_nil, List.map_cons, List.map_nil, List.getD_cons_zero, List.getD_cons_succ, List.take_succ_cons, List.take_zero, List.take_nil, List.drop_succ_cons, List.drop_zero, List.drop_nil, List.append_nil, List.nil_append, List.cons_append, Option.bind_some, Option.map_some, Nat.zero_add, Nat.reduceAdd, Nat.reduceSub, Nat.reduceLeDiff, Nat.reduceEqDiff, if_true, if_false, Bool.not_true, Bool.not_false, Bool.true_and, Bool.false_and, Bool.and_true, decide_true, decide_false, List.all_nil, List.all_cons, and_self, and_true, true_and, ite_true, ite_false, reduceIte, List.replicate_zero, List.reduceReplicate, List.nodup_cons, List.nodup_nil, List.mem_cons, List.not_mem_nil, List.mem_singleton, or_false, or_self, not_false_eq_true, not_true_eq_false, wb, chg, isO, Bool.false_eq_true, Nat.reduceEqDiff, Nat.one_ne_zero, idx0, idx1, idx2, idx3, ix4_0, ix4_1, sPut_ap, pyIdx_l, pyIdx_t, Bool.or_false, Bool.or_true, Bool.true_or, Bool.false_or, beq_self_eq_true, z, forR, e1, e2, e3, e4, e5, e6, gt_not, g1, g2, nearP, h1, h2]
            | true =>
              have g2 : decide (2 * ((lenI a b c d * (y - b) - (i : Nat) * (d - b)).natAbs : Int) ≤ lenI a b c d) = true := h2
              refine ⟨_, [.d (p2 a b), .d (p2 c d), .d (.tuple (l.map pp)), .d (.int (lenI a b c d)), .d (.list ((sums (a, b) l).map pp)), .d (.int i), .d (p2 x y), .d (.int y), .d (.int b), .d (.int d)], rfl, ⟨⟨_, _, _, _, _⟩, rfl⟩, ?_⟩
              simp only [eC_ap, eV_ap, eOp_ap, eUn_ap, bB_ap, bAnd_ap, bOr_ap, bNot_ap, eAnd_ap, eOr_ap, eNot_ap, eIf_ap, eIsN_ap, lNil_ap, lCons_ap, eTup_ap, nLst_ap, eL_ap, nCat_ap, qR_ap, qN_ap, qV_ap, eLenQ_ap, eCB_ap, eTupleQ_ap, nListQ_ap, eIsi_ap, oNo_ap, oSome_ap, eSl_ap, nSl_ap, eIdxV_ap, iR_ap, iZp_ap, iZp3_ap, iEnA_ap, nComp_ap, sNext_ap, sSeq_ap, sIf_ap, sRet_ap, sDrop_ap, sAsg_ap, sSetN_ap, sRaise_ap, sFor_ap, aNil_ap, aDt_ap, aLk_ap, aFn_ap, eCall_ap, eCallN_ap, fb_nx, fb_rt, fb_ex, bind_ok, bind_ex, bind_no, fl_ok, fl_ex, fl_no, lift_some, lift_none, pySub_i, pyAdd_i, pyMax_i, pyAbs_i, pyLe_i, pyLt_i, pyGt_i, pyGe_i, pyEq_i, pyNe_i, py1, py2, asB, hasV, hasS, idxS, agSv, lks, gN, gT, gsC, gsN, wipeA, rstA, keepD, isFn, List.getElem?_cons_zero, List.getElem?_cons_succ, List.set_cons_zero, List.set_cons_succ, List.length_cons, List.length_nil, List.map_cons, List.map_nil, List.getD_cons_zero, List.getD_cons_succ, List.take_succ_cons, List.take_zero, List.take_nil, List.drop_succ_cons, List.drop_zero, List.drop_nil, List.append_nil, List.nil_append, List.cons_append, Option.bind_some, Option.map_some, Nat.zero_add, Nat.reduceAdd, Nat.reduceSub, Nat.reduceLeDiff, Nat.reduceEqDiff, if_true, if_false, Bool.not_true, Bool.not_false, Bool.true_and, Bool.false_and, Bool.and_true, decide_true, decide_false, List.all_nil, List.all_cons, and_self, and_true, true_and, ite_true, ite_false, reduceIte, List.replicate_zero, List.reduceReplicate, List.nodup_cons, List.nodup_nil, List.mem_cons, List.not_mem_nil, List.mem_singleton, or_false, or_self, not_false_eq_true, not_true_eq_false, wb, chg, isO, Bool.false_eq_true, Nat.reduceEqDiff, Nat.one_ne_zero, idx0, idx1, idx2, idx3, ix4_0, ix4_1, sPut_ap, pyIdx_l, pyIdx_t, Bool.or_false, Bool.or_true, Bool.true_or, Bool.false_or, beq_self_eq_true, z, forR, e1, e2, e3, e4, e5, e6, gt_not, g1, g2, nearP, h1, h2])
        (idx 0 (sums (a, b) l)) [.d (p2 a b), .d (p2 c d), .d (.tuple (l.map pp)), .d (.int (lenI a b c d)), .d (.list ((sums (a, b) l).map pp)), .un, .un, .un, .un, .un] (fun q hq => by
          obtain ⟨h1, h2⟩ := idx_mem _ _ _ hq
          have := sums_small l (a, b) 100000 hl ha hb _ h1
          omega) ⟨⟨_, _, _, _, _⟩, rfl⟩
      rw [← enumD_idx] at f1
      have e : fitsD a b c d (.tuple (l.map pp)) = fitsL a b c d l := by
        simp only [fitsD, List.length_map, hn, h, unpp_map, Bool.true_and]
      cases hq : (idx 0 (sums (a, b) l)).all fun q => nearP a b c d (q.1 : Nat) q.2 with
      | false =>
        rw [hq] at f1
        have e2 : fitsL a b c d l = false := by rw [fitsL, hq, Bool.and_false]
        simp only [eC_ap, eV_ap, eOp_ap, eUn_ap, bB_ap, bAnd_ap, bOr_ap, bNot_ap, eAnd_ap, eOr_ap, eNot_ap, eIf_ap, eIsN_ap, lNil_ap, lCons_ap, eTup_ap, nLst_ap, eL_ap, nCat_ap, qR_ap, qN_ap, qV_ap, eLenQ_ap, eCB_ap, eTupleQ_ap, nListQ_ap, eIsi_ap, oNo_ap, oSome_ap, eSl_ap, nSl_ap, eIdxV_ap, iR_ap, iZp_ap, iZp3_ap, iEnA_ap, nComp_ap, sNext_ap, sSeq_ap, sIf_ap, sRet_ap, sDrop_ap, sAsg_ap, sSetN_ap, sRaise_ap, sFor_ap, aNil_ap, aDt_ap, aLk_ap, aFn_ap, eCall_ap, eCallN_ap, fb_nx, fb_rt, fb_ex, bind_ok, bind_ex, bind_no, fl_ok, fl_ex, fl_no, lift_some, lift_none, pySub_i, pyAdd_i, pyMax_i, pyAbs_i, pyLe_i, pyLt_i, pyGt_i, pyGe_i, pyEq_i, pyNe_i, py1, py2, asB, hasV, hasS, idxS, agSv, lks, gN, gT, gsC, gsN, wipeA, rstA, keepD, isFn, List.getElem?_cons_zero, List.getElem?_cons_succ, List.set_cons_zero, List.set_cons_succ, List.length_cons, List.length_nil, List.map_cons, List.map_nil, List.getD_cons_zero, List.getD_cons_succ, List.take_succ_cons, List.take_zero, List.take_nil, List.drop_succ_cons, List.drop_zero, List.drop_nil, List.append_nil, List.nil_append, List.cons_append, Option.bind_some, Option.map_some, Nat.zero_add, Nat.reduceAdd, Nat.reduceSub, Nat.reduceLeDiff, Nat.reduceEqDiff, if_true, if_false, Bool.not_true, Bool.not_false, Bool.true_and, Bool.false_and, Bool.and_true, decide_true, decide_false, List.all_nil, List.all_cons, and_self, and_true, true_and, ite_true, ite_false, reduceIte, List.replicate_zero, List.reduceReplicate, List.nodup_cons, List.nodup_nil, List.mem_cons, List.not_mem_nil, List.mem_singleton, or_false, or_self, not_false_eq_true, not_true_eq_false, wb, chg, isO, Bool.false_eq_true, Nat.reduceEqDiff, Nat.one_ne_zero, idx0, idx1, idx2, idx3, ix4_0, ix4_1, sPut_ap, pyIdx_l, pyIdx_t, Bool.or_false, Bool.or_true, Bool.true_or, Bool.false_or, beq_self_eq_true, len1, ms, h, pl, hn, sp, neg1, lastE, eq_pp, e, f1, e2]
      | true =>
        rw [hq] at f1
        have e2 : fitsL a b c d l = decide (lastS (a, b) l = (c, d)) := by rw [fitsL, hq, Bool.and_true]
        simp only [eC_ap, eV_ap, eOp_ap, eUn_ap, bB_ap, bAnd_ap, bOr_ap, bNot_ap, eAnd_ap, eOr_ap, eNot_ap, eIf_ap, eIsN_ap, lNil_ap, lCons_ap, eTup_ap, nLst_ap, eL_ap, nCat_ap, qR_ap, qN_ap, qV_ap, eLenQ_ap, eCB_ap, eTupleQ_ap, nListQ_ap, eIsi_ap, oNo_ap, oSome_ap, eSl_ap, nSl_ap, eIdxV_ap, iR_ap, iZp_ap, iZp3_ap, iEnA_ap, nComp_ap, sNext_ap, sSeq_ap, sIf_ap, sRet_ap, sDrop_ap, sAsg_ap, sSetN_ap, sRaise_ap, sFor_ap, aNil_ap, aDt_ap, aLk_ap, aFn_ap, eCall_ap, eCallN_ap, fb_nx, fb_rt, fb_ex, bind_ok, bind_ex, bind_no, fl_ok, fl_ex, fl_no, lift_some, lift_none, pySub_i, pyAdd_i, pyMax_i, pyAbs_i, pyLe_i, pyLt_i, pyGt_i, pyGe_i, pyEq_i, pyNe_i, py1, py2, asB, hasV, hasS, idxS, agSv, lks, gN, gT, gsC, gsN, wipeA, rstA, keepD, isFn, List.getElem?_cons_zero, List.getElem?_cons_succ, List.set_cons_zero, List.set_cons_succ, List.length_cons, List.length_nil, List.map_cons, List.map_nil, List.getD_cons_zero, List.getD_cons_succ, List.take_succ_cons, List.take_zero, List.take_nil, List.drop_succ_cons, List.drop_zero, List.drop_nil, List.append_nil, List.nil_append, List.cons_append, Option.bind_some, Option.map_some, Nat.zero_add, Nat.reduceAdd, Nat.reduceSub, Nat.reduceLeDiff, Nat.reduceEqDiff, if_true, if_false, Bool.not_true, Bool.not_false, Bool.true_and, Bool.false_and, Bool.and_true, decide_true, decide_false, List.all_nil, List.all_cons, and_self, and_true, true_and, ite_true, ite_false, reduceIte, List.replicate_zero, List.reduceReplicate, List.nodup_cons, List.nodup_nil, List.mem_cons, List.not_mem_nil, List.mem_singleton, or_false, or_self, not_false_eq_true, not_true_eq_false, wb, chg, isO, Bool.false_eq_true, Nat.reduceEqDiff, Nat.one_ne_zero, idx0, idx1, idx2, idx3, ix4_0, ix4_1, sPut_ap, pyIdx_l, pyIdx_t, Bool.or_false, Bool.or_true, Bool.true_or, Bool.false_or, beq_self_eq_true, len1, ms, h, pl, hn, sp, neg1, lastE, eq_pp, e, f1, e2]
end K_k33

namespace K_k33
open PySem L2 Evl RZ PyProof.Rows AX
variable {fa : Str → Addr}
/-- the bag of choices: the rest of a big number, the stir, the place (at most n), the cells -/
def Bg (n : Nat) (xs : List PyData) : Prop := ∃ (z s i : Int) (cs : List Int), xs = [.int z, .int s, .int i, .list (cs.map PyData.int)] ∧ 0 ≤ z ∧ 0 ≤ s ∧ s < 2147483647 ∧ 0 ≤ i ∧ i ≤ n ∧ cs.length ≤ 63 ∧ ∀ c ∈ cs, 0 ≤ c
theorem m_bag (ns : List Int) (hl : ns.length ≤ 63) : ∃ xs, Bg 0 xs ∧ m_f_law_bag__new fa [.d (.list (ns.map PyData.int))] = .ok xs [.d (.list (ns.map PyData.int))] := by
  refine ⟨[.int 0, .int 1234567891, .int 0, .list ((ns.map fun i : Int => (i.natAbs : Int)).map PyData.int)], ⟨0, 1234567891, 0, _, rfl, by decide, by decide, by decide, by decide, by decide, by rw [List.length_map]; exact hl, fun c hc => ?_⟩, ?_⟩
  · obtain ⟨i, _, e⟩ := List.mem_map.mp hc
    omega
  unfold m_f_law_bag__new fnN b_f_law_bag__new
  have cut : pySl (.list (ns.map PyData.int)) none (some 63) = some (.list (ns.map PyData.int)) := by
    show some (PyData.list (AX.cutD _ none (some 63))) = _
    unfold AX.cutD
    have e : HT.sIx (ns.map PyData.int).length (ns.map PyData.int).length (some 63) = min 63 (ns.map PyData.int).length := HT.sIx_nat _ _ 63
    rw [e, HT.sIx_none, List.drop_zero, Nat.sub_zero, List.length_map, Nat.min_eq_right hl, List.take_of_length_le (by rw [List.length_map]; exact Nat.le_refl _)]
  have so : seqOf (.list (ns.map PyData.int)) = some (true, ns.map PyData.int) := rfl
  have c1 := compR_map (vs := [1]) (tg := gN 1) (rc := fun ss => .ok true ss) (re := eCB (py1 pyAbs) (lCons (eV 1) lNil)) (ss := [.d (.list (ns.map PyData.int)), .un]) PyData.int (fun i => .int i.natAbs) (fun _ => True)
    (fun i _ => ⟨[.d (.list (ns.map PyData.int)), .d (.int i)], [.d (.list (ns.map PyData.int)), .d (.int i)], [.d (.list (ns.map PyData.int)), .d (.int i)], rfl, rfl, by simp only [eC_ap, eV_ap, eOp_ap, eUn_ap, bB_ap, bAnd_ap, bOr_ap, bNot_ap, eAnd_ap, eOr_ap, eNot_ap, eIf_ap, eIsN_ap, lNil_ap, lCons_ap, eTup_ap, nLst_ap, eL_ap, nCat_ap, qR_ap, qN_ap, qV_ap, eLenQ_ap, eCB_ap, eTupleQ_ap, nListQ_ap, eIsi_ap, oNo_ap, oSome_ap, eSl_ap, nSl_ap, eIdxV_ap, iR_ap, iZp_ap, iZp3_ap, iEnA_ap, nComp_ap, sNext_ap, sSeq_ap, sIf_ap, sRet_ap, sDrop_ap, sAsg_ap, sSetN_ap, sRaise_ap, sFor_ap, aNil_ap, aDt_ap, aLk_ap, aFn_ap, eCall_ap, eCallN_ap, fb_nx, fb_rt, fb_ex, bind_ok, bind_ex, bind_no, fl_ok, fl_ex, fl_no, lift_some, lift_none, pySub_i, pyAdd_i, pyMax_i, pyAbs_i, pyLe_i, pyLt_i, pyGt_i, pyGe_i, pyEq_i, pyNe_i, py1, py2, asB, hasV, hasS, idxS, agSv, lks, gN, gT, gsC, gsN, wipeA, rstA, keepD, isFn, List.getElem?_cons_zero, List.getElem?_cons_succ, List.set_cons_zero, List.set_cons_succ, List.length_cons, List.length_nil, List.map_cons, List.map_nil, List.getD_cons_zero, List.getD_cons_succ, List.take_succ_cons, List.take_zero, List.take_nil, List.drop_succ_cons, List.drop_zero, List.drop_nil, List.append_nil, List.nil_append, List.cons_append, Option.bind_some, Option.map_some, Nat.zero_add, Nat.reduceAdd, Nat.reduceSub, Nat.reduceLeDiff, Nat.reduceEqDiff, if_true, if_false, Bool.not_true, Bool.not_false, Bool.true_and, Bool.false_and, Bool.and_true, decide_true, decide_false, List.all_nil, List.all_cons, and_self, and_true, true_and, ite_true, ite_false, reduceIte, List.replicate_zero, List.reduceReplicate, List.nodup_cons, List.nodup_nil, List.mem_cons, List.not_mem_nil, List.mem_singleton, or_false, or_self, not_false_eq_true, not_true_eq_false, wb, chg, isO, Bool.false_eq_true, Nat.reduceEqDiff, Nat.one_ne_zero, idx0, idx1, idx2, idx3, ix4_0, ix4_1, sPut_ap, pyIdx_l, pyIdx_t, Bool.or_false, Bool.or_true, Bool.true_or, Bool.false_or, beq_self_eq_true], rfl⟩) ns [] (fun _ _ => trivial) (by rw [List.length_nil, Nat.zero_add]; exact Nat.le_trans hl (by decide))
  have l4 : (4 : Nat) ≤ sizeLine := by decide
  have mm : (ns.map fun i : Int => (i.natAbs : Int)).map PyData.int = ns.map fun i => .int i.natAbs := by rw [List.map_map]; rfl
  simp only [eC_ap, eV_ap, eOp_ap, eUn_ap, bB_ap, bAnd_ap, bOr_ap, bNot_ap, eAnd_ap, eOr_ap, eNot_ap, eIf_ap, eIsN_ap, lNil_ap, lCons_ap, eTup_ap, nLst_ap, eL_ap, nCat_ap, qR_ap, qN_ap, qV_ap, eLenQ_ap, eCB_ap, eTupleQ_ap, nListQ_ap, eIsi_ap, oNo_ap, oSome_ap, eSl_ap, nSl_ap, eIdxV_ap, iR_ap, iZp_ap, iZp3_ap, iEnA_ap, nComp_ap, sNext_ap, sSeq_ap, sIf_ap, sRet_ap, sDrop_ap, sAsg_ap, sSetN_ap, sRaise_ap, sFor_ap, aNil_ap, aDt_ap, aLk_ap, aFn_ap, eCall_ap, eCallN_ap, fb_nx, fb_rt, fb_ex, bind_ok, bind_ex, bind_no, fl_ok, fl_ex, fl_no, lift_some, lift_none, pySub_i, pyAdd_i, pyMax_i, pyAbs_i, pyLe_i, pyLt_i, pyGt_i, pyGe_i, pyEq_i, pyNe_i, py1, py2, asB, hasV, hasS, idxS, agSv, lks, gN, gT, gsC, gsN, wipeA, rstA, keepD, isFn, List.getElem?_cons_zero, List.getElem?_cons_succ, List.set_cons_zero, List.set_cons_succ, List.length_cons, List.length_nil, List.map_cons, List.map_nil, List.getD_cons_zero, List.getD_cons_succ, List.take_succ_cons, List.take_zero, List.take_nil, List.drop_succ_cons, List.drop_zero, List.drop_nil, List.append_nil, List.nil_append, List.cons_append, Option.bind_some, Option.map_some, Nat.zero_add, Nat.reduceAdd, Nat.reduceSub, Nat.reduceLeDiff, Nat.reduceEqDiff, if_true, if_false, Bool.not_true, Bool.not_false, Bool.true_and, Bool.false_and, Bool.and_true, decide_true, decide_false, List.all_nil, List.all_cons, and_self, and_true, true_and, ite_true, ite_false, reduceIte, List.replicate_zero, List.reduceReplicate, List.nodup_cons, List.nodup_nil, List.mem_cons, List.not_mem_nil, List.mem_singleton, or_false, or_self, not_false_eq_true, not_true_eq_false, wb, chg, isO, Bool.false_eq_true, Nat.reduceEqDiff, Nat.one_ne_zero, idx0, idx1, idx2, idx3, ix4_0, ix4_1, sPut_ap, pyIdx_l, pyIdx_t, Bool.or_false, Bool.or_true, Bool.true_or, Bool.false_or, beq_self_eq_true, cut, so, c1, l4, mm]
theorem first_cell (cs : List Int) (i : Int) (hi : 0 ≤ i) (h : ∀ c ∈ cs, 0 ≤ c) (hl : cs.length ≤ 63) : ∃ c : Int, 0 ≤ c ∧ atI (AX.cutD (cs.map PyData.int) (some i) none ++ [.int 0]) 0 = some (.int c) ∧ (AX.cutD (cs.map PyData.int) (some i) none).length + 1 ≤ sizeLine := by
  have cl : (AX.cutD (cs.map PyData.int) (some i) none).length ≤ 63 := by
    unfold AX.cutD
    rw [List.length_take, List.length_drop, List.length_map]
    omega
  have cm : ∀ y ∈ AX.cutD (cs.map PyData.int) (some i) none, ∃ c : Int, 0 ≤ c ∧ y = .int c := fun y hy => by
    unfold AX.cutD at hy
    obtain ⟨c, hc, e⟩ := List.mem_map.mp (List.mem_of_mem_drop (List.mem_of_mem_take hy))
    exact ⟨c, h c hc, e.symm⟩
  cases e : AX.cutD (cs.map PyData.int) (some i) none with
  | nil => exact ⟨0, Int.le_refl _, by rw [List.nil_append, idx0], by decide⟩
  | cons y r =>
    rw [e] at cl cm
    obtain ⟨c, hc, e2⟩ := cm y List.mem_cons_self
    refine ⟨c, hc, by rw [List.cons_append, idx0, e2], Nat.le_trans (Nat.succ_le_succ cl) (by decide)⟩
theorem mod_lt {a b : Int} (h : 0 < b) : 0 ≤ a % b ∧ a % b < b := ⟨Int.emod_nonneg a (by omega), Int.emod_lt_of_pos a h⟩
theorem m_take {n : Nat} {xs : List PyData} {many : Int} (hb : Bg n xs) (h0 : 0 < many) (h1 : many ≤ 1000000000) (hn : n ≤ 1000000000) :
    ∃ v ys, m_f_law_take fa [.own xs, .d (.int many)] = .ok (.int v) [.own ys, .d (.int many)] ∧ 0 ≤ v ∧ v < many ∧ Bg (n + 1) ys := by
  obtain ⟨z, s, i, cs, rfl, hz, hs0, hs1, hi0, hi1, hl, hc⟩ := hb
  have pint : ∀ k : Int, pyInt (.int k) = some (.int k) := fun _ => rfl
  have md : ∀ k : Int, pyMod (.int k) (.int many) = some (.int (k % many)) := fun k => pyMod_s h0
  have md1 : ∀ k : Int, pyMod (.int k) (.int 2147483647) = some (.int (k % 2147483647)) := fun k => pyMod_s (by decide)
  have md2 : ∀ k : Int, pyMod (.int k) (.int 1000000007) = some (.int (k % 1000000007)) := fun k => pyMod_s (by decide)
  have md3 : ∀ k : Int, pyMod (.int k) (.int 998244353) = some (.int (k % 998244353)) := fun k => pyMod_s (by decide)
  have dv : ∀ k : Int, pyDiv (.int k) (.int many) = some (.int (k / many)) := fun k => pyDiv_big h0 (by omega)
  have dv7 : ∀ k : Int, pyDiv (.int k) (.int 7) = some (.int (k / 7)) := fun k => pyDiv_big (by decide) (by decide)
  have pw : pyPow (.int 10) (.int 18) = some (.int (10 ^ 18)) := rfl
  unfold m_f_law_take fnR b_f_law_take
  -- the first part
  have part1 : ∃ (z1 s1 i1 : Int) (r2 r3 : Sv), 0 ≤ z1 ∧ 0 ≤ s1 ∧ s1 < 2147483647 ∧ 0 ≤ i1 ∧ i1 ≤ n + 1 ∧ (sIf (bB (eOp pyEq (eIdxV 0 (eC (.int 0))) (eC (.int 0)))) (sSeq (sAsg (gN 2) (eOp pyIdx (eL (nCat (nSl (eIdxV 0 (eC (.int 3))) (oSome (eIdxV 0 (eC (.int 2)))) oNo) (nLst (lCons (eC (.int 0)) lNil)))) (eC (.int 0))))
    (sSeq (sAugP 0 2 (fun i j => i + j) (eC (.int 1)))
    (sSeq (sIf (bB (eOp pyGe (eV 2) (eOp pyPow (eC (.int 10)) (eC (.int 18))))) (sPut 0 0 (eV 2)) sNext)
    (sSeq (sAsg (gN 3) (eOp pyAdd (eOp pyAdd (eOp pyMul (eIdxV 0 (eC (.int 1))) (eC (.int 48271))) (eOp pyMod (eCB (py1 pyInt) (lCons (eV 2) lNil)) (eC (.int 2147483647)))) (eOp pyMul (eC (.int 7919)) (eIdxV 0 (eC (.int 2))))))
    (sPut 0 1 (eOp pyMod (eCB (py1 pyInt) (lCons (eV 3) lNil)) (eC (.int 2147483647)))))))) sNext) [.own [.int z, .int s, .int i, .list (cs.map PyData.int)], .d (.int many), .un, .un, .un, .un, .un] = .nx [.own [.int z1, .int s1, .int i1, .list (cs.map PyData.int)], .d (.int many), r2, r3, .un, .un, .un] := by
    by_cases hz0 : z = 0
    · subst hz0
      obtain ⟨c, c0, c1, c2⟩ := first_cell cs i hi0 hc hl
      have d0 : decide ((0 : Int) = 0) = true := rfl
      have l1 : (1 : Nat) ≤ sizeLine := by decide
      have ag : ∀ t0 t1 t2 t3 t4 : Sv, sAugP 0 2 (fun i j => i + j) (eC (.int 1)) [.own [.int 0, .int s, .int i, .list (cs.map PyData.int)], t0, t1, t2, t3, t4, .un] = .nx [.own [.int 0, .int s, .int (i + 1), .list (cs.map PyData.int)], t0, t1, t2, t3, t4, .un] := fun t0 t1 t2 t3 t4 =>
        sAugP_run (a := i) (b := 1) (k := 2) (xs0 := [.int 0, .int s, .int i, .list (cs.map PyData.int)]) (xs := [.int 0, .int s, .int i, .list (cs.map PyData.int)]) (s := [.own [.int 0, .int s, .int i, .list (cs.map PyData.int)], t0, t1, t2, t3, t4, .un]) rfl (by decide) (by rw [idx2]) rfl rfl rfl
      have m1 := pyMul_s (i := s) (j := 48271) (by omega) (by decide)
      have m2 := pyMul_s (i := 7919) (j := i + 1) (by decide) (by omega)
      have mm := mod_lt (a := s * 48271 + c % 2147483647 + 7919 * (i + 1)) (b := 2147483647) (by decide)
      cases hbig : decide ((10 ^ 18 : Int) ≤ c) with
      | true =>
        refine ⟨c, (s * 48271 + c % 2147483647 + 7919 * (i + 1)) % 2147483647, i + 1, .d (.int c), .d (.int (s * 48271 + c % 2147483647 + 7919 * (i + 1))), c0, mm.1, mm.2, by omega, by omega, ?_⟩
        simp only [eC_ap, eV_ap, eOp_ap, eUn_ap, bB_ap, bAnd_ap, bOr_ap, bNot_ap, eAnd_ap, eOr_ap, eNot_ap, eIf_ap, eIsN_ap, lNil_ap, lCons_ap, eTup_ap, nLst_ap, eL_ap, nCat_ap, qR_ap, qN_ap, qV_ap, eLenQ_ap, eCB_ap, eTupleQ_ap, nListQ_ap, eIsi_ap, oNo_ap, oSome_ap, eSl_ap, nSl_ap, eIdxV_ap, iR_ap, iZp_ap, iZp3_ap, iEnA_ap, nComp_ap, sNext_ap, sSeq_ap, sIf_ap, sRet_ap, sDrop_ap, sAsg_ap, sSetN_ap, sRaise_ap, sFor_ap, aNil_ap, aDt_ap, aLk_ap, aFn_ap, eCall_ap, eCallN_ap, fb_nx, fb_rt, fb_ex, bind_ok, bind_ex, bind_no, fl_ok, fl_ex, fl_no, lift_some, lift_none, pySub_i, pyAdd_i, pyMax_i, pyAbs_i, pyLe_i, pyLt_i, pyGt_i, pyGe_i, pyEq_i, pyNe_i, py1, py2, asB, hasV, hasS, idxS, agSv, lks, gN, gT, gsC, gsN, wipeA, rstA, keepD, isFn, List.getElem?_cons_zero, List.getElem?_cons_succ, List.set_cons_zero, List.set_cons_succ, List.length_cons, List.length_nil, List.map_cons, List.map_nil, List.getD_cons_zero, List.getD_cons_succ, List.take_succ_cons, List.take_zero, List.take_nil, List.drop_succ_cons, List.drop_zero, List.drop_nil, List.append_nil, List.nil_append, List.cons_append, Option.bind_some, Option.map_some, Nat.zero_add, Nat.reduceAdd, Nat.reduceSub, Nat.reduceLeDiff, Nat.reduceEqDiff, if_true, if_false, Bool.not_true, Bool.not_false, Bool.true_and, Bool.false_and, Bool.and_true, decide_true, decide_false, List.all_nil, List.all_cons, and_self, and_true, true_and, ite_true, ite_false, reduceIte, List.replicate_zero, List.reduceReplicate, List.nodup_cons, List.nodup_nil, List.mem_cons, List.not_mem_nil, List.mem_singleton, or_false, or_self, not_false_eq_true, not_true_eq_false, wb, chg, isO, Bool.false_eq_true, Nat.reduceEqDiff, Nat.one_ne_zero, idx0, idx1, idx2, idx3, ix4_0, ix4_1, sPut_ap, pyIdx_l, pyIdx_t, Bool.or_false, Bool.or_true, Bool.true_or, Bool.false_or, beq_self_eq_true, d0, c1, c2, l1, ag, pw, hbig, m1, md1, m2, pint]
      | false =>
        refine ⟨0, (s * 48271 + c % 2147483647 + 7919 * (i + 1)) % 2147483647, i + 1, .d (.int c), .d (.int (s * 48271 + c % 2147483647 + 7919 * (i + 1))), Int.le_refl _, mm.1, mm.2, by omega, by omega, ?_⟩
        simp only [eC_ap, eV_ap, eOp_ap, eUn_ap, bB_ap, bAnd_ap, bOr_ap, bNot_ap, eAnd_ap, eOr_ap, eNot_ap, eIf_ap, eIsN_ap, lNil_ap, lCons_ap, eTup_ap, nLst_ap, eL_ap, nCat_ap, qR_ap, qN_ap, qV_ap, eLenQ_ap, eCB_ap, eTupleQ_ap, nListQ_ap, eIsi_ap, oNo_ap, oSome_ap, eSl_ap, nSl_ap, eIdxV_ap, iR_ap, iZp_ap, iZp3_ap, iEnA_ap, nComp_ap, sNext_ap, sSeq_ap, sIf_ap, sRet_ap, sDrop_ap, sAsg_ap, sSetN_ap, sRaise_ap, sFor_ap, aNil_ap, aDt_ap, aLk_ap, aFn_ap, eCall_ap, eCallN_ap, fb_nx, fb_rt, fb_ex, bind_ok, bind_ex, bind_no, fl_ok, fl_ex, fl_no, lift_some, lift_none, pySub_i, pyAdd_i, pyMax_i, pyAbs_i, pyLe_i, pyLt_i, pyGt_i, pyGe_i, pyEq_i, pyNe_i, py1, py2, asB, hasV, hasS, idxS, agSv, lks, gN, gT, gsC, gsN, wipeA, rstA, keepD, isFn, List.getElem?_cons_zero, List.getElem?_cons_succ, List.set_cons_zero, List.set_cons_succ, List.length_cons, List.length_nil, List.map_cons, List.map_nil, List.getD_cons_zero, List.getD_cons_succ, List.take_succ_cons, List.take_zero, List.take_nil, List.drop_succ_cons, List.drop_zero, List.drop_nil, List.append_nil, List.nil_append, List.cons_append, Option.bind_some, Option.map_some, Nat.zero_add, Nat.reduceAdd, Nat.reduceSub, Nat.reduceLeDiff, Nat.reduceEqDiff, if_true, if_false, Bool.not_true, Bool.not_false, Bool.true_and, Bool.false_and, Bool.and_true, decide_true, decide_false, List.all_nil, List.all_cons, and_self, and_true, true_and, ite_true, ite_false, reduceIte, List.replicate_zero, List.reduceReplicate, List.nodup_cons, List.nodup_nil, List.mem_cons, List.not_mem_nil, List.mem_singleton, or_false, or_self, not_false_eq_true, not_true_eq_false, wb, chg, isO, Bool.false_eq_true, Nat.reduceEqDiff, Nat.one_ne_zero, idx0, idx1, idx2, idx3, ix4_0, ix4_1, sPut_ap, pyIdx_l, pyIdx_t, Bool.or_false, Bool.or_true, Bool.true_or, Bool.false_or, beq_self_eq_true, d0, c1, c2, l1, ag, pw, hbig, m1, md1, m2, pint]
    · have d0 : decide (z = 0) = false := decide_eq_false hz0
      refine ⟨z, s, i, .un, .un, hz, hs0, hs1, hi0, by omega, ?_⟩
      simp only [eC_ap, eV_ap, eOp_ap, eUn_ap, bB_ap, bAnd_ap, bOr_ap, bNot_ap, eAnd_ap, eOr_ap, eNot_ap, eIf_ap, eIsN_ap, lNil_ap, lCons_ap, eTup_ap, nLst_ap, eL_ap, nCat_ap, qR_ap, qN_ap, qV_ap, eLenQ_ap, eCB_ap, eTupleQ_ap, nListQ_ap, eIsi_ap, oNo_ap, oSome_ap, eSl_ap, nSl_ap, eIdxV_ap, iR_ap, iZp_ap, iZp3_ap, iEnA_ap, nComp_ap, sNext_ap, sSeq_ap, sIf_ap, sRet_ap, sDrop_ap, sAsg_ap, sSetN_ap, sRaise_ap, sFor_ap, aNil_ap, aDt_ap, aLk_ap, aFn_ap, eCall_ap, eCallN_ap, fb_nx, fb_rt, fb_ex, bind_ok, bind_ex, bind_no, fl_ok, fl_ex, fl_no, lift_some, lift_none, pySub_i, pyAdd_i, pyMax_i, pyAbs_i, pyLe_i, pyLt_i, pyGt_i, pyGe_i, pyEq_i, pyNe_i, py1, py2, asB, hasV, hasS, idxS, agSv, lks, gN, gT, gsC, gsN, wipeA, rstA, keepD, isFn, List.getElem?_cons_zero, List.getElem?_cons_succ, List.set_cons_zero, List.set_cons_succ, List.length_cons, List.length_nil, List.map_cons, List.map_nil, List.getD_cons_zero, List.getD_cons_succ, List.take_succ_cons, List.take_zero, List.take_nil, List.drop_succ_cons, List.drop_zero, List.drop_nil, List.append_nil, List.nil_append, List.cons_append, Option.bind_some, Option.map_some, Nat.zero_add, Nat.reduceAdd, Nat.reduceSub, Nat.reduceLeDiff, Nat.reduceEqDiff, if_true, if_false, Bool.not_true, Bool.not_false, Bool.true_and, Bool.false_and, Bool.and_true, decide_true, decide_false, List.all_nil, List.all_cons, and_self, and_true, true_and, ite_true, ite_false, reduceIte, List.replicate_zero, List.reduceReplicate, List.nodup_cons, List.nodup_nil, List.mem_cons, List.not_mem_nil, List.mem_singleton, or_false, or_self, not_false_eq_true, not_true_eq_false, wb, chg, isO, Bool.false_eq_true, Nat.reduceEqDiff, Nat.one_ne_zero, idx0, idx1, idx2, idx3, ix4_0, ix4_1, sPut_ap, pyIdx_l, pyIdx_t, Bool.or_false, Bool.or_true, Bool.true_or, Bool.false_or, beq_self_eq_true, d0]
  obtain ⟨z1, s1, i1, r2, r3, a1, a2, a3, a4, a5, e1⟩ := part1
  by_cases hp : 0 < z1
  · have d1 : decide (0 < z1) = true := decide_eq_true hp
    have mm := mod_lt (a := z1) h0
    refine ⟨z1 % many, [.int (z1 / many), .int s1, .int i1, .list (cs.map PyData.int)], ?_, mm.1, mm.2, z1 / many, s1, i1, cs, rfl, Int.ediv_nonneg a1 (by omega), a2, a3, a4, by omega, hl, hc⟩
    simp only [sSeq_ap, List.cons_append, List.nil_append, Nat.reduceSub, List.reduceReplicate, List.length_cons, List.length_nil, e1, fb_nx]
    simp only [eC_ap, eV_ap, eOp_ap, eUn_ap, bB_ap, bAnd_ap, bOr_ap, bNot_ap, eAnd_ap, eOr_ap, eNot_ap, eIf_ap, eIsN_ap, lNil_ap, lCons_ap, eTup_ap, nLst_ap, eL_ap, nCat_ap, qR_ap, qN_ap, qV_ap, eLenQ_ap, eCB_ap, eTupleQ_ap, nListQ_ap, eIsi_ap, oNo_ap, oSome_ap, eSl_ap, nSl_ap, eIdxV_ap, iR_ap, iZp_ap, iZp3_ap, iEnA_ap, nComp_ap, sNext_ap, sSeq_ap, sIf_ap, sRet_ap, sDrop_ap, sAsg_ap, sSetN_ap, sRaise_ap, sFor_ap, aNil_ap, aDt_ap, aLk_ap, aFn_ap, eCall_ap, eCallN_ap, fb_nx, fb_rt, fb_ex, bind_ok, bind_ex, bind_no, fl_ok, fl_ex, fl_no, lift_some, lift_none, pySub_i, pyAdd_i, pyMax_i, pyAbs_i, pyLe_i, pyLt_i, pyGt_i, pyGe_i, pyEq_i, pyNe_i, py1, py2, asB, hasV, hasS, idxS, agSv, lks, gN, gT, gsC, gsN, wipeA, rstA, keepD, isFn, List.getElem?_cons_zero, List.getElem?_cons_succ, List.set_cons_zero, List.set_cons_succ, List.length_cons, List.length_nil, List.map_cons, List.map_nil, List.getD_cons_zero, List.getD_cons_succ, List.take_succ_cons, List.take_zero, List.take_nil, List.drop_succ_cons, List.drop_zero, List.drop_nil, List.append_nil, List.nil_append, List.cons_append, Option.bind_some, Option.map_some, Nat.zero_add, Nat.reduceAdd, Nat.reduceSub, Nat.reduceLeDiff, Nat.reduceEqDiff, if_true, if_false, Bool.not_true, Bool.not_false, Bool.true_and, Bool.false_and, Bool.and_true, decide_true, decide_false, List.all_nil, List.all_cons, and_self, and_true, true_and, ite_true, ite_false, reduceIte, List.replicate_zero, List.reduceReplicate, List.nodup_cons, List.nodup_nil, List.mem_cons, List.not_mem_nil, List.mem_singleton, or_false, or_self, not_false_eq_true, not_true_eq_false, wb, chg, isO, Bool.false_eq_true, Nat.reduceEqDiff, Nat.one_ne_zero, idx0, idx1, idx2, idx3, ix4_0, ix4_1, sPut_ap, pyIdx_l, pyIdx_t, Bool.or_false, Bool.or_true, Bool.true_or, Bool.false_or, beq_self_eq_true, d1, pint, md, dv]
  · have d1 : decide (0 < z1) = false := decide_eq_false hp
    have m1 := pyMul_s (i := s1 + 1) (j := 39373) (by omega) (by decide)
    have g1 := mod_lt (a := (s1 + 1) * 39373) (b := 1000000007) (by decide)
    have m2 := pyMul_s (i := (s1 + 1) * 39373 % 1000000007) (j := (s1 + 1) * 39373 % 1000000007) (by omega) (by omega)
    have g2 := mod_lt (a := (s1 + 1) * 39373 % 1000000007 * ((s1 + 1) * 39373 % 1000000007)) (b := 998244353) (by decide)
    have m3 := pyMul_s (i := (s1 + 1) * 39373 % 1000000007 * ((s1 + 1) * 39373 % 1000000007) % 998244353) (j := 30011) (by omega) (by decide)
    have mm := mod_lt (a := (s1 + 1) * 39373 % 1000000007 * ((s1 + 1) * 39373 % 1000000007) % 998244353 * 30011 % 998244353 / 7) h0
    refine ⟨_, [.int z1, .int s1, .int i1, .list (cs.map PyData.int)], ?_, mm.1, mm.2, z1, s1, i1, cs, rfl, a1, a2, a3, a4, by omega, hl, hc⟩
    simp only [sSeq_ap, List.cons_append, List.nil_append, Nat.reduceSub, List.reduceReplicate, List.length_cons, List.length_nil, e1, fb_nx]
    simp only [eC_ap, eV_ap, eOp_ap, eUn_ap, bB_ap, bAnd_ap, bOr_ap, bNot_ap, eAnd_ap, eOr_ap, eNot_ap, eIf_ap, eIsN_ap, lNil_ap, lCons_ap, eTup_ap, nLst_ap, eL_ap, nCat_ap, qR_ap, qN_ap, qV_ap, eLenQ_ap, eCB_ap, eTupleQ_ap, nListQ_ap, eIsi_ap, oNo_ap, oSome_ap, eSl_ap, nSl_ap, eIdxV_ap, iR_ap, iZp_ap, iZp3_ap, iEnA_ap, nComp_ap, sNext_ap, sSeq_ap, sIf_ap, sRet_ap, sDrop_ap, sAsg_ap, sSetN_ap, sRaise_ap, sFor_ap, aNil_ap, aDt_ap, aLk_ap, aFn_ap, eCall_ap, eCallN_ap, fb_nx, fb_rt, fb_ex, bind_ok, bind_ex, bind_no, fl_ok, fl_ex, fl_no, lift_some, lift_none, pySub_i, pyAdd_i, pyMax_i, pyAbs_i, pyLe_i, pyLt_i, pyGt_i, pyGe_i, pyEq_i, pyNe_i, py1, py2, asB, hasV, hasS, idxS, agSv, lks, gN, gT, gsC, gsN, wipeA, rstA, keepD, isFn, List.getElem?_cons_zero, List.getElem?_cons_succ, List.set_cons_zero, List.set_cons_succ, List.length_cons, List.length_nil, List.map_cons, List.map_nil, List.getD_cons_zero, List.getD_cons_succ, List.take_succ_cons, List.take_zero, List.take_nil, List.drop_succ_cons, List.drop_zero, List.drop_nil, List.append_nil, List.nil_append, List.cons_append, Option.bind_some, Option.map_some, Nat.zero_add, Nat.reduceAdd, Nat.reduceSub, Nat.reduceLeDiff, Nat.reduceEqDiff, if_true, if_false, Bool.not_true, Bool.not_false, Bool.true_and, Bool.false_and, Bool.and_true, decide_true, decide_false, List.all_nil, List.all_cons, and_self, and_true, true_and, ite_true, ite_false, reduceIte, List.replicate_zero, List.reduceReplicate, List.nodup_cons, List.nodup_nil, List.mem_cons, List.not_mem_nil, List.mem_singleton, or_false, or_self, not_false_eq_true, not_true_eq_false, wb, chg, isO, Bool.false_eq_true, Nat.reduceEqDiff, Nat.one_ne_zero, idx0, idx1, idx2, idx3, ix4_0, ix4_1, sPut_ap, pyIdx_l, pyIdx_t, Bool.or_false, Bool.or_true, Bool.true_or, Bool.false_or, beq_self_eq_true, d1, pint, m1, md2, m2, md3, m3, dv7, md]
end K_k33

namespace K_k33
open PySem L2 Evl RZ PyProof.Rows AX
/-! ### the line keeps what it says -/
theorem near_le {n d : Int} (h : 0 < d) : 2 * ((d * near n d - n).natAbs : Int) ≤ d := by
  have h1 := Int.mul_ediv_add_emod (2 * n + d) (2 * d)
  have h2 := Int.emod_nonneg (2 * n + d) (b := 2 * d) (by omega)
  have h3 := Int.emod_lt_of_pos (2 * n + d) (b := 2 * d) (by omega)
  have e : 2 * d * near n d = 2 * (d * near n d) := Int.mul_assoc 2 d (near n d)
  have h1 : 2 * d * near n d + (2 * n + d) % (2 * d) = 2 * n + d := h1
  rw [e] at h1
  generalize d * near n d = u at *
  generalize (2 * n + d) % (2 * d) = r at *
  omega
theorem near_step {n w d : Int} (h : 0 < d) (h1 : w ≤ d) (h2 : -d ≤ w) : near (n + w) d - near n d ≤ 1 ∧ -1 ≤ near (n + w) d - near n d := by
  have up : near (n + w) d ≤ near n d + 1 := by
    unfold near
    have : (2 * (n + w) + d) / (2 * d) ≤ (2 * n + d + 1 * (2 * d)) / (2 * d) := Int.ediv_le_ediv (by omega) (by omega)
    rw [Int.add_mul_ediv_right _ _ (by omega)] at this
    exact this
  have dn : near n d - 1 ≤ near (n + w) d := by
    unfold near
    have : (2 * n + d + (-1) * (2 * d)) / (2 * d) ≤ (2 * (n + w) + d) / (2 * d) := Int.ediv_le_ediv (by omega) (by omega)
    rw [Int.add_mul_ediv_right _ _ (by omega)] at this
    exact this
  omega
theorem near_full {n d : Int} (h : 0 < d) : near (n + d) d = near n d + 1 ∧ near (n + -d) d = near n d - 1 := by
  unfold near
  constructor
  · rw [show 2 * (n + d) + d = 2 * n + d + 1 * (2 * d) by omega, Int.add_mul_ediv_right _ _ (by omega)]
  · rw [show 2 * (n + -d) + d = 2 * n + d + (-1) * (2 * d) by omega, Int.add_mul_ediv_right _ _ (by omega)]
    omega
theorem at_step (a c m : Int) (k : Nat) : at1 a c m ((k + 1 : Nat) : Int) - at1 a c m (k : Nat) = near ((k : Nat) * (c - a) + (c - a)) m - near ((k : Nat) * (c - a)) m := by
  unfold at1
  have e : ((k + 1 : Nat) : Int) * (c - a) = (k : Nat) * (c - a) + (c - a) := by
    push_cast
    rw [Int.add_mul, Int.one_mul]
  rw [e]
  omega
theorem near_end {u m : Int} (h : 0 < m) : near (m * u) m = u := by
  unfold near
  have e : 2 * (m * u) + m = m + u * (2 * m) := by
    rw [← Int.mul_assoc, Int.mul_comm (2 * m) u]
    omega
  rw [e, Int.add_mul_ediv_right _ _ (by omega), Int.ediv_eq_zero_of_lt (by omega) (by omega), Int.zero_add]
/-- the spots as pairs -/
def ptP (a b c d : Int) (k : Nat) : Int × Int := (at1 a c (lenI a b c d) (k : Nat), at1 b d (lenI a b c d) (k : Nat))
def dueL (a b c d : Int) : List (Int × Int) := (List.range (lenI a b c d).toNat).map fun k => (stpX a b c d k, stpY a b c d k)
theorem due_pp (a b c d : Int) : due a b c d = (dueL a b c d).map pp := by
  unfold due dueL
  rw [List.map_map]
  rfl
theorem sums_tel (P : Nat → Int × Int) : ∀ (n k : Nat), sums (P k) ((List.range' k n).map fun i => ((P (i + 1)).1 - (P i).1, (P (i + 1)).2 - (P i).2)) = (List.range' k (n + 1)).map P
  | 0, k => by rfl
  | n + 1, k => by
    rw [List.range'_succ, List.map_cons, sums, List.range'_succ, List.map_cons]
    congr 1
    have e : ((P k).1 + ((P (k + 1)).1 - (P k).1), (P k).2 + ((P (k + 1)).2 - (P k).2)) = P (k + 1) := by
      apply Prod.ext
      · show (P k).1 + ((P (k + 1)).1 - (P k).1) = _; omega
      · show (P k).2 + ((P (k + 1)).2 - (P k).2) = _; omega
    show sums ((P k).1 + ((P (k + 1)).1 - (P k).1), (P k).2 + ((P (k + 1)).2 - (P k).2)) _ = _
    rw [e]
    exact sums_tel P n (k + 1)
theorem ptP0 (a b c d : Int) : ptP a b c d 0 = (a, b) := by
  unfold ptP
  have e : ((0 : Nat) : Int) = 0 := rfl
  rw [e, at0 _ _ _ (len_nonneg ..), at0 _ _ _ (len_nonneg ..)]
theorem sums_due (a b c d : Int) : sums (a, b) (dueL a b c d) = (List.range ((lenI a b c d).toNat + 1)).map (ptP a b c d) := by
  have := sums_tel (ptP a b c d) (lenI a b c d).toNat 0
  rw [ptP0, ← List.range_eq_range', ← List.range_eq_range'] at this
  exact this
theorem idx_map_range {α : Type} (P : Nat → α) : ∀ (n k : Nat), idx k ((List.range' k n).map P) = (List.range' k n).map fun i => (i, P i)
  | 0, k => rfl
  | n + 1, k => by
    rw [List.range'_succ, List.map_cons, idx, List.map_cons, idx_map_range P n (k + 1)]
theorem ptP_end (a b c d : Int) : ptP a b c d (lenI a b c d).toNat = (c, d) := by
  have h := len_nonneg a b c d
  have e : (((lenI a b c d).toNat : Nat) : Int) = lenI a b c d := by omega
  unfold ptP
  rw [e]
  rcases Int.lt_or_eq_of_le h with h | h
  · unfold at1
    rw [near_end h, near_end h]
    apply Prod.ext
    · show a + (c - a) = c; omega
    · show b + (d - b) = d; omega
  · rw [← h, at0 _ _ _ (Int.le_refl _), at0 _ _ _ (Int.le_refl _)]
    unfold lenI at h
    apply Prod.ext
    · show a = c; omega
    · show b = d; omega
theorem last_due (a b c d : Int) : lastS (a, b) (dueL a b c d) = (c, d) := by
  have h := sums_last (a, b) (dueL a b c d)
  rw [sums_due, List.range_succ, List.map_append] at h
  simp at h
  rw [← h, ptP_end]
theorem nr_pt (m a c : Int) (k : Nat) (h : 0 ≤ m) (hu : (c - a).natAbs ≤ m.natAbs) : nrI m a c (k : Nat) (at1 a c m (k : Nat)) = true := by
  unfold nrI
  rw [decide_eq_true_eq]
  rcases Int.lt_or_eq_of_le h with h | h
  · unfold at1
    rw [show a + near ((k : Nat) * (c - a)) m - a = near ((k : Nat) * (c - a)) m by omega]
    exact near_le h
  · subst h
    have e : c - a = 0 := by omega
    rw [e, Int.mul_zero, Int.zero_mul]
    decide
theorem fits_due (a b c d : Int) : fitsL a b c d (dueL a b c d) = true := by
  unfold fitsL
  rw [last_due, sums_due, List.range_eq_range', idx_map_range, Bool.and_eq_true]
  refine ⟨decide_eq_true rfl, List.all_eq_true.mpr fun q hq => ?_⟩
  obtain ⟨i, _, e⟩ := List.mem_map.mp hq
  subst e
  have h := len_nonneg a b c d
  show (nrI _ _ _ _ _ && nrI _ _ _ _ _) = true
  rw [Bool.and_eq_true]
  exact ⟨nr_pt _ _ _ _ h (by unfold lenI; omega), nr_pt _ _ _ _ h (by unfold lenI; omega)⟩
theorem stp_due (a b c d : Int) (k : Nat) (h0 : 0 < lenI a b c d) : stp (stpX a b c d k) (stpY a b c d k) = true := by
  unfold stp stpX stpY
  rw [at_step, at_step, decide_eq_true_eq]
  have hx := near_step (n := (k : Nat) * (c - a)) (w := c - a) h0 (by unfold lenI; omega) (by unfold lenI; omega)
  have hy := near_step (n := (k : Nat) * (d - b)) (w := d - b) h0 (by unfold lenI; omega) (by unfold lenI; omega)
  have fx := near_full (n := (k : Nat) * (c - a)) h0
  have fy := near_full (n := (k : Nat) * (d - b)) h0
  have key : c - a = lenI a b c d ∨ c - a = -lenI a b c d ∨ d - b = lenI a b c d ∨ d - b = -lenI a b c d := by unfold lenI; omega
  rcases key with e | e | e | e
  · rw [← e] at fx
    rw [← e] at hx hy ⊢
    omega
  · rw [← e] at fx
    omega
  · rw [← e] at fy
    rw [← e] at hx hy ⊢
    omega
  · rw [← e] at fy
    omega
theorem steps_due (a b c d : Int) : isSteps (.tuple (due a b c d)) = true := by
  unfold isSteps
  rw [List.all_eq_true]
  intro x hx
  obtain ⟨k, hk, e⟩ := List.mem_map.mp hx
  subst e
  have := List.mem_range.mp hk
  exact stp_due a b c d k (by omega)
theorem due_len (a b c d : Int) : (due a b c d).length = (lenI a b c d).toNat := by
  unfold due
  rw [List.length_map, List.length_range]
theorem fitsD_due (a b c d : Int) : fitsD a b c d (.tuple (due a b c d)) = true := by
  have h := len_nonneg a b c d
  simp only [fitsD, steps_due, due_len, Bool.true_and]
  rw [due_pp, unpp_map, fits_due, Bool.and_true, decide_eq_true_eq]
  omega
end K_k33

namespace K_k33
open PySem L2 Evl RZ PyProof.Rows AX
variable {fa : Str → Addr}
theorem m_alike {n w : Nat} {d : PyData} (h : Sml n w d) (hn : n ≤ 64) (hw : w ≤ 2 ^ 20) : m_f_law_alike fa [.d d, .d d] = .ok (.bool true) [.d d, .d d] := by
  unfold m_f_law_alike fnR b_f_law_alike
  simp only [eC_ap, eV_ap, eOp_ap, eUn_ap, bB_ap, bAnd_ap, bOr_ap, bNot_ap, eAnd_ap, eOr_ap, eNot_ap, eIf_ap, eIsN_ap, lNil_ap, lCons_ap, eTup_ap, nLst_ap, eL_ap, nCat_ap, qR_ap, qN_ap, qV_ap, eLenQ_ap, eCB_ap, eTupleQ_ap, nListQ_ap, eIsi_ap, oNo_ap, oSome_ap, eSl_ap, nSl_ap, eIdxV_ap, iR_ap, iZp_ap, iZp3_ap, iEnA_ap, nComp_ap, sNext_ap, sSeq_ap, sIf_ap, sRet_ap, sDrop_ap, sAsg_ap, sSetN_ap, sRaise_ap, sFor_ap, aNil_ap, aDt_ap, aLk_ap, aFn_ap, eCall_ap, eCallN_ap, fb_nx, fb_rt, fb_ex, bind_ok, bind_ex, bind_no, fl_ok, fl_ex, fl_no, lift_some, lift_none, pySub_i, pyAdd_i, pyMax_i, pyAbs_i, pyLe_i, pyLt_i, pyGt_i, pyGe_i, pyEq_i, pyNe_i, py1, py2, asB, hasV, hasS, idxS, agSv, lks, gN, gT, gsC, gsN, wipeA, rstA, keepD, isFn, List.getElem?_cons_zero, List.getElem?_cons_succ, List.set_cons_zero, List.set_cons_succ, List.length_cons, List.length_nil, List.map_cons, List.map_nil, List.getD_cons_zero, List.getD_cons_succ, List.take_succ_cons, List.take_zero, List.take_nil, List.drop_succ_cons, List.drop_zero, List.drop_nil, List.append_nil, List.nil_append, List.cons_append, Option.bind_some, Option.map_some, Nat.zero_add, Nat.reduceAdd, Nat.reduceSub, Nat.reduceLeDiff, Nat.reduceEqDiff, if_true, if_false, Bool.not_true, Bool.not_false, Bool.true_and, Bool.false_and, Bool.and_true, decide_true, decide_false, List.all_nil, List.all_cons, and_self, and_true, true_and, ite_true, ite_false, reduceIte, List.replicate_zero, List.reduceReplicate, List.nodup_cons, List.nodup_nil, List.mem_cons, List.not_mem_nil, List.mem_singleton, or_false, or_self, not_false_eq_true, not_true_eq_false, wb, chg, isO, Bool.false_eq_true, Nat.reduceEqDiff, Nat.one_ne_zero, idx0, idx1, idx2, idx3, ix4_0, ix4_1, sPut_ap, pyIdx_l, pyIdx_t, Bool.or_false, Bool.or_true, Bool.true_or, Bool.false_or, beq_self_eq_true, repr_of h hn hw, eq_self h hn, eq_shown h]
theorem m_some {n : Nat} {xs things : List PyData} (hb : Bg n xs) (hn : n ≤ 1000000000) (h1 : 1 ≤ things.length) (h2 : things.length ≤ 1000) :
    ∃ y ys, y ∈ things ∧ m_f_law_some fa [.own xs, .d (.list things)] = .ok y [.own ys, .d (.list things)] ∧ Bg (n + 1) ys := by
  obtain ⟨v, ys, e, v0, v1, hb2⟩ := m_take (fa := fa) (many := things.length) hb (by omega) (by omega) hn
  have pl : pyLen (.list things) = some (.int things.length) := rfl
  have hv : v.toNat < things.length := by omega
  have at_ : atI things v = some things[v.toNat] := by
    have q := atI_nat (xs := things) (k := v.toNat)
    rw [show ((v.toNat : Nat) : Int) = v by omega] at q
    rw [q, List.getElem?_eq_getElem hv]
  refine ⟨things[v.toNat], ys, List.getElem_mem hv, ?_, hb2⟩
  unfold m_f_law_some fnR b_f_law_some
  simp only [eC_ap, eV_ap, eOp_ap, eUn_ap, bB_ap, bAnd_ap, bOr_ap, bNot_ap, eAnd_ap, eOr_ap, eNot_ap, eIf_ap, eIsN_ap, lNil_ap, lCons_ap, eTup_ap, nLst_ap, eL_ap, nCat_ap, qR_ap, qN_ap, qV_ap, eLenQ_ap, eCB_ap, eTupleQ_ap, nListQ_ap, eIsi_ap, oNo_ap, oSome_ap, eSl_ap, nSl_ap, eIdxV_ap, iR_ap, iZp_ap, iZp3_ap, iEnA_ap, nComp_ap, sNext_ap, sSeq_ap, sIf_ap, sRet_ap, sDrop_ap, sAsg_ap, sSetN_ap, sRaise_ap, sFor_ap, aNil_ap, aDt_ap, aLk_ap, aFn_ap, eCall_ap, eCallN_ap, fb_nx, fb_rt, fb_ex, bind_ok, bind_ex, bind_no, fl_ok, fl_ex, fl_no, lift_some, lift_none, pySub_i, pyAdd_i, pyMax_i, pyAbs_i, pyLe_i, pyLt_i, pyGt_i, pyGe_i, pyEq_i, pyNe_i, py1, py2, asB, hasV, hasS, idxS, agSv, lks, gN, gT, gsC, gsN, wipeA, rstA, keepD, isFn, List.getElem?_cons_zero, List.getElem?_cons_succ, List.set_cons_zero, List.set_cons_succ, List.length_cons, List.length_nil, List.map_cons, List.map_nil, List.getD_cons_zero, List.getD_cons_succ, List.take_succ_cons, List.take_zero, List.take_nil, List.drop_succ_cons, List.drop_zero, List.drop_nil, List.append_nil, List.nil_append, List.cons_append, Option.bind_some, Option.map_some, Nat.zero_add, Nat.reduceAdd, Nat.reduceSub, Nat.reduceLeDiff, Nat.reduceEqDiff, if_true, if_false, Bool.not_true, Bool.not_false, Bool.true_and, Bool.false_and, Bool.and_true, decide_true, decide_false, List.all_nil, List.all_cons, and_self, and_true, true_and, ite_true, ite_false, reduceIte, List.replicate_zero, List.reduceReplicate, List.nodup_cons, List.nodup_nil, List.mem_cons, List.not_mem_nil, List.mem_singleton, or_false, or_self, not_false_eq_true, not_true_eq_false, wb, chg, isO, Bool.false_eq_true, Nat.reduceEqDiff, Nat.one_ne_zero, idx0, idx1, idx2, idx3, ix4_0, ix4_1, sPut_ap, pyIdx_l, pyIdx_t, Bool.or_false, Bool.or_true, Bool.true_or, Bool.false_or, beq_self_eq_true, pl, e, at_]
/-- what a slot may hold between the laps -/
def Fr (s : Sv) : Prop := keepD (some s) = s
/-- the law's slots -/
def St (sc T : Sv) (xs : List PyData) (r : List Sv) : AS := sc :: .own xs :: (r ++ [T])
theorem seq_nx {A B : AS → Fl} {ss s1 : AS} (h : A ss = .nx s1) : sSeq A B ss = B s1 := by rw [sSeq_ap, h]; rfl
theorem s3 {n : Nat} {xs : List PyData} (sc T t2 t3 t4 t5 t6 t7 t8 t9 t10 : Sv) (h7 : Fr t7) (hb : Bg n xs) (hn : n ≤ 1000000) :
    ∃ (a b c d : Int) (ys : List PyData), s_law_3 fa [sc, .own xs, t2, t3, t4, t5, t6, t7, t8, t9, t10, T] = .nx [sc, .own ys, t2, .d (p2 a b), .d (p2 c d), t5, t6, t7, t8, t9, t10, T] ∧ Bg (n + 4) ys ∧ a.natAbs ≤ 30 ∧ b.natAbs ≤ 30 ∧ c.natAbs ≤ 30 ∧ d.natAbs ≤ 30 := by
  obtain ⟨v1, y1, e1, p1, q1, b1⟩ := m_take (fa := fa) (many := 61) hb (by decide) (by decide) (by omega)
  obtain ⟨v2, y2, e2, p2, q2, b2⟩ := m_take (fa := fa) (many := 61) b1 (by decide) (by decide) (by omega)
  obtain ⟨v3, y3, e3, p3, q3, b3⟩ := m_take (fa := fa) (many := 61) b2 (by decide) (by decide) (by omega)
  obtain ⟨v4, y4, e4, p4, q4, b4⟩ := m_take (fa := fa) (many := 61) b3 (by decide) (by decide) (by omega)
  refine ⟨v1 - 30, v2 - 30, v3 - 30, v4 - 30, y4, ?_, b4, by omega, by omega, by omega, by omega⟩
  have r2 : ∀ ss, iRng (lCons (eC (.int 2)) lNil) ss = .ok [.int 0, .int 1] ss := fun ss => rfl
  have l0 : (0 : Nat) < sizeLine := by decide
  have l1 : (1 : Nat) < sizeLine := by decide
  have l2 : (2 : Nat) ≤ sizeLine := by decide
  have h7 : keepD (some t7) = t7 := h7
  unfold s_law_3
  simp only [sAsg_ap, eL_ap, nComp_ap, r2, bind_ok, compR, wipeA, gN, List.set_cons_zero, List.set_cons_succ, eTup_ap, lCons_ap, lNil_ap, eOp_ap, eCall_ap, aLk_ap, aDt_ap, aNil_ap, eC_ap, hasS, List.getElem?_cons_zero, List.getElem?_cons_succ, if_true, lks, List.length_cons, List.length_nil, Nat.zero_add, Nat.reduceAdd, List.nodup_cons, List.not_mem_nil, List.nodup_nil, not_false_eq_true, and_self, true_and, List.map_cons, List.map_nil, agSv, List.getD_cons_succ, List.getD_cons_zero, e1, e2, e3, e4, wb, chg, isO, pySub_i, lift_some, l0, l1, l2, rstA, h7, List.nil_append, List.cons_append, fl_ok, gS, gsC, gsN, Option.bind_some]
theorem s4 {n : Nat} {xs : List PyData} (sc T t2 t5 t6 t7 t8 t9 t10 : Sv) (a b c d : Int) (hb : Bg n xs) (hn : n ≤ 1000000) (ha : a.natAbs ≤ 30) (hb' : b.natAbs ≤ 30) (hc : c.natAbs ≤ 30) (hd : d.natAbs ≤ 30) :
    ∃ (c' d' : Int) (ys : List PyData), s_law_4 fa [sc, .own xs, t2, .d (p2 a b), .d (p2 c d), t5, t6, t7, t8, t9, t10, T] = .nx [sc, .own ys, t2, .d (p2 a b), .d (p2 c' d'), t5, t6, t7, t8, t9, t10, T] ∧ Bg (n + 1) ys ∧ c'.natAbs ≤ 31 ∧ d'.natAbs ≤ 31 := by
  obtain ⟨y, ys, hy, e, b1⟩ := m_some (fa := fa) (things := [p2 c d, p2 a b, p2 a d, p2 (a + 1) (b - 1)]) hb (by omega) (by show 1 ≤ 4; decide) (by show 4 ≤ 1000; decide)
  have l2 : (2 : Nat) ≤ sizeLine := by decide
  have l4 : (4 : Nat) ≤ sizeLine := by decide
  have fin : ∀ c' d' : Int, y = p2 c' d' → s_law_4 fa [sc, .own xs, t2, .d (p2 a b), .d (p2 c d), t5, t6, t7, t8, t9, t10, T] = .nx [sc, .own ys, t2, .d (p2 a b), .d (p2 c' d'), t5, t6, t7, t8, t9, t10, T] := fun c' d' ey => by
    subst ey
    unfold s_law_4
    simp only [eC_ap, eV_ap, eOp_ap, eUn_ap, bB_ap, bAnd_ap, bOr_ap, bNot_ap, eAnd_ap, eOr_ap, eNot_ap, eIf_ap, eIsN_ap, lNil_ap, lCons_ap, eTup_ap, nLst_ap, eL_ap, nCat_ap, qR_ap, qN_ap, qV_ap, eLenQ_ap, eCB_ap, eTupleQ_ap, nListQ_ap, eIsi_ap, oNo_ap, oSome_ap, eSl_ap, nSl_ap, eIdxV_ap, iR_ap, iZp_ap, iZp3_ap, iEnA_ap, nComp_ap, sNext_ap, sSeq_ap, sIf_ap, sRet_ap, sDrop_ap, sAsg_ap, sSetN_ap, sRaise_ap, sFor_ap, aNil_ap, aDt_ap, aLk_ap, aFn_ap, eCall_ap, eCallN_ap, fb_nx, fb_rt, fb_ex, bind_ok, bind_ex, bind_no, fl_ok, fl_ex, fl_no, lift_some, lift_none, pySub_i, pyAdd_i, pyMax_i, pyAbs_i, pyLe_i, pyLt_i, pyGt_i, pyGe_i, pyEq_i, pyNe_i, py1, py2, asB, hasV, hasS, idxS, agSv, lks, gN, gT, gsC, gsN, wipeA, rstA, keepD, isFn, List.getElem?_cons_zero, List.getElem?_cons_succ, List.set_cons_zero, List.set_cons_succ, List.length_cons, List.length_nil, List.map_cons, List.map_nil, List.getD_cons_zero, List.getD_cons_succ, List.take_succ_cons, List.take_zero, List.take_nil, List.drop_succ_cons, List.drop_zero, List.drop_nil, List.append_nil, List.nil_append, List.cons_append, Option.bind_some, Option.map_some, Nat.zero_add, Nat.reduceAdd, Nat.reduceSub, Nat.reduceLeDiff, Nat.reduceEqDiff, if_true, if_false, Bool.not_true, Bool.not_false, Bool.true_and, Bool.false_and, Bool.and_true, decide_true, decide_false, List.all_nil, List.all_cons, and_self, and_true, true_and, ite_true, ite_false, reduceIte, List.replicate_zero, List.reduceReplicate, List.nodup_cons, List.nodup_nil, List.mem_cons, List.not_mem_nil, List.mem_singleton, or_false, or_self, not_false_eq_true, not_true_eq_false, wb, chg, isO, Bool.false_eq_true, Nat.reduceEqDiff, Nat.one_ne_zero, idx0, idx1, idx2, idx3, ix4_0, ix4_1, sPut_ap, pyIdx_l, pyIdx_t, Bool.or_false, Bool.or_true, Bool.true_or, Bool.false_or, beq_self_eq_true, l2, l4, e]
  simp only [List.mem_cons, List.not_mem_nil, or_false] at hy
  rcases hy with h | h | h | h
  · exact ⟨_, _, ys, fin _ _ h, b1, by omega, by omega⟩
  · exact ⟨_, _, ys, fin _ _ h, b1, by omega, by omega⟩
  · exact ⟨_, _, ys, fin _ _ h, b1, by omega, by omega⟩
  · exact ⟨_, _, ys, fin _ _ h, b1, by omega, by omega⟩
end K_k33

namespace K_k33
open PySem L2 Evl RZ PyProof.Rows AX
variable {fa : Str → Addr}
section
variable {a b c d : Int} (ha : a.natAbs ≤ 31) (hb : b.natAbs ≤ 31) (hc : c.natAbs ≤ 31) (hd : d.natAbs ≤ 31)
theorem len_62 (ha : a.natAbs ≤ 31) (hb : b.natAbs ≤ 31) (hc : c.natAbs ≤ 31) (hd : d.natAbs ≤ 31) : (lenI a b c d).natAbs ≤ 62 := by unfold lenI; omega
theorem sml_p2 {x y : Int} (h1 : x.natAbs < 10 ^ 12) (h2 : y.natAbs < 10 ^ 12) : Sml 1 82 (p2 x y) := by
  refine (sml_tuple (n := 0) (w := 40) fun z hz => ?_).mono (Nat.le_refl _) (by show 41 * 2 ≤ 82; decide)
  rcases List.mem_cons.mp hz with e | e
  · subst e; exact sml_int h1
  · rw [List.mem_singleton] at e; subst e; exact sml_int h2
theorem due_stp (q : Int × Int) (h : q ∈ dueL a b c d) : stp q.1 q.2 = true := by
  obtain ⟨k, hk, e⟩ := List.mem_map.mp h
  subst e
  have := List.mem_range.mp hk
  exact stp_due a b c d k (by omega)
theorem dueL_len : (dueL a b c d).length = (lenI a b c d).toNat := by unfold dueL; rw [List.length_map, List.length_range]
include ha hb hc hd
theorem sml_due1 (x : PyData) (h : x ∈ due a b c d) : Sml 1 82 x := by
  rw [due_pp] at h
  obtain ⟨q, hq, e⟩ := List.mem_map.mp h
  subst e
  have := stp_small (due_stp q hq)
  exact sml_p2 (by omega) (by omega)
theorem sml_due : Sml 2 6000 (.tuple (due a b c d)) := by
  refine (sml_tuple (sml_due1 ha hb hc hd)).mono (Nat.le_refl _) ?_
  have := len_62 ha hb hc hd
  rw [due_len]
  omega
theorem sml_sums : Sml 2 6000 (.tuple ((sums (a, b) (dueL a b c d)).map pp)) := by
  have l := len_62 ha hb hc hd
  refine (sml_tuple (n := 1) (w := 82) fun x hx => ?_).mono (Nat.le_refl _) ?_
  · obtain ⟨q, hq, e⟩ := List.mem_map.mp hx
    subst e
    have := sums_small (dueL a b c d) (a, b) 31 (fun q hq => due_stp q hq) ha hb q hq
    rw [dueL_len] at this
    exact sml_p2 (by omega) (by omega)
  · rw [List.length_map, sums_len, dueL_len]
    omega
theorem s5 (sc T t1 t2 t5 t6 t7 t8 t9 t10 : Sv) : s_law_5 fa [sc, t1, t2, .d (p2 a b), .d (p2 c d), t5, t6, t7, t8, t9, t10, T] = .nx [sc, t1, t2, .d (p2 a b), .d (p2 c d), .d (.tuple (due a b c d)), t6, t7, t8, t9, t10, T] := by
  have e := m_law_line (fa := fa) (a := a) (b := b) (c := c) (d := d) (by unfold sm; omega) (by unfold sm; omega) (by unfold sm; omega) (by unfold sm; omega) (Nat.le_trans (len_62 ha hb hc hd) (by decide))
  unfold s_law_5
  simp only [eC_ap, eV_ap, eOp_ap, eUn_ap, bB_ap, bAnd_ap, bOr_ap, bNot_ap, eAnd_ap, eOr_ap, eNot_ap, eIf_ap, eIsN_ap, lNil_ap, lCons_ap, eTup_ap, nLst_ap, eL_ap, nCat_ap, qR_ap, qN_ap, qV_ap, eLenQ_ap, eCB_ap, eTupleQ_ap, nListQ_ap, eIsi_ap, oNo_ap, oSome_ap, eSl_ap, nSl_ap, eIdxV_ap, iR_ap, iZp_ap, iZp3_ap, iEnA_ap, nComp_ap, sNext_ap, sSeq_ap, sIf_ap, sRet_ap, sDrop_ap, sAsg_ap, sSetN_ap, sRaise_ap, sFor_ap, aNil_ap, aDt_ap, aLk_ap, aFn_ap, eCall_ap, eCallN_ap, fb_nx, fb_rt, fb_ex, bind_ok, bind_ex, bind_no, fl_ok, fl_ex, fl_no, lift_some, lift_none, pySub_i, pyAdd_i, pyMax_i, pyAbs_i, pyLe_i, pyLt_i, pyGt_i, pyGe_i, pyEq_i, pyNe_i, py1, py2, asB, hasV, hasS, idxS, agSv, lks, gN, gT, gsC, gsN, wipeA, rstA, keepD, isFn, List.getElem?_cons_zero, List.getElem?_cons_succ, List.set_cons_zero, List.set_cons_succ, List.length_cons, List.length_nil, List.map_cons, List.map_nil, List.getD_cons_zero, List.getD_cons_succ, List.take_succ_cons, List.take_zero, List.take_nil, List.drop_succ_cons, List.drop_zero, List.drop_nil, List.append_nil, List.nil_append, List.cons_append, Option.bind_some, Option.map_some, Nat.zero_add, Nat.reduceAdd, Nat.reduceSub, Nat.reduceLeDiff, Nat.reduceEqDiff, if_true, if_false, Bool.not_true, Bool.not_false, Bool.true_and, Bool.false_and, Bool.and_true, decide_true, decide_false, List.all_nil, List.all_cons, and_self, and_true, true_and, ite_true, ite_false, reduceIte, List.replicate_zero, List.reduceReplicate, List.nodup_cons, List.nodup_nil, List.mem_cons, List.not_mem_nil, List.mem_singleton, or_false, or_self, not_false_eq_true, not_true_eq_false, wb, chg, isO, Bool.false_eq_true, Nat.reduceEqDiff, Nat.one_ne_zero, idx0, idx1, idx2, idx3, ix4_0, ix4_1, sPut_ap, pyIdx_l, pyIdx_t, Bool.or_false, Bool.or_true, Bool.true_or, Bool.false_or, beq_self_eq_true, e]
theorem s6 (sc T t1 t2 t5 t6 t7 t8 t9 t10 : Sv) : s_law_6 fa [sc, t1, t2, .d (p2 a b), .d (p2 c d), t5, t6, t7, t8, t9, t10, T] = .nx [sc, t1, t2, .d (p2 a b), .d (p2 c d), t5, .d (.tuple (due a b c d)), t7, t8, t9, t10, T] := by
  have e := m_line_steps (fa := fa) (a := a) (b := b) (c := c) (d := d) (by unfold sm; omega) (by unfold sm; omega) (by unfold sm; omega) (by unfold sm; omega) (Nat.le_trans (len_62 ha hb hc hd) (by decide))
  unfold s_law_6
  simp only [eC_ap, eV_ap, eOp_ap, eUn_ap, bB_ap, bAnd_ap, bOr_ap, bNot_ap, eAnd_ap, eOr_ap, eNot_ap, eIf_ap, eIsN_ap, lNil_ap, lCons_ap, eTup_ap, nLst_ap, eL_ap, nCat_ap, qR_ap, qN_ap, qV_ap, eLenQ_ap, eCB_ap, eTupleQ_ap, nListQ_ap, eIsi_ap, oNo_ap, oSome_ap, eSl_ap, nSl_ap, eIdxV_ap, iR_ap, iZp_ap, iZp3_ap, iEnA_ap, nComp_ap, sNext_ap, sSeq_ap, sIf_ap, sRet_ap, sDrop_ap, sAsg_ap, sSetN_ap, sRaise_ap, sFor_ap, aNil_ap, aDt_ap, aLk_ap, aFn_ap, eCall_ap, eCallN_ap, fb_nx, fb_rt, fb_ex, bind_ok, bind_ex, bind_no, fl_ok, fl_ex, fl_no, lift_some, lift_none, pySub_i, pyAdd_i, pyMax_i, pyAbs_i, pyLe_i, pyLt_i, pyGt_i, pyGe_i, pyEq_i, pyNe_i, py1, py2, asB, hasV, hasS, idxS, agSv, lks, gN, gT, gsC, gsN, wipeA, rstA, keepD, isFn, List.getElem?_cons_zero, List.getElem?_cons_succ, List.set_cons_zero, List.set_cons_succ, List.length_cons, List.length_nil, List.map_cons, List.map_nil, List.getD_cons_zero, List.getD_cons_succ, List.take_succ_cons, List.take_zero, List.take_nil, List.drop_succ_cons, List.drop_zero, List.drop_nil, List.append_nil, List.nil_append, List.cons_append, Option.bind_some, Option.map_some, Nat.zero_add, Nat.reduceAdd, Nat.reduceSub, Nat.reduceLeDiff, Nat.reduceEqDiff, if_true, if_false, Bool.not_true, Bool.not_false, Bool.true_and, Bool.false_and, Bool.and_true, decide_true, decide_false, List.all_nil, List.all_cons, and_self, and_true, true_and, ite_true, ite_false, reduceIte, List.replicate_zero, List.reduceReplicate, List.nodup_cons, List.nodup_nil, List.mem_cons, List.not_mem_nil, List.mem_singleton, or_false, or_self, not_false_eq_true, not_true_eq_false, wb, chg, isO, Bool.false_eq_true, Nat.reduceEqDiff, Nat.one_ne_zero, idx0, idx1, idx2, idx3, ix4_0, ix4_1, sPut_ap, pyIdx_l, pyIdx_t, Bool.or_false, Bool.or_true, Bool.true_or, Bool.false_or, beq_self_eq_true, e]
theorem s7 (sc T t1 t2 t7 t8 t9 t10 : Sv) : s_law_7 fa [sc, t1, t2, .d (p2 a b), .d (p2 c d), .d (.tuple (due a b c d)), .d (.tuple (due a b c d)), t7, t8, t9, t10, T] = .nx [sc, t1, t2, .d (p2 a b), .d (p2 c d), .d (.tuple (due a b c d)), .d (.tuple (due a b c d)), t7, t8, t9, t10, T] := by
  have hk := len_62 ha hb hc hd
  have dl := due_len a b c d
  have e1 := m_is_line (fa := fa) (a := a) (b := b) (c := c) (d := d) (by unfold sm; omega) (by unfold sm; omega) (by unfold sm; omega) (by unfold sm; omega) (Nat.le_trans hk (by decide)) (.tuple (due a b c d)) (fun xs e => by cases e; omega)
  rw [fitsD_due] at e1
  have e2 := m_law_fits (fa := fa) (a := a) (b := b) (c := c) (d := d) (by unfold sm; omega) (by unfold sm; omega) (by unfold sm; omega) (by unfold sm; omega) (Nat.le_trans hk (by decide)) (.tuple (due a b c d)) (fun xs e => by
    cases e
    exact ⟨by omega, fun y hy => okD_mono (sml_due1 ha hb hc hd y hy).ok (by decide)⟩)
  rw [fitsD_due] at e2
  have e3 : m_f_spots fa [.d (p2 a b), .d (.tuple (due a b c d))] = .ok (.tuple ((sums (a, b) (dueL a b c d)).map pp)) [.d (p2 a b), .d (.tuple (due a b c d))] := by
    have := m_spots (fa := fa) (a, b) (dueL a b c d) (by rw [dueL_len]; omega)
    rw [← due_pp] at this
    exact this
  have e4 : m_f_law_spots fa [.d (p2 a b), .d (.tuple (due a b c d))] = .ok (.list ((sums (a, b) (dueL a b c d)).map pp)) [.d (p2 a b), .d (.tuple (due a b c d))] := by
    have := m_law_spots (fa := fa) (a, b) (dueL a b c d) (by rw [dueL_len]; omega)
    rw [← due_pp] at this
    exact this
  have e5 := m_steps (fa := fa) (.tuple (due a b c d)) (fun xs e => by cases e; rw [dl]; exact Nat.le_trans (show _ ≤ 62 by omega) (by decide))
  rw [steps_due] at e5
  have sm4 : Sml 3 24004 (.list [.tuple (due a b c d), .bool true, .tuple ((sums (a, b) (dueL a b c d)).map pp), .bool true]) := by
    refine (sml_list (n := 2) (w := 6000) fun x hx => ?_).mono (Nat.le_refl _) (by show 6001 * 4 ≤ _; decide)
    simp only [List.mem_cons, List.not_mem_nil, or_false] at hx
    rcases hx with h | h | h | h <;> subst h
    · exact sml_due ha hb hc hd
    · exact (sml_bool true).mono (by decide) (by decide)
    · exact sml_sums ha hb hc hd
    · exact (sml_bool true).mono (by decide) (by decide)
  have e6 := m_alike (fa := fa) sm4 (by decide) (by decide)
  have so : ∀ xs : List PyData, seqOf (.list xs) = some (true, xs) := fun _ => rfl
  have l4 : (4 : Nat) ≤ sizeLine := by decide
  unfold s_law_7
  simp only [eC_ap, eV_ap, eOp_ap, eUn_ap, bB_ap, bAnd_ap, bOr_ap, bNot_ap, eAnd_ap, eOr_ap, eNot_ap, eIf_ap, eIsN_ap, lNil_ap, lCons_ap, eTup_ap, nLst_ap, eL_ap, nCat_ap, qR_ap, qN_ap, qV_ap, eLenQ_ap, eCB_ap, eTupleQ_ap, nListQ_ap, eIsi_ap, oNo_ap, oSome_ap, eSl_ap, nSl_ap, eIdxV_ap, iR_ap, iZp_ap, iZp3_ap, iEnA_ap, nComp_ap, sNext_ap, sSeq_ap, sIf_ap, sRet_ap, sDrop_ap, sAsg_ap, sSetN_ap, sRaise_ap, sFor_ap, aNil_ap, aDt_ap, aLk_ap, aFn_ap, eCall_ap, eCallN_ap, fb_nx, fb_rt, fb_ex, bind_ok, bind_ex, bind_no, fl_ok, fl_ex, fl_no, lift_some, lift_none, pySub_i, pyAdd_i, pyMax_i, pyAbs_i, pyLe_i, pyLt_i, pyGt_i, pyGe_i, pyEq_i, pyNe_i, py1, py2, asB, hasV, hasS, idxS, agSv, lks, gN, gT, gsC, gsN, wipeA, rstA, keepD, isFn, List.getElem?_cons_zero, List.getElem?_cons_succ, List.set_cons_zero, List.set_cons_succ, List.length_cons, List.length_nil, List.map_cons, List.map_nil, List.getD_cons_zero, List.getD_cons_succ, List.take_succ_cons, List.take_zero, List.take_nil, List.drop_succ_cons, List.drop_zero, List.drop_nil, List.append_nil, List.nil_append, List.cons_append, Option.bind_some, Option.map_some, Nat.zero_add, Nat.reduceAdd, Nat.reduceSub, Nat.reduceLeDiff, Nat.reduceEqDiff, if_true, if_false, Bool.not_true, Bool.not_false, Bool.true_and, Bool.false_and, Bool.and_true, decide_true, decide_false, List.all_nil, List.all_cons, and_self, and_true, true_and, ite_true, ite_false, reduceIte, List.replicate_zero, List.reduceReplicate, List.nodup_cons, List.nodup_nil, List.mem_cons, List.not_mem_nil, List.mem_singleton, or_false, or_self, not_false_eq_true, not_true_eq_false, wb, chg, isO, Bool.false_eq_true, Nat.reduceEqDiff, Nat.one_ne_zero, idx0, idx1, idx2, idx3, ix4_0, ix4_1, sPut_ap, pyIdx_l, pyIdx_t, Bool.or_false, Bool.or_true, Bool.true_or, Bool.false_or, beq_self_eq_true, e1, e2, e3, e4, e5, e6, so, l4]
end
end K_k33

namespace K_k33
open PySem L2 Evl RZ PyProof.Rows AX
variable {fa : Str → Addr}
/-- a row of places that can be looked at -/
structure Row (D : List PyData) : Prop where
  len : D.length ≤ 62
  ok : ∀ y ∈ D, okD 60 y
def Th (x : PyData) : Prop := ∀ xs, x = .tuple xs → xs.length ≤ 1000 ∧ ∀ y ∈ xs, okD 60 y
theorem th_other {x : PyData} (h : ∀ xs, x ≠ .tuple xs) : Th x := fun xs e => (h xs e).elim
theorem th_tuple {xs : List PyData} (h1 : xs.length ≤ 1000) (h2 : ∀ y ∈ xs, okD 60 y) : Th (.tuple xs) := fun _ e => by cases e; exact ⟨h1, h2⟩
theorem Row.cut {D : List PyData} (h : Row D) (lo hi : Option Int) : Row (AX.cutD D lo hi) := by
  refine ⟨?_, fun y hy => ?_⟩
  · unfold AX.cutD
    rw [List.length_take, List.length_drop]
    have := h.len
    omega
  · unfold AX.cutD at hy
    exact h.ok y (List.mem_of_mem_drop (List.mem_of_mem_take hy))
theorem ok_app {u v : List PyData} (h1 : ∀ y ∈ u, okD 60 y) (h2 : ∀ y ∈ v, okD 60 y) : ∀ y ∈ u ++ v, okD 60 y := fun y hy => (List.mem_append.mp hy).elim (h1 y) (h2 y)
theorem ok_one {z : PyData} (h : okD 60 z) : ∀ y ∈ [z], okD 60 y := fun y hy => by rw [List.mem_singleton] at hy; subst hy; exact h
theorem th_mid {u v : List PyData} {z : PyData} (hu : Row u) (hv : Row v) (hz : okD 60 z) : Th (.tuple (u ++ [z] ++ v)) := by
  refine th_tuple ?_ (ok_app (ok_app hu.ok (ok_one hz)) hv.ok)
  have := hu.len
  have := hv.len
  simp only [List.length_append, List.length_singleton]
  omega
theorem add_t {xs ys : List PyData} (h : xs.length + ys.length ≤ 1000) : pyAdd (.tuple xs) (.tuple ys) = some (.tuple (xs ++ ys)) := by
  show (if _ then _ else _) = _
  rw [if_pos (Nat.le_trans h (by decide))]
theorem bg_mono {n m : Nat} {xs : List PyData} (h : Bg n xs) (l : n ≤ m) : Bg m xs := by
  obtain ⟨z, s, i, cs, e, a1, a2, a3, a4, a5, a6⟩ := h
  exact ⟨z, s, i, cs, e, a1, a2, a3, a4, by omega, a6⟩
theorem s9 {n : Nat} {xs : List PyData} {D : List PyData} (sc T t2 t3 t4 t6 t7 t8 t9 t10 : Sv) (hb : Bg n xs) (hn : n ≤ 1000000) (hD : Row D) :
    ∃ (k : Int) (ys : List PyData), s_law_9 fa [sc, .own xs, t2, t3, t4, .d (.tuple D), t6, t7, t8, t9, t10, T] = .nx [sc, .own ys, t2, t3, t4, .d (.tuple D), t6, .d (.int k), t8, t9, t10, T] ∧ Bg (n + 1) ys := by
  have pl : pyLen (.tuple D) = some (.int D.length) := rfl
  have ne : pyNe (.tuple D) (.tuple []) = some (.bool (!D.isEmpty)) := by
    rw [pyNe_ok (okD_tuple hD.ok) (okD_tuple (n := 0) fun y hy => absurd hy List.not_mem_nil) (by decide) (by decide)]
    cases D <;> rfl
  have l0 : (0 : Nat) ≤ sizeLine := by decide
  cases e : D.isEmpty with
  | true =>
    refine ⟨0, xs, ?_, bg_mono hb (Nat.le_succ _)⟩
    unfold s_law_9
    simp only [eC_ap, eV_ap, eOp_ap, eUn_ap, bB_ap, bAnd_ap, bOr_ap, bNot_ap, eAnd_ap, eOr_ap, eNot_ap, eIf_ap, eIsN_ap, lNil_ap, lCons_ap, eTup_ap, nLst_ap, eL_ap, nCat_ap, qR_ap, qN_ap, qV_ap, eLenQ_ap, eCB_ap, eTupleQ_ap, nListQ_ap, eIsi_ap, oNo_ap, oSome_ap, eSl_ap, nSl_ap, eIdxV_ap, iR_ap, iZp_ap, iZp3_ap, iEnA_ap, nComp_ap, sNext_ap, sSeq_ap, sIf_ap, sRet_ap, sDrop_ap, sAsg_ap, sSetN_ap, sRaise_ap, sFor_ap, aNil_ap, aDt_ap, aLk_ap, aFn_ap, eCall_ap, eCallN_ap, fb_nx, fb_rt, fb_ex, bind_ok, bind_ex, bind_no, fl_ok, fl_ex, fl_no, lift_some, lift_none, pySub_i, pyAdd_i, pyMax_i, pyAbs_i, pyLe_i, pyLt_i, pyGt_i, pyGe_i, pyEq_i, pyNe_i, py1, py2, asB, hasV, hasS, idxS, agSv, lks, gN, gT, gsC, gsN, wipeA, rstA, keepD, isFn, List.getElem?_cons_zero, List.getElem?_cons_succ, List.set_cons_zero, List.set_cons_succ, List.length_cons, List.length_nil, List.map_cons, List.map_nil, List.getD_cons_zero, List.getD_cons_succ, List.take_succ_cons, List.take_zero, List.take_nil, List.drop_succ_cons, List.drop_zero, List.drop_nil, List.append_nil, List.nil_append, List.cons_append, Option.bind_some, Option.map_some, Nat.zero_add, Nat.reduceAdd, Nat.reduceSub, Nat.reduceLeDiff, Nat.reduceEqDiff, if_true, if_false, Bool.not_true, Bool.not_false, Bool.true_and, Bool.false_and, Bool.and_true, decide_true, decide_false, List.all_nil, List.all_cons, and_self, and_true, true_and, ite_true, ite_false, reduceIte, List.replicate_zero, List.reduceReplicate, List.nodup_cons, List.nodup_nil, List.mem_cons, List.not_mem_nil, List.mem_singleton, or_false, or_self, not_false_eq_true, not_true_eq_false, wb, chg, isO, Bool.false_eq_true, Nat.reduceEqDiff, Nat.one_ne_zero, idx0, idx1, idx2, idx3, ix4_0, ix4_1, sPut_ap, pyIdx_l, pyIdx_t, Bool.or_false, Bool.or_true, Bool.true_or, Bool.false_or, beq_self_eq_true, l0, ne, e]
  | false =>
    have hl : 0 < D.length := by
      cases D with
      | nil => cases e
      | cons y r => exact Nat.succ_pos _
    have := hD.len
    obtain ⟨v, ys, e1, v0, v1, b1⟩ := m_take (fa := fa) (many := D.length) hb (by omega) (by omega) (by omega)
    refine ⟨v, ys, ?_, b1⟩
    unfold s_law_9
    simp only [eC_ap, eV_ap, eOp_ap, eUn_ap, bB_ap, bAnd_ap, bOr_ap, bNot_ap, eAnd_ap, eOr_ap, eNot_ap, eIf_ap, eIsN_ap, lNil_ap, lCons_ap, eTup_ap, nLst_ap, eL_ap, nCat_ap, qR_ap, qN_ap, qV_ap, eLenQ_ap, eCB_ap, eTupleQ_ap, nListQ_ap, eIsi_ap, oNo_ap, oSome_ap, eSl_ap, nSl_ap, eIdxV_ap, iR_ap, iZp_ap, iZp3_ap, iEnA_ap, nComp_ap, sNext_ap, sSeq_ap, sIf_ap, sRet_ap, sDrop_ap, sAsg_ap, sSetN_ap, sRaise_ap, sFor_ap, aNil_ap, aDt_ap, aLk_ap, aFn_ap, eCall_ap, eCallN_ap, fb_nx, fb_rt, fb_ex, bind_ok, bind_ex, bind_no, fl_ok, fl_ex, fl_no, lift_some, lift_none, pySub_i, pyAdd_i, pyMax_i, pyAbs_i, pyLe_i, pyLt_i, pyGt_i, pyGe_i, pyEq_i, pyNe_i, py1, py2, asB, hasV, hasS, idxS, agSv, lks, gN, gT, gsC, gsN, wipeA, rstA, keepD, isFn, List.getElem?_cons_zero, List.getElem?_cons_succ, List.set_cons_zero, List.set_cons_succ, List.length_cons, List.length_nil, List.map_cons, List.map_nil, List.getD_cons_zero, List.getD_cons_succ, List.take_succ_cons, List.take_zero, List.take_nil, List.drop_succ_cons, List.drop_zero, List.drop_nil, List.append_nil, List.nil_append, List.cons_append, Option.bind_some, Option.map_some, Nat.zero_add, Nat.reduceAdd, Nat.reduceSub, Nat.reduceLeDiff, Nat.reduceEqDiff, if_true, if_false, Bool.not_true, Bool.not_false, Bool.true_and, Bool.false_and, Bool.and_true, decide_true, decide_false, List.all_nil, List.all_cons, and_self, and_true, true_and, ite_true, ite_false, reduceIte, List.replicate_zero, List.reduceReplicate, List.nodup_cons, List.nodup_nil, List.mem_cons, List.not_mem_nil, List.mem_singleton, or_false, or_self, not_false_eq_true, not_true_eq_false, wb, chg, isO, Bool.false_eq_true, Nat.reduceEqDiff, Nat.one_ne_zero, idx0, idx1, idx2, idx3, ix4_0, ix4_1, sPut_ap, pyIdx_l, pyIdx_t, Bool.or_false, Bool.or_true, Bool.true_or, Bool.false_or, beq_self_eq_true, l0, ne, e, pl, e1]
theorem okp (x y : Int) : okD 60 (p2 x y) := okD_mono (n := 1) (okD_tuple fun z hz => by
  rcases List.mem_cons.mp hz with e | e
  · subst e; exact okD_int _ _
  · rw [List.mem_singleton] at e; subst e; exact okD_int _ _) (by decide)
theorem s10 {D : List PyData} {k : Int} (t0 t1 t2 t3 t4 t6 t8 t9 t10 T : Sv) (hD : Row D) : ∃ ts, s_law_10 fa [t0, t1, t2, t3, t4, .d (.tuple D), t6, .d (.int k), t8, t9, t10, T] = .nx [t0, t1, t2, t3, t4, .d (.tuple D), t6, .d (.int k), .own ts, t9, t10, T] ∧ (∀ x ∈ ts, Th x) ∧ ts.length = 8 := by
  have so : seqOf (.tuple D) = some (false, D) := rfl
  have sl : ∀ lo hi, pySl (.tuple D) lo hi = some (.tuple (AX.cutD D lo hi)) := fun _ _ => rfl
  have rv : pyRev (.tuple D) = some (.tuple D.reverse) := rfl
  have h1 := hD.cut none (some k)
  have h2 := hD.cut (some (k + 1)) none
  have h3 := hD.cut (some 1) none
  have g1 := h1.len
  have g2 := h2.len
  have g3 := hD.len
  have a1 : ∀ z : PyData, pyAdd (.tuple D) (.tuple [z]) = some (.tuple (D ++ [z])) := fun z => add_t (by rw [List.length_singleton]; omega)
  have a2 : ∀ z : PyData, pyAdd (.tuple (AX.cutD D none (some k))) (.tuple [z]) = some (.tuple (AX.cutD D none (some k) ++ [z])) := fun z => add_t (by rw [List.length_singleton]; omega)
  have a3 : ∀ z : PyData, pyAdd (.tuple (AX.cutD D none (some k) ++ [z])) (.tuple (AX.cutD D (some (k + 1)) none)) = some (.tuple (AX.cutD D none (some k) ++ [z] ++ AX.cutD D (some (k + 1)) none)) := fun z => add_t (by rw [List.length_append, List.length_singleton]; omega)
  have l0 : (0 : Nat) ≤ sizeLine := by decide
  have l1 : (1 : Nat) ≤ sizeLine := by decide
  have l2 : (2 : Nat) ≤ sizeLine := by decide
  have l8 : (8 : Nat) ≤ sizeLine := by decide
  refine ⟨[.none, .tuple [], .list D, .tuple (AX.cutD D (some 1) none), .tuple D.reverse, .tuple (D ++ [p2 1 0]), .tuple (AX.cutD D none (some k) ++ [p2 0 0] ++ AX.cutD D (some (k + 1)) none), .tuple (AX.cutD D none (some k) ++ [p2 2 0] ++ AX.cutD D (some (k + 1)) none)], ?_, fun x hx => ?_, rfl⟩
  · unfold s_law_10
    simp only [eC_ap, eV_ap, eOp_ap, eUn_ap, bB_ap, bAnd_ap, bOr_ap, bNot_ap, eAnd_ap, eOr_ap, eNot_ap, eIf_ap, eIsN_ap, lNil_ap, lCons_ap, eTup_ap, nLst_ap, eL_ap, nCat_ap, qR_ap, qN_ap, qV_ap, eLenQ_ap, eCB_ap, eTupleQ_ap, nListQ_ap, eIsi_ap, oNo_ap, oSome_ap, eSl_ap, nSl_ap, eIdxV_ap, iR_ap, iZp_ap, iZp3_ap, iEnA_ap, nComp_ap, sNext_ap, sSeq_ap, sIf_ap, sRet_ap, sDrop_ap, sAsg_ap, sSetN_ap, sRaise_ap, sFor_ap, aNil_ap, aDt_ap, aLk_ap, aFn_ap, eCall_ap, eCallN_ap, fb_nx, fb_rt, fb_ex, bind_ok, bind_ex, bind_no, fl_ok, fl_ex, fl_no, lift_some, lift_none, pySub_i, pyAdd_i, pyMax_i, pyAbs_i, pyLe_i, pyLt_i, pyGt_i, pyGe_i, pyEq_i, pyNe_i, py1, py2, asB, hasV, hasS, idxS, agSv, lks, gN, gT, gsC, gsN, wipeA, rstA, keepD, isFn, List.getElem?_cons_zero, List.getElem?_cons_succ, List.set_cons_zero, List.set_cons_succ, List.length_cons, List.length_nil, List.map_cons, List.map_nil, List.getD_cons_zero, List.getD_cons_succ, List.take_succ_cons, List.take_zero, List.take_nil, List.drop_succ_cons, List.drop_zero, List.drop_nil, List.append_nil, List.nil_append, List.cons_append, Option.bind_some, Option.map_some, Nat.zero_add, Nat.reduceAdd, Nat.reduceSub, Nat.reduceLeDiff, Nat.reduceEqDiff, if_true, if_false, Bool.not_true, Bool.not_false, Bool.true_and, Bool.false_and, Bool.and_true, decide_true, decide_false, List.all_nil, List.all_cons, and_self, and_true, true_and, ite_true, ite_false, reduceIte, List.replicate_zero, List.reduceReplicate, List.nodup_cons, List.nodup_nil, List.mem_cons, List.not_mem_nil, List.mem_singleton, or_false, or_self, not_false_eq_true, not_true_eq_false, wb, chg, isO, Bool.false_eq_true, Nat.reduceEqDiff, Nat.one_ne_zero, idx0, idx1, idx2, idx3, ix4_0, ix4_1, sPut_ap, pyIdx_l, pyIdx_t, Bool.or_false, Bool.or_true, Bool.true_or, Bool.false_or, beq_self_eq_true, so, sl, rv, eUn_ap, a1, a2, a3, l0, l1, l2, l8]
  · simp only [List.mem_cons, List.not_mem_nil, or_false] at hx
    rcases hx with h | h | h | h | h | h | h | h <;> subst h
    · exact th_other fun xs e => nomatch e
    · exact th_tuple (by decide) fun y hy => absurd hy List.not_mem_nil
    · exact th_other fun xs e => nomatch e
    · exact th_tuple (Nat.le_trans h3.len (by decide)) h3.ok
    · exact th_tuple (by rw [List.length_reverse]; omega) fun y hy => hD.ok y (List.mem_reverse.mp hy)
    · exact th_tuple (by rw [List.length_append, List.length_singleton]; omega) (ok_app hD.ok (ok_one (okp _ _)))
    · exact th_mid h1 h2 (okp _ _)
    · exact th_mid h1 h2 (okp _ _)
theorem s11 {D ts : List PyData} {k : Int} (t0 t1 t2 t3 t4 t6 t9 t10 T : Sv) (hD : Row D) (ht : ∀ x ∈ ts, Th x) (hl : ts.length = 8) : ∃ us, s_law_11 fa [t0, t1, t2, t3, t4, .d (.tuple D), t6, .d (.int k), .own ts, t9, t10, T] = .nx [t0, t1, t2, t3, t4, .d (.tuple D), t6, .d (.int k), .own us, t9, t10, T] ∧ (∀ x ∈ us, Th x) ∧ us.length = 10 := by
  have sl : ∀ lo hi, pySl (.tuple D) lo hi = some (.tuple (AX.cutD D lo hi)) := fun _ _ => rfl
  have h1 := hD.cut none (some k)
  have h2 := hD.cut (some (k + 1)) none
  have g1 := h1.len
  have g2 := h2.len
  have a2 : ∀ z : PyData, pyAdd (.tuple (AX.cutD D none (some k))) (.tuple [z]) = some (.tuple (AX.cutD D none (some k) ++ [z])) := fun z => add_t (by rw [List.length_singleton]; omega)
  have a3 : ∀ z : PyData, pyAdd (.tuple (AX.cutD D none (some k) ++ [z])) (.tuple (AX.cutD D (some (k + 1)) none)) = some (.tuple (AX.cutD D none (some k) ++ [z] ++ AX.cutD D (some (k + 1)) none)) := fun z => add_t (by rw [List.length_append, List.length_singleton]; omega)
  have l1 : (1 : Nat) ≤ sizeLine := by decide
  have l2 : (2 : Nat) ≤ sizeLine := by decide
  have l10 : (10 : Nat) ≤ sizeLine := by decide
  have okb : okD 60 (.tuple [.int 1, .bool true]) := okD_mono (n := 1) (okD_tuple fun z hz => by
    rcases List.mem_cons.mp hz with e | e
    · subst e; exact okD_int _ _
    · rw [List.mem_singleton] at e; subst e; exact okD_bool _ _) (by decide)
  refine ⟨ts ++ [.tuple (AX.cutD D none (some k) ++ [.tuple [.int 1, .bool true]] ++ AX.cutD D (some (k + 1)) none), .tuple (AX.cutD D none (some k) ++ [.none] ++ AX.cutD D (some (k + 1)) none)], ?_, fun x hx => ?_, by rw [List.length_append, hl]; rfl⟩
  · unfold s_law_11
    simp only [eC_ap, eV_ap, eOp_ap, eUn_ap, bB_ap, bAnd_ap, bOr_ap, bNot_ap, eAnd_ap, eOr_ap, eNot_ap, eIf_ap, eIsN_ap, lNil_ap, lCons_ap, eTup_ap, nLst_ap, eL_ap, nCat_ap, qR_ap, qN_ap, qV_ap, eLenQ_ap, eCB_ap, eTupleQ_ap, nListQ_ap, eIsi_ap, oNo_ap, oSome_ap, eSl_ap, nSl_ap, eIdxV_ap, iR_ap, iZp_ap, iZp3_ap, iEnA_ap, nComp_ap, sNext_ap, sSeq_ap, sIf_ap, sRet_ap, sDrop_ap, sAsg_ap, sSetN_ap, sRaise_ap, sFor_ap, aNil_ap, aDt_ap, aLk_ap, aFn_ap, eCall_ap, eCallN_ap, fb_nx, fb_rt, fb_ex, bind_ok, bind_ex, bind_no, fl_ok, fl_ex, fl_no, lift_some, lift_none, pySub_i, pyAdd_i, pyMax_i, pyAbs_i, pyLe_i, pyLt_i, pyGt_i, pyGe_i, pyEq_i, pyNe_i, py1, py2, asB, hasV, hasS, idxS, agSv, lks, gN, gT, gsC, gsN, wipeA, rstA, keepD, isFn, List.getElem?_cons_zero, List.getElem?_cons_succ, List.set_cons_zero, List.set_cons_succ, List.length_cons, List.length_nil, List.map_cons, List.map_nil, List.getD_cons_zero, List.getD_cons_succ, List.take_succ_cons, List.take_zero, List.take_nil, List.drop_succ_cons, List.drop_zero, List.drop_nil, List.append_nil, List.nil_append, List.cons_append, Option.bind_some, Option.map_some, Nat.zero_add, Nat.reduceAdd, Nat.reduceSub, Nat.reduceLeDiff, Nat.reduceEqDiff, if_true, if_false, Bool.not_true, Bool.not_false, Bool.true_and, Bool.false_and, Bool.and_true, decide_true, decide_false, List.all_nil, List.all_cons, and_self, and_true, true_and, ite_true, ite_false, reduceIte, List.replicate_zero, List.reduceReplicate, List.nodup_cons, List.nodup_nil, List.mem_cons, List.not_mem_nil, List.mem_singleton, or_false, or_self, not_false_eq_true, not_true_eq_false, wb, chg, isO, Bool.false_eq_true, Nat.reduceEqDiff, Nat.one_ne_zero, idx0, idx1, idx2, idx3, ix4_0, ix4_1, sPut_ap, pyIdx_l, pyIdx_t, Bool.or_false, Bool.or_true, Bool.true_or, Bool.false_or, beq_self_eq_true, nCatV, sl, a2, a3, l1, l2, hl, l10]
  · rcases List.mem_append.mp hx with h | h
    · exact ht x h
    · simp only [List.mem_cons, List.not_mem_nil, or_false] at h
      rcases h with h | h <;> subst h
      · exact th_mid h1 h2 okb
      · exact th_mid h1 h2 (okD_none _)
theorem s12 {D ts : List PyData} {k : Int} (t0 t1 t2 t3 t4 t6 t9 t10 T : Sv) (hD : Row D) (ht : ∀ x ∈ ts, Th x) (hl : ts.length = 10) : ∃ us, s_law_12 fa [t0, t1, t2, t3, t4, .d (.tuple D), t6, .d (.int k), .own ts, t9, t10, T] = .nx [t0, t1, t2, t3, t4, .d (.tuple D), t6, .d (.int k), .own us, t9, t10, T] ∧ (∀ x ∈ us, Th x) ∧ us.length = 11 := by
  have sl : ∀ lo hi, pySl (.tuple D) lo hi = some (.tuple (AX.cutD D lo hi)) := fun _ _ => rfl
  have h1 := hD.cut none (some k)
  have h2 := hD.cut (some (k + 1)) (some (k + 2))
  have h3 := hD.cut (some k) (some (k + 1))
  have h4 := hD.cut (some (k + 2)) none
  have g1 := h1.len
  have g2 := h2.len
  have g3 := h3.len
  have g4 := h4.len
  have a1 : pyAdd (.tuple (AX.cutD D none (some k))) (.tuple (AX.cutD D (some (k + 1)) (some (k + 2)))) = some (.tuple (AX.cutD D none (some k) ++ AX.cutD D (some (k + 1)) (some (k + 2)))) := add_t (by omega)
  have a2 : pyAdd (.tuple (AX.cutD D none (some k) ++ AX.cutD D (some (k + 1)) (some (k + 2)))) (.tuple (AX.cutD D (some k) (some (k + 1)))) = some (.tuple (AX.cutD D none (some k) ++ AX.cutD D (some (k + 1)) (some (k + 2)) ++ AX.cutD D (some k) (some (k + 1)))) := add_t (by rw [List.length_append]; omega)
  have a3 : pyAdd (.tuple (AX.cutD D none (some k) ++ AX.cutD D (some (k + 1)) (some (k + 2)) ++ AX.cutD D (some k) (some (k + 1)))) (.tuple (AX.cutD D (some (k + 2)) none)) = some (.tuple (AX.cutD D none (some k) ++ AX.cutD D (some (k + 1)) (some (k + 2)) ++ AX.cutD D (some k) (some (k + 1)) ++ AX.cutD D (some (k + 2)) none)) := add_t (by rw [List.length_append, List.length_append]; omega)
  have e : ∀ r : Sv, (eOp pyAdd (eOp pyAdd (eOp pyAdd (eSl (eV 5) oNo (oSome (eV 7))) (eSl (eV 5) (oSome (eOp pyAdd (eV 7) (eC (.int 1)))) (oSome (eOp pyAdd (eV 7) (eC (.int 2)))))) (eSl (eV 5) (oSome (eV 7)) (oSome (eOp pyAdd (eV 7) (eC (.int 1)))))) (eSl (eV 5) (oSome (eOp pyAdd (eV 7) (eC (.int 2)))) oNo)) [t0, t1, t2, t3, t4, .d (.tuple D), t6, .d (.int k), r, t9, t10, T] =
      .ok (.tuple (AX.cutD D none (some k) ++ AX.cutD D (some (k + 1)) (some (k + 2)) ++ AX.cutD D (some k) (some (k + 1)) ++ AX.cutD D (some (k + 2)) none)) [t0, t1, t2, t3, t4, .d (.tuple D), t6, .d (.int k), r, t9, t10, T] := fun r => by
    simp only [eC_ap, eV_ap, eOp_ap, eUn_ap, bB_ap, bAnd_ap, bOr_ap, bNot_ap, eAnd_ap, eOr_ap, eNot_ap, eIf_ap, eIsN_ap, lNil_ap, lCons_ap, eTup_ap, nLst_ap, eL_ap, nCat_ap, qR_ap, qN_ap, qV_ap, eLenQ_ap, eCB_ap, eTupleQ_ap, nListQ_ap, eIsi_ap, oNo_ap, oSome_ap, eSl_ap, nSl_ap, eIdxV_ap, iR_ap, iZp_ap, iZp3_ap, iEnA_ap, nComp_ap, sNext_ap, sSeq_ap, sIf_ap, sRet_ap, sDrop_ap, sAsg_ap, sSetN_ap, sRaise_ap, sFor_ap, aNil_ap, aDt_ap, aLk_ap, aFn_ap, eCall_ap, eCallN_ap, fb_nx, fb_rt, fb_ex, bind_ok, bind_ex, bind_no, fl_ok, fl_ex, fl_no, lift_some, lift_none, pySub_i, pyAdd_i, pyMax_i, pyAbs_i, pyLe_i, pyLt_i, pyGt_i, pyGe_i, pyEq_i, pyNe_i, py1, py2, asB, hasV, hasS, idxS, agSv, lks, gN, gT, gsC, gsN, wipeA, rstA, keepD, isFn, List.getElem?_cons_zero, List.getElem?_cons_succ, List.set_cons_zero, List.set_cons_succ, List.length_cons, List.length_nil, List.map_cons, List.map_nil, List.getD_cons_zero, List.getD_cons_succ, List.take_succ_cons, List.take_zero, List.take_nil, List.drop_succ_cons, List.drop_zero, List.drop_nil, List.append_nil, List.nil_append, List.cons_append, Option.bind_some, Option.map_some, Nat.zero_add, Nat.reduceAdd, Nat.reduceSub, Nat.reduceLeDiff, Nat.reduceEqDiff, if_true, if_false, Bool.not_true, Bool.not_false, Bool.true_and, Bool.false_and, Bool.and_true, decide_true, decide_false, List.all_nil, List.all_cons, and_self, and_true, true_and, ite_true, ite_false, reduceIte, List.replicate_zero, List.reduceReplicate, List.nodup_cons, List.nodup_nil, List.mem_cons, List.not_mem_nil, List.mem_singleton, or_false, or_self, not_false_eq_true, not_true_eq_false, wb, chg, isO, Bool.false_eq_true, Nat.reduceEqDiff, Nat.one_ne_zero, idx0, idx1, idx2, idx3, ix4_0, ix4_1, sPut_ap, pyIdx_l, pyIdx_t, Bool.or_false, Bool.or_true, Bool.true_or, Bool.false_or, beq_self_eq_true, sl, a1, a2, a3]
  refine ⟨ts ++ [.tuple (AX.cutD D none (some k) ++ AX.cutD D (some (k + 1)) (some (k + 2)) ++ AX.cutD D (some k) (some (k + 1)) ++ AX.cutD D (some (k + 2)) none)], ?_, fun x hx => ?_, by rw [List.length_append, hl]; rfl⟩
  · unfold s_law_12
    rw [sApp_own (xs := ts) rfl (e _) rfl (by rw [hl]; decide)]
    rfl
  · rcases List.mem_append.mp hx with h | h
    · exact ht x h
    · rw [List.mem_singleton] at h
      subst h
      exact th_tuple (by simp only [List.length_append]; omega) (ok_app (ok_app (ok_app h1.ok h2.ok) h3.ok) h4.ok)
end K_k33

namespace K_k33
open PySem L2 Evl RZ PyProof.Rows AX
variable {fa : Str → Addr}
theorem s13 {a b c d : Int} {ts : List PyData} (t0 t1 t2 t5 t6 t7 t9 t10 T : Sv) (ha : a.natAbs ≤ 31) (hb : b.natAbs ≤ 31) (hc : c.natAbs ≤ 31) (hd : d.natAbs ≤ 31) (ht : ∀ x ∈ ts, Th x) :
    ∃ t8 t9', s_law_13 fa [t0, t1, t2, .d (p2 a b), .d (p2 c d), t5, t6, t7, .own ts, t9, t10, T] = .nx [t0, t1, t2, .d (p2 a b), .d (p2 c d), t5, t6, t7, t8, t9', t10, T] := by
  have hk := len_62 ha hb hc hd
  have so : ∀ xs : List PyData, seqOf (.list xs) = some (true, xs) := fun _ => rfl
  obtain ⟨s2, ⟨t9', rfl⟩, f1⟩ := forR_all (tg := gN 9) (body := k_law_13 fa) (fun x : PyData => x) (fun _ => true) (.bool false) Th (fun ss => ∃ t9, ss = [t0, t1, t2, .d (p2 a b), .d (p2 c d), t5, t6, t7, .d (.list ts), t9, t10, T])
    (by
      rintro x ss hx ⟨t9, rfl⟩
      refine ⟨[t0, t1, t2, .d (p2 a b), .d (p2 c d), t5, t6, t7, .d (.list ts), .d x, t10, T], [t0, t1, t2, .d (p2 a b), .d (p2 c d), t5, t6, t7, .d (.list ts), .d x, t10, T], rfl, ⟨_, rfl⟩, ?_⟩
      have e1 := m_is_line (fa := fa) (a := a) (b := b) (c := c) (d := d) (by unfold sm; omega) (by unfold sm; omega) (by unfold sm; omega) (by unfold sm; omega) (Nat.le_trans hk (by decide)) x (fun xs e => Nat.le_trans (hx xs e).1 (by decide))
      have e2 := m_law_fits (fa := fa) (a := a) (b := b) (c := c) (d := d) (by unfold sm; omega) (by unfold sm; omega) (by unfold sm; omega) (by unfold sm; omega) (Nat.le_trans hk (by decide)) x (fun xs e => ⟨Nat.le_trans (hx xs e).1 (by decide), (hx xs e).2⟩)
      have e3 := m_steps (fa := fa) x (fun xs e => Nat.le_trans (hx xs e).1 (by decide))
      have e4 := m_are_steps (fa := fa) x (fun xs e => ⟨Nat.le_trans (hx xs e).1 (by decide), (hx xs e).2⟩)
      have sm2 : Sml 1 2 (.list [.bool (fitsD a b c d x), .bool (isSteps x)]) := by
        refine (sml_list (n := 0) (w := 0) fun z hz => ?_).mono (Nat.le_refl _) (by show 1 * 2 ≤ 2; decide)
        rcases List.mem_cons.mp hz with e | e
        · subst e; exact sml_bool _
        · rw [List.mem_singleton] at e; subst e; exact sml_bool _
      have e5 := m_alike (fa := fa) sm2 (by decide) (by decide)
      have l2 : (2 : Nat) ≤ sizeLine := by decide
      unfold k_law_13 s_law_14
      simp only [eC_ap, eV_ap, eOp_ap, eUn_ap, bB_ap, bAnd_ap, bOr_ap, bNot_ap, eAnd_ap, eOr_ap, eNot_ap, eIf_ap, eIsN_ap, lNil_ap, lCons_ap, eTup_ap, nLst_ap, eL_ap, nCat_ap, qR_ap, qN_ap, qV_ap, eLenQ_ap, eCB_ap, eTupleQ_ap, nListQ_ap, eIsi_ap, oNo_ap, oSome_ap, eSl_ap, nSl_ap, eIdxV_ap, iR_ap, iZp_ap, iZp3_ap, iEnA_ap, nComp_ap, sNext_ap, sSeq_ap, sIf_ap, sRet_ap, sDrop_ap, sAsg_ap, sSetN_ap, sRaise_ap, sFor_ap, aNil_ap, aDt_ap, aLk_ap, aFn_ap, eCall_ap, eCallN_ap, fb_nx, fb_rt, fb_ex, bind_ok, bind_ex, bind_no, fl_ok, fl_ex, fl_no, lift_some, lift_none, pySub_i, pyAdd_i, pyMax_i, pyAbs_i, pyLe_i, pyLt_i, pyGt_i, pyGe_i, pyEq_i, pyNe_i, py1, py2, asB, hasV, hasS, idxS, agSv, lks, gN, gT, gsC, gsN, wipeA, rstA, keepD, isFn, List.getElem?_cons_zero, List.getElem?_cons_succ, List.set_cons_zero, List.set_cons_succ, List.length_cons, List.length_nil, List.map_cons, List.map_nil, List.getD_cons_zero, List.getD_cons_succ, List.take_succ_cons, List.take_zero, List.take_nil, List.drop_succ_cons, List.drop_zero, List.drop_nil, List.append_nil, List.nil_append, List.cons_append, Option.bind_some, Option.map_some, Nat.zero_add, Nat.reduceAdd, Nat.reduceSub, Nat.reduceLeDiff, Nat.reduceEqDiff, if_true, if_false, Bool.not_true, Bool.not_false, Bool.true_and, Bool.false_and, Bool.and_true, decide_true, decide_false, List.all_nil, List.all_cons, and_self, and_true, true_and, ite_true, ite_false, reduceIte, List.replicate_zero, List.reduceReplicate, List.nodup_cons, List.nodup_nil, List.mem_cons, List.not_mem_nil, List.mem_singleton, or_false, or_self, not_false_eq_true, not_true_eq_false, wb, chg, isO, Bool.false_eq_true, Nat.reduceEqDiff, Nat.one_ne_zero, idx0, idx1, idx2, idx3, ix4_0, ix4_1, sPut_ap, pyIdx_l, pyIdx_t, Bool.or_false, Bool.or_true, Bool.true_or, Bool.false_or, beq_self_eq_true, e1, e2, e3, e4, e5, l2]) ts [t0, t1, t2, .d (p2 a b), .d (p2 c d), t5, t6, t7, .d (.list ts), t9, t10, T] ht ⟨_, rfl⟩
  have al : (ts.all fun _ => true) = true := List.all_eq_true.mpr fun _ _ => rfl
  rw [al, List.map_id', if_pos rfl] at f1
  refine ⟨.d (.list ts), t9', ?_⟩
  unfold s_law_13
  simp only [eC_ap, eV_ap, eOp_ap, eUn_ap, bB_ap, bAnd_ap, bOr_ap, bNot_ap, eAnd_ap, eOr_ap, eNot_ap, eIf_ap, eIsN_ap, lNil_ap, lCons_ap, eTup_ap, nLst_ap, eL_ap, nCat_ap, qR_ap, qN_ap, qV_ap, eLenQ_ap, eCB_ap, eTupleQ_ap, nListQ_ap, eIsi_ap, oNo_ap, oSome_ap, eSl_ap, nSl_ap, eIdxV_ap, iR_ap, iZp_ap, iZp3_ap, iEnA_ap, nComp_ap, sNext_ap, sSeq_ap, sIf_ap, sRet_ap, sDrop_ap, sAsg_ap, sSetN_ap, sRaise_ap, sFor_ap, aNil_ap, aDt_ap, aLk_ap, aFn_ap, eCall_ap, eCallN_ap, fb_nx, fb_rt, fb_ex, bind_ok, bind_ex, bind_no, fl_ok, fl_ex, fl_no, lift_some, lift_none, pySub_i, pyAdd_i, pyMax_i, pyAbs_i, pyLe_i, pyLt_i, pyGt_i, pyGe_i, pyEq_i, pyNe_i, py1, py2, asB, hasV, hasS, idxS, agSv, lks, gN, gT, gsC, gsN, wipeA, rstA, keepD, isFn, List.getElem?_cons_zero, List.getElem?_cons_succ, List.set_cons_zero, List.set_cons_succ, List.length_cons, List.length_nil, List.map_cons, List.map_nil, List.getD_cons_zero, List.getD_cons_succ, List.take_succ_cons, List.take_zero, List.take_nil, List.drop_succ_cons, List.drop_zero, List.drop_nil, List.append_nil, List.nil_append, List.cons_append, Option.bind_some, Option.map_some, Nat.zero_add, Nat.reduceAdd, Nat.reduceSub, Nat.reduceLeDiff, Nat.reduceEqDiff, if_true, if_false, Bool.not_true, Bool.not_false, Bool.true_and, Bool.false_and, Bool.and_true, decide_true, decide_false, List.all_nil, List.all_cons, and_self, and_true, true_and, ite_true, ite_false, reduceIte, List.replicate_zero, List.reduceReplicate, List.nodup_cons, List.nodup_nil, List.mem_cons, List.not_mem_nil, List.mem_singleton, or_false, or_self, not_false_eq_true, not_true_eq_false, wb, chg, isO, Bool.false_eq_true, Nat.reduceEqDiff, Nat.one_ne_zero, idx0, idx1, idx2, idx3, ix4_0, ix4_1, sPut_ap, pyIdx_l, pyIdx_t, Bool.or_false, Bool.or_true, Bool.true_or, Bool.false_or, beq_self_eq_true, so, f1]
theorem s16 {n : Nat} {xs : List PyData} (sc T t2 t3 t4 t5 t6 t7 t8 t9 t10 : Sv) (hb : Bg n xs) (hn : n ≤ 1000000) :
    ∃ (x : PyData) (ys : List PyData), s_law_16 fa [sc, .own xs, t2, t3, t4, t5, t6, t7, t8, t9, t10, T] = .nx [sc, .own ys, t2, t3, t4, t5, t6, t7, t8, t9, .d x, T] ∧ Bg (n + 1) ys ∧ isSpot x = false := by
  obtain ⟨y, ys, hy, e, b1⟩ := m_some (fa := fa) (things := [.none, .tuple [.int 1], .tuple [.int 1, .bool true], .list [.int 1, .int 2], .tuple [.int 1, .int 2, .int 3], .int 5]) hb (by omega) (by decide) (by decide)
  have l1 : (1 : Nat) ≤ sizeLine := by decide
  have l2 : (2 : Nat) ≤ sizeLine := by decide
  have l3 : (3 : Nat) ≤ sizeLine := by decide
  have l6 : (6 : Nat) ≤ sizeLine := by decide
  refine ⟨y, ys, ?_, b1, ?_⟩
  · unfold s_law_16
    simp only [eC_ap, eV_ap, eOp_ap, eUn_ap, bB_ap, bAnd_ap, bOr_ap, bNot_ap, eAnd_ap, eOr_ap, eNot_ap, eIf_ap, eIsN_ap, lNil_ap, lCons_ap, eTup_ap, nLst_ap, eL_ap, nCat_ap, qR_ap, qN_ap, qV_ap, eLenQ_ap, eCB_ap, eTupleQ_ap, nListQ_ap, eIsi_ap, oNo_ap, oSome_ap, eSl_ap, nSl_ap, eIdxV_ap, iR_ap, iZp_ap, iZp3_ap, iEnA_ap, nComp_ap, sNext_ap, sSeq_ap, sIf_ap, sRet_ap, sDrop_ap, sAsg_ap, sSetN_ap, sRaise_ap, sFor_ap, aNil_ap, aDt_ap, aLk_ap, aFn_ap, eCall_ap, eCallN_ap, fb_nx, fb_rt, fb_ex, bind_ok, bind_ex, bind_no, fl_ok, fl_ex, fl_no, lift_some, lift_none, pySub_i, pyAdd_i, pyMax_i, pyAbs_i, pyLe_i, pyLt_i, pyGt_i, pyGe_i, pyEq_i, pyNe_i, py1, py2, asB, hasV, hasS, idxS, agSv, lks, gN, gT, gsC, gsN, wipeA, rstA, keepD, isFn, List.getElem?_cons_zero, List.getElem?_cons_succ, List.set_cons_zero, List.set_cons_succ, List.length_cons, List.length_nil, List.map_cons, List.map_nil, List.getD_cons_zero, List.getD_cons_succ, List.take_succ_cons, List.take_zero, List.take_nil, List.drop_succ_cons, List.drop_zero, List.drop_nil, List.append_nil, List.nil_append, List.cons_append, Option.bind_some, Option.map_some, Nat.zero_add, Nat.reduceAdd, Nat.reduceSub, Nat.reduceLeDiff, Nat.reduceEqDiff, if_true, if_false, Bool.not_true, Bool.not_false, Bool.true_and, Bool.false_and, Bool.and_true, decide_true, decide_false, List.all_nil, List.all_cons, and_self, and_true, true_and, ite_true, ite_false, reduceIte, List.replicate_zero, List.reduceReplicate, List.nodup_cons, List.nodup_nil, List.mem_cons, List.not_mem_nil, List.mem_singleton, or_false, or_self, not_false_eq_true, not_true_eq_false, wb, chg, isO, Bool.false_eq_true, Nat.reduceEqDiff, Nat.one_ne_zero, idx0, idx1, idx2, idx3, ix4_0, ix4_1, sPut_ap, pyIdx_l, pyIdx_t, Bool.or_false, Bool.or_true, Bool.true_or, Bool.false_or, beq_self_eq_true, l1, l2, l3, l6, e]
  · simp only [List.mem_cons, List.not_mem_nil, or_false] at hy
    rcases hy with h | h | h | h | h | h <;> subst h <;> rfl
theorem s17 {x y : PyData} (t0 t1 t2 t3 t5 t6 t7 t8 t9 : Sv) (h : isSpot x = false) : s_law_17 fa [t0, t1, t2, t3, .d y, t5, t6, t7, t8, t9, .d x, .tab (fa "%tab") "law.<locals>.<lambda>"] = .nx [t0, t1, t2, t3, .d y, t5, t6, t7, t8, t9, .d x, .tab (fa "%tab") "law.<locals>.<lambda>"] := by
  have e1 := m_line_no (fa := fa) x y h
  have e2 : (eCall 2 (m_f_line_steps fa) (aLk 10 (aLk 4 aNil))) [t0, t1, t2, t3, .d y, t5, t6, t7, t8, t9, .d x, .tab (fa "%tab") "law.<locals>.<lambda>"] = .ex "Nothing" [t0, t1, t2, t3, .d y, t5, t6, t7, t8, t9, .d x, .tab (fa "%tab") "law.<locals>.<lambda>"] := by
    simp only [eC_ap, eV_ap, eOp_ap, eUn_ap, bB_ap, bAnd_ap, bOr_ap, bNot_ap, eAnd_ap, eOr_ap, eNot_ap, eIf_ap, eIsN_ap, lNil_ap, lCons_ap, eTup_ap, nLst_ap, eL_ap, nCat_ap, qR_ap, qN_ap, qV_ap, eLenQ_ap, eCB_ap, eTupleQ_ap, nListQ_ap, eIsi_ap, oNo_ap, oSome_ap, eSl_ap, nSl_ap, eIdxV_ap, iR_ap, iZp_ap, iZp3_ap, iEnA_ap, nComp_ap, sNext_ap, sSeq_ap, sIf_ap, sRet_ap, sDrop_ap, sAsg_ap, sSetN_ap, sRaise_ap, sFor_ap, aNil_ap, aDt_ap, aLk_ap, aFn_ap, eCall_ap, eCallN_ap, fb_nx, fb_rt, fb_ex, bind_ok, bind_ex, bind_no, fl_ok, fl_ex, fl_no, lift_some, lift_none, pySub_i, pyAdd_i, pyMax_i, pyAbs_i, pyLe_i, pyLt_i, pyGt_i, pyGe_i, pyEq_i, pyNe_i, py1, py2, asB, hasV, hasS, idxS, agSv, lks, gN, gT, gsC, gsN, wipeA, rstA, keepD, isFn, List.getElem?_cons_zero, List.getElem?_cons_succ, List.set_cons_zero, List.set_cons_succ, List.length_cons, List.length_nil, List.map_cons, List.map_nil, List.getD_cons_zero, List.getD_cons_succ, List.take_succ_cons, List.take_zero, List.take_nil, List.drop_succ_cons, List.drop_zero, List.drop_nil, List.append_nil, List.nil_append, List.cons_append, Option.bind_some, Option.map_some, Nat.zero_add, Nat.reduceAdd, Nat.reduceSub, Nat.reduceLeDiff, Nat.reduceEqDiff, if_true, if_false, Bool.not_true, Bool.not_false, Bool.true_and, Bool.false_and, Bool.and_true, decide_true, decide_false, List.all_nil, List.all_cons, and_self, and_true, true_and, ite_true, ite_false, reduceIte, List.replicate_zero, List.reduceReplicate, List.nodup_cons, List.nodup_nil, List.mem_cons, List.not_mem_nil, List.mem_singleton, or_false, or_self, not_false_eq_true, not_true_eq_false, wb, chg, isO, Bool.false_eq_true, Nat.reduceEqDiff, Nat.one_ne_zero, idx0, idx1, idx2, idx3, ix4_0, ix4_1, sPut_ap, pyIdx_l, pyIdx_t, Bool.or_false, Bool.or_true, Bool.true_or, Bool.false_or, beq_self_eq_true, e1]
  have it : isTab (fa "%tab") "law.<locals>.<lambda>" (some (.tab (fa "%tab") "law.<locals>.<lambda>")) = true := by simp [isTab]
  have e3 : eHeard 11 (fa "%tab") "law.<locals>.<lambda>" "Nothing" (Str.ofString "told") (Str.ofString "nothing") (eCall 2 (m_f_line_steps fa) (aLk 10 (aLk 4 aNil))) [t0, t1, t2, t3, .d y, t5, t6, t7, t8, t9, .d x, .tab (fa "%tab") "law.<locals>.<lambda>"] = .ok (.tuple [.str (Str.ofString "nothing")]) [t0, t1, t2, t3, .d y, t5, t6, t7, t8, t9, .d x, .tab (fa "%tab") "law.<locals>.<lambda>"] := by
    unfold eHeard
    rw [e2]
    show (if isTab (fa "%tab") "law.<locals>.<lambda>" (some (.tab (fa "%tab") "law.<locals>.<lambda>")) = true then _ else _) = _
    rw [it, if_pos rfl]
    dsimp only
    rw [if_pos rfl]
  have e4 : pyNe (.tuple [.str (Str.ofString "nothing")]) (.tuple [.str (Str.ofString "nothing")]) = some (.bool false) := by
    have ok : okD 1 (.tuple [.str (Str.ofString "nothing")]) := okD_tuple fun z hz => by
      rw [List.mem_singleton] at hz
      subst hz
      exact ⟨by simp only [PyData.canLay0]; exact sOk_of _, Nat.le_refl _⟩
    rw [pyNe_ok ok ok (by decide) (by decide), SeqAt.eqv_refl _ ok.1]
    rfl
  have l1 : (1 : Nat) ≤ sizeLine := by decide
  unfold s_law_17
  simp only [eC_ap, eV_ap, eOp_ap, eUn_ap, bB_ap, bAnd_ap, bOr_ap, bNot_ap, eAnd_ap, eOr_ap, eNot_ap, eIf_ap, eIsN_ap, lNil_ap, lCons_ap, eTup_ap, nLst_ap, eL_ap, nCat_ap, qR_ap, qN_ap, qV_ap, eLenQ_ap, eCB_ap, eTupleQ_ap, nListQ_ap, eIsi_ap, oNo_ap, oSome_ap, eSl_ap, nSl_ap, eIdxV_ap, iR_ap, iZp_ap, iZp3_ap, iEnA_ap, nComp_ap, sNext_ap, sSeq_ap, sIf_ap, sRet_ap, sDrop_ap, sAsg_ap, sSetN_ap, sRaise_ap, sFor_ap, aNil_ap, aDt_ap, aLk_ap, aFn_ap, eCall_ap, eCallN_ap, fb_nx, fb_rt, fb_ex, bind_ok, bind_ex, bind_no, fl_ok, fl_ex, fl_no, lift_some, lift_none, pySub_i, pyAdd_i, pyMax_i, pyAbs_i, pyLe_i, pyLt_i, pyGt_i, pyGe_i, pyEq_i, pyNe_i, py1, py2, asB, hasV, hasS, idxS, agSv, lks, gN, gT, gsC, gsN, wipeA, rstA, keepD, isFn, List.getElem?_cons_zero, List.getElem?_cons_succ, List.set_cons_zero, List.set_cons_succ, List.length_cons, List.length_nil, List.map_cons, List.map_nil, List.getD_cons_zero, List.getD_cons_succ, List.take_succ_cons, List.take_zero, List.take_nil, List.drop_succ_cons, List.drop_zero, List.drop_nil, List.append_nil, List.nil_append, List.cons_append, Option.bind_some, Option.map_some, Nat.zero_add, Nat.reduceAdd, Nat.reduceSub, Nat.reduceLeDiff, Nat.reduceEqDiff, if_true, if_false, Bool.not_true, Bool.not_false, Bool.true_and, Bool.false_and, Bool.and_true, decide_true, decide_false, List.all_nil, List.all_cons, and_self, and_true, true_and, ite_true, ite_false, reduceIte, List.replicate_zero, List.reduceReplicate, List.nodup_cons, List.nodup_nil, List.mem_cons, List.not_mem_nil, List.mem_singleton, or_false, or_self, not_false_eq_true, not_true_eq_false, wb, chg, isO, Bool.false_eq_true, Nat.reduceEqDiff, Nat.one_ne_zero, idx0, idx1, idx2, idx3, ix4_0, ix4_1, sPut_ap, pyIdx_l, pyIdx_t, Bool.or_false, Bool.or_true, Bool.true_or, Bool.false_or, beq_self_eq_true, e3, e4, l1]
/-- one lap -/
theorem lap {n : Nat} {xs : List PyData} (sc t2 t3 t4 t5 t6 t7 t8 t9 t10 : Sv) (h7 : Fr t7) (hb : Bg n xs) (hn : n ≤ 900000) :
    ∃ (ys : List PyData) (u3 u4 u5 u6 u7 u8 u9 u10 : Sv), k_law_2 fa [sc, .own xs, t2, t3, t4, t5, t6, t7, t8, t9, t10, .tab (fa "%tab") "law.<locals>.<lambda>"] = .nx [sc, .own ys, t2, u3, u4, u5, u6, u7, u8, u9, u10, .tab (fa "%tab") "law.<locals>.<lambda>"] ∧ Bg (n + 7) ys ∧ Fr u7 := by
  obtain ⟨a, b, c0, d0, y1, e3, b1, ha, hb', hc0, hd0⟩ := s3 (fa := fa) sc (.tab (fa "%tab") "law.<locals>.<lambda>") t2 t3 t4 t5 t6 t7 t8 t9 t10 h7 hb (by omega)
  obtain ⟨c, d, y2, e4, b2, hc, hd⟩ := s4 (fa := fa) sc (.tab (fa "%tab") "law.<locals>.<lambda>") t2 t5 t6 t7 t8 t9 t10 a b c0 d0 b1 (by omega) ha hb' hc0 hd0
  have ha : a.natAbs ≤ 31 := by omega
  have hb' : b.natAbs ≤ 31 := by omega
  have hD : Row (due a b c d) := ⟨by have := len_62 ha hb' hc hd; rw [due_len]; omega, fun y hy => okD_mono (sml_due1 ha hb' hc hd y hy).ok (by decide)⟩
  have e5 := s5 (fa := fa) ha hb' hc hd sc (.tab (fa "%tab") "law.<locals>.<lambda>") (.own y2) t2 t5 t6 t7 t8 t9 t10
  have e6 := s6 (fa := fa) ha hb' hc hd sc (.tab (fa "%tab") "law.<locals>.<lambda>") (.own y2) t2 (.d (.tuple (due a b c d))) t6 t7 t8 t9 t10
  have e7 := s7 (fa := fa) ha hb' hc hd sc (.tab (fa "%tab") "law.<locals>.<lambda>") (.own y2) t2 t7 t8 t9 t10
  obtain ⟨k, y3, e9, b3⟩ := s9 (fa := fa) sc (.tab (fa "%tab") "law.<locals>.<lambda>") t2 (.d (p2 a b)) (.d (p2 c d)) (.d (.tuple (due a b c d))) t7 t8 t9 t10 b2 (by omega) hD
  obtain ⟨t81, e10, f10, l10⟩ := s10 (fa := fa) (k := k) sc (.own y3) t2 (.d (p2 a b)) (.d (p2 c d)) (.d (.tuple (due a b c d))) t8 t9 t10 (.tab (fa "%tab") "law.<locals>.<lambda>") hD
  obtain ⟨t82, e11, f11, l11⟩ := s11 (fa := fa) (k := k) sc (.own y3) t2 (.d (p2 a b)) (.d (p2 c d)) (.d (.tuple (due a b c d))) t9 t10 (.tab (fa "%tab") "law.<locals>.<lambda>") hD f10 l10
  obtain ⟨t83, e12, f12, l12⟩ := s12 (fa := fa) (k := k) sc (.own y3) t2 (.d (p2 a b)) (.d (p2 c d)) (.d (.tuple (due a b c d))) t9 t10 (.tab (fa "%tab") "law.<locals>.<lambda>") hD f11 l11
  obtain ⟨t84, t94, e13⟩ := s13 (fa := fa) sc (.own y3) t2 (.d (.tuple (due a b c d))) (.d (.tuple (due a b c d))) (.d (.int k)) t9 t10 (.tab (fa "%tab") "law.<locals>.<lambda>") ha hb' hc hd f12
  obtain ⟨x, y4, e16, b4, hx⟩ := s16 (fa := fa) sc (.tab (fa "%tab") "law.<locals>.<lambda>") t2 (.d (p2 a b)) (.d (p2 c d)) (.d (.tuple (due a b c d))) (.d (.tuple (due a b c d))) (.d (.int k)) t84 t94 t10 b3 (by omega)
  have e17 := s17 (fa := fa) (x := x) (y := p2 c d) sc (.own y4) t2 (.d (p2 a b)) (.d (.tuple (due a b c d))) (.d (.tuple (due a b c d))) (.d (.int k)) t84 t94 hx
  refine ⟨y4, .d (p2 a b), .d (p2 c d), .d (.tuple (due a b c d)), .d (.tuple (due a b c d)), .d (.int k), t84, t94, .d x, ?_, b4, rfl⟩
  · unfold k_law_2
    rw [seq_nx e3, seq_nx e4, seq_nx e5, seq_nx e6, seq_nx e7, seq_nx e9, seq_nx e10, seq_nx e11, seq_nx e12, seq_nx e13, seq_nx e16, e17]
theorem plain (fa : Str → Addr) (ns : List Int) (h : ns.length ≤ 63) (hb : ∀ z ∈ ns, Builtin.Int.intBits z ≤ 1048576) : ∃ s2, b_f_law fa (lawSs 10 (fa "%tab") "law.<locals>.<lambda>" ns) = .rt (.bool true) s2 := by
  have e0 : lawSs 10 (fa "%tab") "law.<locals>.<lambda>" ns = [.d (.list (ns.map PyData.int)), .un, .un, .un, .un, .un, .un, .un, .un, .un, .un, .tab (fa "%tab") "law.<locals>.<lambda>"] := rfl
  rw [e0]
  obtain ⟨xs, b0, e1⟩ := m_bag (fa := fa) ns h
  have r12 : ∀ ss, iRng (lCons (eC (.int 12)) lNil) ss = .ok ((List.range 12).map fun i => .int (i : Nat)) ss := fun ss => iRng1 (j := 12) rfl (by decide)
  have g1 : s_law_1 fa [.d (.list (ns.map PyData.int)), .un, .un, .un, .un, .un, .un, .un, .un, .un, .un, .tab (fa "%tab") "law.<locals>.<lambda>"] = .nx [.d (.list (ns.map PyData.int)), .own xs, .un, .un, .un, .un, .un, .un, .un, .un, .un, .tab (fa "%tab") "law.<locals>.<lambda>"] := by
    unfold s_law_1
    simp only [eC_ap, eV_ap, eOp_ap, eUn_ap, bB_ap, bAnd_ap, bOr_ap, bNot_ap, eAnd_ap, eOr_ap, eNot_ap, eIf_ap, eIsN_ap, lNil_ap, lCons_ap, eTup_ap, nLst_ap, eL_ap, nCat_ap, qR_ap, qN_ap, qV_ap, eLenQ_ap, eCB_ap, eTupleQ_ap, nListQ_ap, eIsi_ap, oNo_ap, oSome_ap, eSl_ap, nSl_ap, eIdxV_ap, iR_ap, iZp_ap, iZp3_ap, iEnA_ap, nComp_ap, sNext_ap, sSeq_ap, sIf_ap, sRet_ap, sDrop_ap, sAsg_ap, sSetN_ap, sRaise_ap, sFor_ap, aNil_ap, aDt_ap, aLk_ap, aFn_ap, eCall_ap, eCallN_ap, fb_nx, fb_rt, fb_ex, bind_ok, bind_ex, bind_no, fl_ok, fl_ex, fl_no, lift_some, lift_none, pySub_i, pyAdd_i, pyMax_i, pyAbs_i, pyLe_i, pyLt_i, pyGt_i, pyGe_i, pyEq_i, pyNe_i, py1, py2, asB, hasV, hasS, idxS, agSv, lks, gN, gT, gsC, gsN, wipeA, rstA, keepD, isFn, List.getElem?_cons_zero, List.getElem?_cons_succ, List.set_cons_zero, List.set_cons_succ, List.length_cons, List.length_nil, List.map_cons, List.map_nil, List.getD_cons_zero, List.getD_cons_succ, List.take_succ_cons, List.take_zero, List.take_nil, List.drop_succ_cons, List.drop_zero, List.drop_nil, List.append_nil, List.nil_append, List.cons_append, Option.bind_some, Option.map_some, Nat.zero_add, Nat.reduceAdd, Nat.reduceSub, Nat.reduceLeDiff, Nat.reduceEqDiff, if_true, if_false, Bool.not_true, Bool.not_false, Bool.true_and, Bool.false_and, Bool.and_true, decide_true, decide_false, List.all_nil, List.all_cons, and_self, and_true, true_and, ite_true, ite_false, reduceIte, List.replicate_zero, List.reduceReplicate, List.nodup_cons, List.nodup_nil, List.mem_cons, List.not_mem_nil, List.mem_singleton, or_false, or_self, not_false_eq_true, not_true_eq_false, wb, chg, isO, Bool.false_eq_true, Nat.reduceEqDiff, Nat.one_ne_zero, idx0, idx1, idx2, idx3, ix4_0, ix4_1, sPut_ap, pyIdx_l, pyIdx_t, Bool.or_false, Bool.or_true, Bool.true_or, Bool.false_or, beq_self_eq_true, e1]
  obtain ⟨s2, f2, xs', t2, t3, t4, t5, t6, t7, t8, t9, t10, e2, _, _⟩ := forR_n (tg := gN 2) (body := k_law_2 fa) (fun i => .int (i : Nat)) 12
    (fun i ss => ∃ (xs : List PyData) (t2 t3 t4 t5 t6 t7 t8 t9 t10 : Sv), ss = [.d (.list (ns.map PyData.int)), .own xs, t2, t3, t4, t5, t6, t7, t8, t9, t10, .tab (fa "%tab") "law.<locals>.<lambda>"] ∧ Bg (7 * i) xs ∧ Fr t7)
    (by
      rintro i ss hi ⟨xs, t2, t3, t4, t5, t6, t7, t8, t9, t10, rfl, b1, h7⟩
      obtain ⟨ys, u3, u4, u5, u6, u7, u8, u9, u10, e, b2, f7⟩ := lap (fa := fa) (.d (.list (ns.map PyData.int))) (.d (.int (i : Nat))) t3 t4 t5 t6 t7 t8 t9 t10 h7 b1 (by omega)
      exact ⟨_, _, rfl, .inl e, ys, _, u3, u4, u5, u6, u7, u8, u9, u10, rfl, b2, f7⟩)
    [.d (.list (ns.map PyData.int)), .own xs, .un, .un, .un, .un, .un, .un, .un, .un, .un, .tab (fa "%tab") "law.<locals>.<lambda>"] ⟨xs, .un, .un, .un, .un, .un, .un, .un, .un, .un, rfl, b0, rfl⟩
  subst e2
  refine ⟨[.d (.list (ns.map PyData.int)), .own xs', t2, t3, t4, t5, t6, t7, t8, t9, t10, .tab (fa "%tab") "law.<locals>.<lambda>"], ?_⟩
  · unfold b_f_law
    rw [seq_nx g1]
    have g2 : s_law_2 fa [.d (.list (ns.map PyData.int)), .own xs, .un, .un, .un, .un, .un, .un, .un, .un, .un, .tab (fa "%tab") "law.<locals>.<lambda>"] = .nx [.d (.list (ns.map PyData.int)), .own xs', t2, t3, t4, t5, t6, t7, t8, t9, t10, .tab (fa "%tab") "law.<locals>.<lambda>"] := by
      unfold s_law_2
      rw [sFor_ap, r12, fl_ok, f2]
    rw [seq_nx g2]
    rfl
end K_k33

open PySem PySem.W PyProof.Rows
set_option maxRecDepth 100000 in
set_option maxHeartbeats 0 in
theorem PySem.Challenge.cw_arcshapes_k33_whole_unit_steps_of_lines_holds : PySem.Challenge.rw_arcshapes_k33_whole_unit_steps_of_lines.Holds := by
  w_on; o_law
  refine HandSHeadRun.head_any (r := OpenLaw.row PySem.Challenge.rw_arcshapes_k33_whole_unit_steps_of_lines) (q := view (OpenLaw.row PySem.Challenge.rw_arcshapes_k33_whole_unit_steps_of_lines).prog [32]) (H := K_k33.hk) (ob := K_k33.hob) (M := 6000) (loose := K_k33.hnames) (d := HandSHeadRun.topDef (OpenLaw.row PySem.Challenge.rw_arcshapes_k33_whole_unit_steps_of_lines).prog 32) (kwd := []) K_k33.hob_eq (by kernel_rfl) (fun s => by kernel_rfl) K_k33.hrun (by kernel_rfl) (by kernel_rfl) (by kernel_rfl) (by rfl)
    (by first | assumption | decide +kernel) (by decide +kernel) ⟨rfl, rfl, rfl, rfl, rfl, by decide +kernel⟩ ?hw ?hc
  case hw => w_witness2
  case hc =>
    refine AX.law_walk (l := PySem.Challenge.rw_arcshapes_k33_whole_unit_steps_of_lines) (n := 63) (k := 9) rfl (by decide) (by kernel_rfl) ⟨rfl, by decide, by decide⟩ ?F
    intro w mg fa h Y G hm0
    obtain ⟨K, KX, c⟩ := Y
    have hmg : mg ("law" : PySem.Str) = some (.ref fa) := by
      have e : (HandSHeadRun.topDef (OpenLaw.row PySem.Challenge.rw_arcshapes_k33_whole_unit_steps_of_lines).prog 32).name = ("law" : PySem.Str) := by kernel_rfl
      rw [← e]
      exact hm0
    exact ⟨K, KX, K_k33.hlaw K_k33.plain KX G hmg c⟩
