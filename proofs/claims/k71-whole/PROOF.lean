import PyProof.Rows.All
import Wide.All
import OpenK.AllK
import Wide.FinOn
import HandS.ForMost
import HandS.Star
import HandS.MakeKwOnly
import HandS.Property
import HandS.IsInst
import HandS.Style
import HandS.More
import HandS.RaiseMore
import HandS.DictComp
import HandS.Conv
import HandS.GenList
import HandS.Walk
import HandS.Wide
import KE.KDictCopyH
import KE.SortKeyHeap
import KE.KDictKeyed
import HandS.Strs
import KE.GoesComp
import KE.GoesMore
import KE.GoesDict
import HandS.NoneIn
import HandS.SortKw
import KE.KEqNest
import HandS.Zip
import KE.GoesEnumKw
import KE.KDictSum
import HandS.Words
import HandS.Codes
import HandS.ClsMeth
import PyProof.DictUpdate
import HandS.WordsDict
import HandS.Iter
import PyProof.SliceList
import HandS.ListItems
import PyProof.NeKinds
import PyProof.CallFns
import PySem.Challenge.RW_windowsteps_k71_whole_cheapest_of_all_nu
set_option Elab.async false
set_option linter.all false
set_option maxRecDepth 100000
set_option maxHeartbeats 4000000
section
set_option autoImplicit false
/-! Passes that improve totals along edges. -/
namespace Ws
section
variable {N ε : Type} [DecidableEq N]

/-- the totals, the edges by which they came, whether the pass improved one -/
structure RS (N ε : Type) where
  b : N → Option Int
  l : N → Option ε
  imp : Bool

def put {α : Type} (f : N → Option α) (v : N) (x : α) : N → Option α := fun w => if w = v then some x else f w
theorem put_same {α : Type} {f : N → Option α} {v : N} {x : α} : put f v x v = some x := by simp [put]
theorem put_ne {α : Type} {f : N → Option α} {v w : N} {x : α} (h : w ≠ v) : put f v x w = f w := by simp [put, h]

/-- whether a total y is worth to be stored in place of o -/
def worth (o : Option Int) (y : Int) : Bool := match o with | none => true | some z => decide (z < y)
theorem worth_iff {o : Option Int} {y : Int} : worth o y = true ↔ ∀ z, o = some z → z < y := by
  cases o <;> simp [worth]
theorem not_worth {o : Option Int} {y : Int} (h : worth o y = false) : ∃ z, o = some z ∧ y ≤ z := by
  cases o with
  | none => simp [worth] at h
  | some z => exact ⟨z, rfl, by simpa [worth] using h⟩

variable (t h : ε → N) (p : ε → Int)

def rx (s : RS N ε) (e : ε) : RS N ε :=
  match s.b (t e) with
  | none => s
  | some x => if worth (s.b (h e)) (x + p e) = true then ⟨put s.b (h e) (x + p e), put s.l (h e) e, true⟩ else s
def pass (es : List ε) (s : RS N ε) : RS N ε := es.foldl (rx t h p) s
def fresh (s : RS N ε) : RS N ε := { s with imp := false }
def runP (es : List ε) : Nat → RS N ε → RS N ε
  | 0, s => s
  | k + 1, s => pass t h p es (fresh (runP es k s))

/-- how deep a node hangs -/
inductive Dp (l : N → Option ε) : N → Nat → Prop
  | base {v : N} : l v = none → Dp l v 0
  | step {v : N} {e : ε} {d : Nat} : l v = some e → Dp l (t e) d → Dp l v (d + 1)
variable {t h p}
theorem Dp.fn {l : N → Option ε} {v : N} {d d' : Nat} (a : Dp t l v d) (b : Dp t l v d') : d = d' := by
  induction a generalizing d' with
  | base e =>
    cases b with
    | base _ => rfl
    | step e' _ => rw [e] at e'; cases e'
  | step e _ ih =>
    cases b with
    | base e' => rw [e] at e'; cases e'
    | step e' q => rw [e] at e'; cases e'; rw [ih q]

/-- a ≤ b: where a is told b is told, and not less -/
def Le (a b : N → Option Int) : Prop := ∀ v y, a v = some y → ∃ z, b v = some z ∧ y ≤ z
theorem Le.refl (a : N → Option Int) : Le a a := fun _ y e => ⟨y, e, Int.le_refl _⟩
theorem Le.trans {a b c : N → Option Int} (x : Le a b) (y : Le b c) : Le a c := fun v z e => by
  obtain ⟨z1, e1, h1⟩ := x v z e
  obtain ⟨z2, e2, h2⟩ := y v z1 e1
  exact ⟨z2, e2, Int.le_trans h1 h2⟩
theorem Le.antisymm {a b : N → Option Int} (x : Le a b) (y : Le b a) : a = b := by
  funext v
  cases ea : a v with
  | none =>
    cases eb : b v with
    | none => rfl
    | some z => obtain ⟨w, e, _⟩ := y v z eb; rw [ea] at e; cases e
  | some z =>
    obtain ⟨w, e, h1⟩ := x v z ea
    obtain ⟨w', e', h2⟩ := y v w e
    rw [ea] at e'; cases e'
    rw [e, Int.le_antisymm h1 h2]

theorem rx_cases (s : RS N ε) (e : ε) : rx t h p s e = s ∨ ∃ x, s.b (t e) = some x ∧ worth (s.b (h e)) (x + p e) = true ∧
    rx t h p s e = ⟨put s.b (h e) (x + p e), put s.l (h e) e, true⟩ := by
  unfold rx
  cases hb : s.b (t e) with
  | none => exact .inl rfl
  | some x =>
    by_cases hw : worth (s.b (h e)) (x + p e) = true
    · refine .inr ⟨x, rfl, hw, ?_⟩
      simp only [hw, if_true]
    · refine .inl ?_
      simp only [hw]
      rfl
theorem rx_le (s : RS N ε) (e : ε) : Le s.b (rx t h p s e).b := by
  rcases rx_cases (t := t) (h := h) (p := p) s e with q | ⟨x, _, hw, q⟩
  · rw [q]; exact Le.refl _
  · rw [q]
    intro v y hv
    by_cases hv' : v = h e
    · subst hv'
      exact ⟨x + p e, put_same, Int.le_of_lt (worth_iff.mp hw y hv)⟩
    · exact ⟨y, by show put s.b (h e) (x + p e) v = _; rw [put_ne hv']; exact hv, Int.le_refl _⟩
/-- behind an edge its head has at least what the edge brings -/
theorem rx_ge (s : RS N ε) (e : ε) {x : Int} (hx : s.b (t e) = some x) : ∃ z, (rx t h p s e).b (h e) = some z ∧ x + p e ≤ z := by
  unfold rx
  rw [hx]
  by_cases hw : worth (s.b (h e)) (x + p e) = true
  · simp only [hw, if_true]
    exact ⟨_, put_same, Int.le_refl _⟩
  · have hw' : worth (s.b (h e)) (x + p e) = false := by simpa using hw
    simp only [hw']
    exact not_worth hw'
theorem pass_le (es : List ε) : ∀ s : RS N ε, Le s.b (pass t h p es s).b := by
  induction es with
  | nil => intro s; exact Le.refl _
  | cons e r ih => intro s; exact (rx_le s e).trans (ih _)
theorem pass_ge {es : List ε} {e : ε} (he : e ∈ es) : ∀ (s : RS N ε) {x : Int}, s.b (t e) = some x → ∃ z, (pass t h p es s).b (h e) = some z ∧ x + p e ≤ z := by
  induction es with
  | nil => cases he
  | cons f r ih =>
    intro s x hx
    rcases List.mem_cons.mp he with q | q
    · subst q
      obtain ⟨z, e1, h1⟩ := rx_ge (t := t) (h := h) (p := p) s e hx
      obtain ⟨z', e2, h2⟩ := pass_le (t := t) (h := h) (p := p) r _ _ _ e1
      exact ⟨z', e2, Int.le_trans h1 h2⟩
    · obtain ⟨x', e1, h1⟩ := rx_le (t := t) (h := h) (p := p) s f _ _ hx
      obtain ⟨z, e2, h2⟩ := ih q (rx t h p s f) e1
      exact ⟨z, e2, by omega⟩
theorem pass_imp_mono (es : List ε) : ∀ s : RS N ε, s.imp = true → (pass t h p es s).imp = true := by
  induction es with
  | nil => intro s hs; exact hs
  | cons e r ih =>
    intro s hs
    refine ih _ ?_
    rcases rx_cases (t := t) (h := h) (p := p) s e with q | ⟨x, _, hw, q⟩
    · rw [q]; exact hs
    · rw [q]
/-- a pass that improves nothing changes nothing -/
theorem pass_still (es : List ε) : ∀ s : RS N ε, (pass t h p es s).imp = false → pass t h p es s = s := by
  induction es with
  | nil => intro s _; rfl
  | cons e r ih =>
    intro s hs
    have hs' : (pass t h p r (rx t h p s e)).imp = false := hs
    have e1 := ih _ hs'
    show pass t h p r (rx t h p s e) = s
    rw [e1]
    rcases rx_cases (t := t) (h := h) (p := p) s e with q | ⟨x, _, hw, q⟩
    · exact q
    · rw [e1, q] at hs'
      cases hs'

/-- no edge improves -/
def Fix (t h : ε → N) (p : ε → Int) (es : List ε) (b : N → Option Int) : Prop := ∀ e ∈ es, ∀ x, b (t e) = some x → ∃ z, b (h e) = some z ∧ x + p e ≤ z
theorem fix_of_still {es : List ε} {s : RS N ε} (hs : (pass t h p es s).imp = false) : Fix t h p es s.b := fun e he x hx => by
  have q := pass_ge (t := t) (h := h) (p := p) he s hx
  rw [pass_still es s hs] at q
  exact q
theorem still_of_fix {es : List ε} {s : RS N ε} (hf : Fix t h p es s.b) (hs : s.imp = false) : pass t h p es s = s := by
  have one : ∀ e ∈ es, rx t h p s e = s := fun e he => by
    rcases rx_cases (t := t) (h := h) (p := p) s e with q | ⟨x, hx, hw, q⟩
    · exact q
    · obtain ⟨z, hz, hle⟩ := hf e he x hx
      have := worth_iff.mp hw z hz
      omega
  have all : ∀ r : List ε, (∀ e ∈ r, e ∈ es) → pass t h p r s = s := by
    intro r
    induction r with
    | nil => intro _; rfl
    | cons e r ih =>
      intro hr
      show pass t h p r (rx t h p s e) = s
      rw [one e (hr e List.mem_cons_self)]
      exact ih fun e he => hr e (List.mem_cons_of_mem _ he)
  exact all es fun _ z => z

/-! ### what holds all the while: a potential bounds the totals -/
structure Jv (t h : ε → N) (p : ε → Int) (es : List ε) (pi : N → Int) (b0 : N → Option Int) (s : RS N ε) : Prop where
  le : ∀ v y, s.b v = some y → y ≤ pi v
  ini : Le b0 s.b
  par : ∀ v y, s.b v = some y → (s.l v = none ∧ b0 v = some y) ∨ ∃ e ∈ es, s.l v = some e ∧ h e = v ∧ ∃ x, s.b (t e) = some x ∧ y ≤ x + p e
  lnb : ∀ v e, s.l v = some e → ∃ y, s.b v = some y
  dep : ∀ v y, s.b v = some y → ∃ d, Dp t s.l v d
theorem Jv.start {es : List ε} {pi : N → Int} {b0 : N → Option Int} (h0 : ∀ v y, b0 v = some y → y ≤ pi v) {i : Bool} : Jv t h p es pi b0 (⟨b0, fun _ => none, i⟩ : RS N ε) :=
  ⟨h0, Le.refl _, fun _ _ e => .inl ⟨rfl, e⟩, fun _ _ e => (nomatch e), fun _ _ _ => ⟨0, .base rfl⟩⟩
theorem Jv.imp {es : List ε} {pi : N → Int} {b0 : N → Option Int} {s : RS N ε} {i : Bool} (j : Jv t h p es pi b0 s) : Jv t h p es pi b0 { s with imp := i } := ⟨j.le, j.ini, j.par, j.lnb, j.dep⟩
theorem Jv.rx {es : List ε} {pi : N → Int} {b0 : N → Option Int} {s : RS N ε} (hpi : ∀ e ∈ es, p e ≤ pi (h e) - pi (t e)) (j : Jv t h p es pi b0 s) {e : ε} (he : e ∈ es) : Jv t h p es pi b0 (Ws.rx t h p s e) := by
  rcases rx_cases (t := t) (h := h) (p := p) s e with q | ⟨x, hx, hw, q⟩
  · rw [q]; exact j
  · rw [q]
    have hp := hpi e he
    have hxle := j.le _ _ hx
    have hw' := worth_iff.mp hw
    have hne : t e ≠ h e := fun z => by
      have := hw' x (by rw [← z]; exact hx)
      rw [z] at hp
      omega
    have vals : ∀ w y, put s.b (h e) (x + p e) w = some y → (w = h e ∧ y = x + p e) ∨ (w ≠ h e ∧ s.b w = some y) := fun w y hy => by
      by_cases hw2 : w = h e
      · subst hw2; rw [put_same] at hy; cases hy; exact .inl ⟨rfl, rfl⟩
      · rw [put_ne hw2] at hy; exact .inr ⟨hw2, hy⟩
    -- the reduced totals fall along the tree
    have down : ∀ w f y, s.l w = some f → s.b w = some y → ∃ z, s.b (t f) = some z ∧ y - pi w ≤ z - pi (t f) := fun w f y hf hy => by
      rcases j.par w y hy with ⟨z, _⟩ | ⟨f', hf', e1, e2, z, e3, e4⟩
      · rw [hf] at z; cases z
      · rw [hf] at e1; cases e1
        have := hpi f hf'
        rw [e2] at this
        exact ⟨z, e3, by omega⟩
    have keep : ∀ w d, Dp t s.l w d → ∀ y, s.b w = some y → (∀ z, s.b (h e) = some z → z - pi (h e) < y - pi w) → (s.b (h e) = none → w ≠ h e) → Dp t (put s.l (h e) e) w d := by
      intro w d hd
      induction hd with
      | base hl =>
        intro y hy h1 h2
        refine .base ?_
        rw [put_ne ?_]; exact hl
        intro z
        subst z
        exact absurd (h1 y hy) (by omega)
      | @step w f d hl hd ih =>
        intro y hy h1 h2
        obtain ⟨z, hz, hzl⟩ := down w f y hl hy
        refine .step (e := f) ?_ (ih z hz (fun z' hz' => ?_) fun hn => ?_)
        · rw [put_ne ?_]; exact hl
          intro z
          subst z
          exact absurd (h1 y hy) (by omega)
        · have := h1 z' hz'; omega
        · intro q
          rw [q, hn] at hz; cases hz
    have tdep : ∃ d, Dp t (put s.l (h e) e) (t e) d := by
      obtain ⟨d, hd⟩ := j.dep _ _ hx
      refine ⟨d, keep _ _ hd x hx (fun z hz => ?_) fun _ => hne⟩
      have := hw' z hz
      omega
    have any : ∀ w d, Dp t s.l w d → ∃ d', Dp t (put s.l (h e) e) w d' := by
      intro w d hd
      induction hd with
      | @base w hl =>
        by_cases hw2 : w = h e
        · obtain ⟨d, hd⟩ := tdep
          exact ⟨d + 1, .step (e := e) (by rw [hw2]; exact put_same) hd⟩
        · exact ⟨0, .base (by rw [put_ne hw2]; exact hl)⟩
      | @step w f d hl hd ih =>
        by_cases hw2 : w = h e
        · obtain ⟨d, hd⟩ := tdep
          exact ⟨d + 1, .step (e := e) (by rw [hw2]; exact put_same) hd⟩
        · obtain ⟨d', hd'⟩ := ih
          exact ⟨d' + 1, .step (e := f) (by rw [put_ne hw2]; exact hl) hd'⟩
    have grow : Le s.b (put s.b (h e) (x + p e)) := by
      have := rx_le (t := t) (h := h) (p := p) s e
      rw [q] at this
      exact this
    refine ⟨fun w y hy => ?_, j.ini.trans grow, fun w y hy => ?_, fun w f hf => ?_, fun w y hy => ?_⟩
    · rcases vals w y hy with ⟨rfl, rfl⟩ | ⟨_, hy⟩
      · omega
      · exact j.le w y hy
    · rcases vals w y hy with ⟨rfl, rfl⟩ | ⟨hw2, hy⟩
      · exact .inr ⟨e, he, put_same, rfl, x, by show put s.b (h e) (x + p e) (t e) = _; rw [put_ne hne]; exact hx, Int.le_refl _⟩
      · rcases j.par w y hy with ⟨a1, a2⟩ | ⟨f, hf, a1, a2, z, a3, a4⟩
        · exact .inl ⟨by show put s.l (h e) e w = _; rw [put_ne hw2]; exact a1, a2⟩
        · obtain ⟨z', b1, b2⟩ := grow _ _ a3
          exact .inr ⟨f, hf, by show put s.l (h e) e w = _; rw [put_ne hw2]; exact a1, a2, z', b1, by omega⟩
    · by_cases hw2 : w = h e
      · subst hw2; exact ⟨x + p e, put_same⟩
      · have hf' : s.l w = some f := by rw [← put_ne (f := s.l) (x := e) hw2]; exact hf
        obtain ⟨y, hy⟩ := j.lnb w f hf'
        exact ⟨y, by show put s.b (h e) (x + p e) w = _; rw [put_ne hw2]; exact hy⟩
    · rcases vals w y hy with ⟨rfl, rfl⟩ | ⟨hw2, hy⟩
      · obtain ⟨d, hd⟩ := tdep
        exact ⟨d + 1, .step (e := e) put_same hd⟩
      · obtain ⟨d, hd⟩ := j.dep w y hy
        exact any w d hd
theorem Jv.pass {es : List ε} {pi : N → Int} {b0 : N → Option Int} (hpi : ∀ e ∈ es, p e ≤ pi (h e) - pi (t e)) : ∀ (r : List ε), (∀ e ∈ r, e ∈ es) → ∀ {s : RS N ε}, Jv t h p es pi b0 s → Jv t h p es pi b0 (Ws.pass t h p r s) := by
  intro r
  induction r with
  | nil => intro _ s j; exact j
  | cons e r ih =>
    intro hr s j
    exact ih (fun e he => hr e (List.mem_cons_of_mem _ he)) (j.rx hpi (hr e List.mem_cons_self))

/-! ### the passes come to an end -/
/-- m passes to go -/
def Fin (t h : ε → N) (p : ε → Int) (es : List ε) : Nat → RS N ε → Prop
  | 0, s => s.imp = false
  | m + 1, s => s.imp = true ∧ Fin t h p es m (pass t h p es (fresh s))

def gap (pi : N → Int) (b : N → Option Int) (v : N) : Nat := match b v with | none => 0 | some y => (pi v - y).toNat
def gaps (pi : N → Int) (b : N → Option Int) : List N → Nat
  | [] => 0
  | v :: r => gap pi b v + gaps pi b r
def nones (b : N → Option Int) : List N → Nat
  | [] => 0
  | v :: r => (if (b v).isNone then 1 else 0) + nones b r
theorem nones_le {a b : N → Option Int} (x : Le a b) : ∀ V : List N, nones b V ≤ nones a V
  | [] => Nat.le_refl _
  | v :: r => by
    have ih := nones_le x r
    unfold nones
    cases ea : a v with
    | none => cases b v <;> simp <;> omega
    | some y => obtain ⟨z, e, _⟩ := x v y ea; rw [e]; simp; omega
theorem nones_lt {a b : N → Option Int} (x : Le a b) {v : N} (ha : a v = none) (hb : b v ≠ none) : ∀ V : List N, v ∈ V → nones b V < nones a V
  | [], hv => nomatch hv
  | w :: r, hv => by
    unfold nones
    by_cases e : w = v
    · subst e
      have := nones_le x r
      rw [ha]
      cases hb' : b w with
      | none => exact absurd hb' hb
      | some z => simp; omega
    · have hv' : v ∈ r := (List.mem_cons.mp hv).resolve_left fun z => e z.symm
      have ih := nones_lt x ha hb r hv'
      cases ea : a w with
      | none => cases b w <;> simp <;> omega
      | some y => obtain ⟨z, e', _⟩ := x w y ea; rw [e']; simp; omega
theorem gaps_le {pi : N → Int} {a b : N → Option Int} (x : Le a b) : ∀ V : List N, nones b V = nones a V → gaps pi b V ≤ gaps pi a V
  | [], _ => Nat.le_refl _
  | v :: r, hn => by
    have h1 := nones_le x r
    unfold nones at hn
    unfold gaps gap
    cases ea : a v with
    | none =>
      cases eb : b v with
      | none =>
        rw [ea, eb] at hn
        have ih := gaps_le (pi := pi) x r (by simpa using hn)
        simp only
        omega
      | some z =>
        rw [ea, eb] at hn
        simp at hn
        omega
    | some y =>
      obtain ⟨z, e, hz⟩ := x v y ea
      rw [ea, e] at hn
      have ih := gaps_le (pi := pi) x r (by simpa using hn)
      rw [e]
      simp only
      omega
theorem gaps_lt {pi : N → Int} {a b : N → Option Int} (x : Le a b) {v : N} {y z : Int} (ha : a v = some y) (hb : b v = some z) (hyz : y < z) (hz : z ≤ pi v) :
    ∀ V : List N, v ∈ V → nones b V = nones a V → gaps pi b V < gaps pi a V
  | [], hv, _ => nomatch hv
  | w :: r, hv, hn => by
    have h1 := nones_le x r
    unfold nones at hn
    by_cases e : w = v
    · subst e
      rw [ha, hb] at hn
      have := gaps_le (pi := pi) x r (by simpa using hn)
      unfold gaps gap
      rw [ha, hb]
      simp only
      omega
    · have hv' : v ∈ r := (List.mem_cons.mp hv).resolve_left fun z => e z.symm
      unfold gaps gap
      cases ea : a w with
      | none =>
        cases eb : b w with
        | none =>
          rw [ea, eb] at hn
          have ih := gaps_lt x ha hb hyz hz r hv' (by simpa using hn)
          simp only
          omega
        | some q =>
          rw [ea, eb] at hn
          simp at hn
          omega
      | some q =>
        obtain ⟨q', e', hq⟩ := x w q ea
        rw [ea, e'] at hn
        have ih := gaps_lt x ha hb hyz hz r hv' (by simpa using hn)
        rw [e']
        simp only
        omega

/-- a pass that improves makes the pair (untold nodes, distances to the bounds) smaller -/
theorem pass_less {es : List ε} {pi : N → Int} {b0 : N → Option Int} (hpi : ∀ e ∈ es, p e ≤ pi (h e) - pi (t e)) {V : List N} (hV : ∀ e ∈ es, h e ∈ V) :
    ∀ (r : List ε), (∀ e ∈ r, e ∈ es) → ∀ {s : RS N ε}, Jv t h p es pi b0 s → s.imp = false → (Ws.pass t h p r s).imp = true →
      nones (Ws.pass t h p r s).b V < nones s.b V ∨ (nones (Ws.pass t h p r s).b V = nones s.b V ∧ gaps pi (Ws.pass t h p r s).b V < gaps pi s.b V) := by
  intro r
  induction r with
  | nil => intro _ s _ h0 h1; rw [show Ws.pass t h p [] s = s from rfl, h0] at h1; cases h1
  | cons e r ih =>
    intro hr s j h0 h1
    have he := hr e List.mem_cons_self
    have hr' : ∀ e ∈ r, e ∈ es := fun e he => hr e (List.mem_cons_of_mem _ he)
    rcases rx_cases (t := t) (h := h) (p := p) s e with q | ⟨x, hx, hw, q⟩
    · have e1 : Ws.pass t h p (e :: r) s = Ws.pass t h p r s := by
        show Ws.pass t h p r (Ws.rx t h p s e) = _
        rw [q]
      rw [e1] at h1 ⊢
      exact ih hr' j h0 h1
    · have e1 : Ws.pass t h p (e :: r) s = Ws.pass t h p r (Ws.rx t h p s e) := rfl
      have j1 := j.rx hpi he
      have j2 := Jv.pass hpi r hr' j1
      have l1 : Le s.b (Ws.rx t h p s e).b := rx_le s e
      have l2 : Le (Ws.rx t h p s e).b (Ws.pass t h p r (Ws.rx t h p s e)).b := pass_le r _
      have l3 := l1.trans l2
      have new : (Ws.rx t h p s e).b (h e) = some (x + p e) := by rw [q]; exact put_same
      obtain ⟨z, hz, hzl⟩ := l2 _ _ new
      rw [e1]
      cases ho : s.b (h e) with
      | none => exact .inl (nones_lt l3 ho (by rw [hz]; intro c; cases c) V (hV e he))
      | some y =>
        have hlt := worth_iff.mp hw y ho
        rcases Nat.lt_or_eq_of_le (nones_le l3 V) with c | c
        · exact .inl c
        · exact .inr ⟨c, gaps_lt l3 ho hz (by omega) (j2.le _ _ hz) V (hV e he) c⟩
theorem fin_ex {es : List ε} {pi : N → Int} {b0 : N → Option Int} (hpi : ∀ e ∈ es, p e ≤ pi (h e) - pi (t e)) {V : List N} (hV : ∀ e ∈ es, h e ∈ V) :
    ∀ (k g : Nat) (s : RS N ε), nones s.b V = k → gaps pi s.b V = g → Jv t h p es pi b0 s → ∃ m, Fin t h p es m s := by
  intro k
  induction k using Nat.strongRecOn with
  | ind k ihk =>
    intro g
    induction g using Nat.strongRecOn with
    | ind g ihg =>
      intro s hk hg j
      cases hi : s.imp with
      | false => exact ⟨0, hi⟩
      | true =>
        have jf : Jv t h p es pi b0 (fresh s) := j.imp
        have j' := Jv.pass hpi es (fun _ z => z) jf
        cases hp : (Ws.pass t h p es (fresh s)).imp with
        | false => exact ⟨1, hi, hp⟩
        | true =>
          rcases pass_less hpi hV es (fun _ z => z) jf rfl hp with c | ⟨c1, c2⟩
          · obtain ⟨m, hm⟩ := ihk _ (by rw [← hk]; exact c) _ _ rfl rfl j'
            exact ⟨m + 1, hi, hm⟩
          · obtain ⟨m, hm⟩ := ihg _ (by rw [← hg]; exact c2) _ (by rw [← hk]; exact c1) rfl j'
            exact ⟨m + 1, hi, hm⟩
end
end Ws
end
section
set_option autoImplicit false
/-! How many passes are enough. -/
namespace Ws
section
variable {N ε : Type} [DecidableEq N] {t h : ε → N} {p : ε → Int}

theorem Jv.runP {es : List ε} {pi : N → Int} {b0 : N → Option Int} (hpi : ∀ e ∈ es, p e ≤ pi (h e) - pi (t e)) {s : RS N ε} (j : Jv t h p es pi b0 s) : ∀ k, Jv t h p es pi b0 (Ws.runP t h p es k s)
  | 0 => j
  | k + 1 => Jv.pass hpi es (fun _ z => z) (Jv.imp (Jv.runP hpi j k))
theorem runP_le {es : List ε} (s : RS N ε) : ∀ k, Le s.b (runP t h p es k s).b
  | 0 => Le.refl _
  | k + 1 => (runP_le s k).trans (pass_le es (fresh (runP t h p es k s)))
/-- a fixed point bounds every state that lies below it -/
theorem rx_below {es : List ε} {B : N → Option Int} (hf : Fix t h p es B) {s : RS N ε} {e : ε} (he : e ∈ es) (hs : Le s.b B) : Le (rx t h p s e).b B := by
  rcases rx_cases (t := t) (h := h) (p := p) s e with q | ⟨x, hx, hw, q⟩
  · rw [q]; exact hs
  · rw [q]
    intro v y hv
    by_cases hv' : v = h e
    · subst hv'
      have hv : put s.b (h e) (x + p e) (h e) = some y := hv
      rw [put_same] at hv; cases hv
      obtain ⟨x', e1, h1⟩ := hs _ _ hx
      obtain ⟨z, e2, h2⟩ := hf e he x' e1
      exact ⟨z, e2, by omega⟩
    · have hv : put s.b (h e) (x + p e) v = some y := hv
      rw [put_ne hv'] at hv
      exact hs v y hv
theorem pass_below {es : List ε} {B : N → Option Int} (hf : Fix t h p es B) : ∀ (r : List ε), (∀ e ∈ r, e ∈ es) → ∀ {s : RS N ε}, Le s.b B → Le (pass t h p r s).b B := by
  intro r
  induction r with
  | nil => intro _ s hs; exact hs
  | cons e r ih =>
    intro hr s hs
    exact ih (fun e he => hr e (List.mem_cons_of_mem _ he)) (rx_below hf (hr e List.mem_cons_self) hs)
theorem runP_below {es : List ε} {B : N → Option Int} (hf : Fix t h p es B) {s : RS N ε} (hs : Le s.b B) : ∀ k, Le (runP t h p es k s).b B
  | 0 => hs
  | k + 1 => pass_below hf es (fun _ z => z) (runP_below hf hs k)
/-- at the end of the passes no edge improves -/
theorem Fin.done {es : List ε} : ∀ {m : Nat} {s : RS N ε}, Fin t h p es m s → (s.imp = false → Fix t h p es s.b) → ∃ k, Fix t h p es (runP t h p es k s).b
  | 0, s, hm, hf => ⟨0, hf hm⟩
  | m + 1, s, hm, hf => by
    obtain ⟨k, hk⟩ := Fin.done (m := m) hm.2 fun q => by
      have := fix_of_still (t := t) (h := h) (p := p) (es := es) (s := fresh s) q
      rw [pass_still es _ q]; exact this
    refine ⟨k + 1, ?_⟩
    have e : ∀ (j : Nat) (s : RS N ε), runP t h p es j (pass t h p es (fresh s)) = runP t h p es (j + 1) s := by
      intro j s
      induction j with
      | zero => rfl
      | succ j ih =>
        show pass t h p es (fresh (runP t h p es j (pass t h p es (fresh s)))) = pass t h p es (fresh (runP t h p es (j + 1) s))
        rw [ih]
    rw [← e]; exact hk

/-- a list without repetition within V is not longer than V -/
theorem nodup_le : ∀ {c V : List N}, c.Nodup → (∀ v ∈ c, v ∈ V) → c.length ≤ V.length
  | [], _, _, _ => Nat.zero_le _
  | v :: c, V, hn, hv => by
    have h1 := List.nodup_cons.mp hn
    have ih := nodup_le (V := V.erase v) h1.2 fun w hw => by
      have hne : w ≠ v := fun z => h1.1 (z ▸ hw)
      exact (List.mem_erase_of_ne hne).mpr (hv w (List.mem_cons_of_mem _ hw))
    have hl := List.length_erase_of_mem (hv v List.mem_cons_self)
    have hp : 0 < V.length := List.length_pos_of_mem (hv v List.mem_cons_self)
    simp only [List.length_cons]
    omega
/-- the nodes above one that hangs at depth d -/
theorem dp_chain {l : N → Option ε} {v : N} {d : Nat} (hd : Dp t l v d) : ∃ c : List N, c.length = d + 1 ∧ c.Nodup ∧ v ∈ c ∧ (∀ w ∈ c, ∃ k, k ≤ d ∧ Dp t l w k) ∧ (∀ w ∈ c, w = v ∨ ∃ u e, l u = some e ∧ w = t e ∧ u ∈ c) := by
  induction hd with
  | @base v hl => exact ⟨[v], rfl, by simp, by simp, fun w hw => ⟨0, Nat.le_refl _, by simp at hw; subst hw; exact .base hl⟩, fun w hw => .inl (by simpa using hw)⟩
  | @step v e d hl hd ih =>
    obtain ⟨c, h1, h2, h3, h4, h5⟩ := ih
    have hv : v ∉ c := fun hm => by
      obtain ⟨k, hk, q⟩ := h4 v hm
      have := (Dp.step hl hd).fn q
      omega
    refine ⟨v :: c, by simp [h1], List.nodup_cons.mpr ⟨hv, h2⟩, List.mem_cons_self, fun w hw => ?_, fun w hw => ?_⟩
    · rcases List.mem_cons.mp hw with rfl | hw
      · exact ⟨d + 1, Nat.le_refl _, .step hl hd⟩
      · obtain ⟨k, hk, q⟩ := h4 w hw
        exact ⟨k, by omega, q⟩
    · rcases List.mem_cons.mp hw with rfl | hw
      · exact .inl rfl
      · rcases h5 w hw with rfl | ⟨u, f, a1, a2, a3⟩
        · exact .inr ⟨v, e, hl, rfl, List.mem_cons_self⟩
        · exact .inr ⟨u, f, a1, a2, List.mem_cons_of_mem _ a3⟩

/-- after as many passes as nodes but one, no edge improves -/
theorem enough {es : List ε} {pi : N → Int} {b0 : N → Option Int} (hpi : ∀ e ∈ es, p e ≤ pi (h e) - pi (t e)) (h0 : ∀ v y, b0 v = some y → y ≤ pi v)
    {V : List N} (hV : ∀ e ∈ es, h e ∈ V) (hb : ∀ v y, b0 v = some y → v ∈ V) {k : Nat} (hk : V.length ≤ k + 1) : Fix t h p es (runP t h p es k (⟨b0, fun _ => none, true⟩ : RS N ε)).b := by
  let s0 : RS N ε := ⟨b0, fun _ => none, true⟩
  have j0 : Jv t h p es pi b0 s0 := Jv.start h0
  obtain ⟨m, hm⟩ := fin_ex hpi hV _ _ s0 rfl rfl j0
  obtain ⟨K, hK⟩ := Fin.done hm fun z => by cases z
  have jK := j0.runP hpi K
  let sK := runP t h p es K s0
  have hle0 : Le s0.b sK.b := runP_le s0 K
  have inV : ∀ v y, sK.b v = some y → v ∈ V := fun v y hy => by
    rcases jK.par v y hy with ⟨_, q⟩ | ⟨e, he, _, q, _⟩
    · exact hb v y q
    · rw [← q]; exact hV e he
  -- what hangs at depth d is told right after d passes
  have told : ∀ d v y, Dp t sK.l v d → sK.b v = some y → ∃ z, (runP t h p es d s0).b v = some z ∧ y ≤ z := by
    intro d
    induction d with
    | zero =>
      intro v y hd hy
      cases hd with
      | base hl =>
        rcases jK.par v y hy with ⟨_, q⟩ | ⟨e, _, q, _⟩
        · exact ⟨y, q, Int.le_refl _⟩
        · rw [hl] at q; cases q
    | succ d ih =>
      intro v y hd hy
      cases hd with
      | @step _ e _ hl hd =>
        rcases jK.par v y hy with ⟨q, _⟩ | ⟨e', he, e1, e2, x, e3, e4⟩
        · rw [hl] at q; cases q
        · rw [hl] at e1; cases e1
          obtain ⟨z, a1, a2⟩ := ih _ _ hd e3
          obtain ⟨z', b1, b2⟩ := pass_ge (t := t) (h := h) (p := p) he (fresh (runP t h p es d s0)) (show (fresh (runP t h p es d s0)).b (t e) = some z from a1)
          rw [e2] at b1
          exact ⟨z', b1, by omega⟩
  have mono : ∀ a b : Nat, a ≤ b → Le (runP t h p es a s0).b (runP t h p es b s0).b := fun a b hab => by
    induction hab with
    | refl => exact Le.refl _
    | step _ ih => exact ih.trans (pass_le es (fresh _))
  have eq : (runP t h p es k s0).b = sK.b := by
    refine (runP_below hK hle0 k).antisymm fun v y hy => ?_
    obtain ⟨d, hd⟩ := jK.dep v y hy
    obtain ⟨c, c1, c2, c3, c4, c5⟩ := dp_chain hd
    have hc : ∀ w ∈ c, w ∈ V := fun w hw => by
      rcases c5 w hw with rfl | ⟨u, e, a1, a2, _⟩
      · exact inV w y hy
      · obtain ⟨yu, hyu⟩ := jK.lnb u e a1
        rcases jK.par u yu hyu with ⟨q, _⟩ | ⟨e', he', q1, q2, x, q3, _⟩
        · rw [a1] at q; cases q
        · rw [a1] at q1; cases q1
          rw [a2]; exact inV _ _ q3
    have hl := nodup_le c2 hc
    obtain ⟨z, a1, a2⟩ := told d v y hd hy
    obtain ⟨z', b1, b2⟩ := mono d k (by omega) _ _ a1
    exact ⟨z', b1, by omega⟩
  show Fix t h p es (runP t h p es k s0).b
  rw [eq]
  exact hK
end
end Ws
end
section
set_option autoImplicit false
/-! Amounts that flow along lines. -/
namespace Ws
/-! ### sums -/
def sumN : Nat → (Nat → Int) → Int
  | 0, _ => 0
  | n + 1, f => sumN n f + f n
theorem sumN_congr {n : Nat} {f g : Nat → Int} (h : ∀ i, i < n → f i = g i) : sumN n f = sumN n g := by
  induction n with
  | zero => rfl
  | succ n ih => show sumN n f + f n = sumN n g + g n; rw [ih fun i hi => h i (by omega), h n (by omega)]
theorem sumN_add (n : Nat) (f g : Nat → Int) : sumN n (fun i => f i + g i) = sumN n f + sumN n g := by
  induction n with
  | zero => rfl
  | succ n ih => show sumN n (fun i => f i + g i) + (f n + g n) = sumN n f + f n + (sumN n g + g n); rw [ih]; omega
theorem sumN_le {n : Nat} {f g : Nat → Int} (h : ∀ i, i < n → f i ≤ g i) : sumN n f ≤ sumN n g := by
  induction n with
  | zero => exact Int.le_refl _
  | succ n ih =>
    have h1 := ih fun i hi => h i (by omega)
    have h2 := h n (by omega)
    show sumN n f + f n ≤ sumN n g + g n
    omega
theorem sumN_zero {n : Nat} {f : Nat → Int} (h : ∀ i, i < n → f i = 0) : sumN n f = 0 := by
  induction n with
  | zero => rfl
  | succ n ih => show sumN n f + f n = 0; rw [ih fun i hi => h i (by omega), h n (by omega)]; rfl
theorem sumN_nonneg {n : Nat} {f : Nat → Int} (h : ∀ i, i < n → 0 ≤ f i) : 0 ≤ sumN n f := by
  have := sumN_le (f := fun _ => 0) h
  rwa [sumN_zero (f := fun _ => 0) fun _ _ => rfl] at this
theorem sumN_pos {n : Nat} {f : Nat → Int} (h : ∀ i, i < n → 0 ≤ f i) {k : Nat} (hk : k < n) (hp : 0 < f k) : 0 < sumN n f := by
  induction n with
  | zero => omega
  | succ n ih =>
    show 0 < sumN n f + f n
    by_cases e : k = n
    · subst e
      have := sumN_nonneg (n := k) fun i hi => h i (by omega)
      omega
    · have h1 := ih (fun i hi => h i (by omega)) (by omega)
      have h2 := h n (by omega)
      omega
theorem sumN_point {n : Nat} {f a : Nat → Int} {k : Nat} (hk : k < n) (x : Int) : sumN n (fun i => f i * (if i = k then a i + x else a i)) = sumN n (fun i => f i * a i) + f k * x := by
  have e : ∀ i, f i * (if i = k then a i + x else a i) = f i * a i + (if i = k then f i * x else 0) := fun i => by
    by_cases e : i = k
    · rw [if_pos e, if_pos e, Int.mul_add]
    · rw [if_neg e, if_neg e]; omega
  rw [sumN_congr fun i _ => e i, sumN_add]
  have : ∀ m, sumN m (fun i => if i = k then f i * x else 0) = if k < m then f k * x else 0 := by
    intro m
    induction m with
    | zero => rfl
    | succ m ih =>
      show sumN m _ + (if m = k then f m * x else 0) = _
      rw [ih]
      by_cases e : m = k
      · subst e; rw [if_neg (by omega), if_pos rfl, if_pos (by omega)]; omega
      · rw [if_neg e]
        by_cases q : k < m
        · rw [if_pos q, if_pos (by omega)]; omega
        · rw [if_neg q, if_neg (by omega)]; rfl
  rw [this, if_pos hk]

section
variable {S : Type} [DecidableEq S]
/-- n lines: from, to, the most (none: no bound), the profit -/
structure Net (S : Type) where
  n : Nat
  t : Nat → Option S
  h : Nat → Option S
  m : Nat → Option Int
  p : Nat → Int
/-- a way in which a line's amount can change: up, down -/
abbrev Eg := Nat × Bool
def sg (e : Eg) : Int := if e.2 = true then 1 else -1
def Net.et (G : Net S) (e : Eg) : Option S := if e.2 = true then G.t e.1 else G.h e.1
def Net.eh (G : Net S) (e : Eg) : Option S := if e.2 = true then G.h e.1 else G.t e.1
def Net.ep (G : Net S) (e : Eg) : Int := if e.2 = true then G.p e.1 else -(G.p e.1)
def Net.room (G : Net S) (a : Nat → Int) (e : Eg) : Option Int := if e.2 = true then (G.m e.1).map (fun m => m - a e.1) else some (a e.1)
def Net.free (G : Net S) (a : Nat → Int) (e : Eg) : Bool := if e.2 = true then (match G.m e.1 with | none => true | some m => decide (a e.1 < m)) else decide (0 < a e.1)
def Net.out (G : Net S) (i : Nat) : Prop := ¬ (G.t i = none ∧ G.h i = none)
instance (G : Net S) (i : Nat) : Decidable (G.out i) := inferInstanceAs (Decidable (¬ _))
/-- all ways, in the program's order -/
def Net.sidesAt (G : Net S) (a : Nat → Int) (i : Nat) : List Eg := if G.out i then [(i, true), (i, false)].filter (G.free a) else []
def Net.sides (G : Net S) (a : Nat → Int) : List Eg := (List.range G.n).flatMap (G.sidesAt a)
/-- those that go on from the ground and do not take back what left or reached it -/
def Net.good (G : Net S) (e : Eg) : Bool := e.2 || (decide (G.et e ≠ none) && decide (G.eh e ≠ none))
def Net.pairs (G : Net S) (a : Nat → Int) : List Eg := (G.sides a).filter G.good
def Net.inner (G : Net S) (a : Nat → Int) : List Eg := (G.pairs a).filter fun e => decide (G.eh e ≠ none)

variable {G : Net S} {a : Nat → Int}
theorem mem_sides {e : Eg} : e ∈ G.sides a ↔ e.1 < G.n ∧ G.out e.1 ∧ G.free a e = true := by
  obtain ⟨i, u⟩ := e
  unfold Net.sides Net.sidesAt
  simp only [List.mem_flatMap, List.mem_range]
  constructor
  · rintro ⟨j, hj, hm⟩
    by_cases ho : G.out j
    · rw [if_pos ho] at hm
      obtain ⟨h1, h2⟩ := List.mem_filter.mp hm
      simp only [List.mem_cons, List.not_mem_nil, or_false, Prod.mk.injEq] at h1
      rcases h1 with ⟨rfl, rfl⟩ | ⟨rfl, rfl⟩ <;> exact ⟨hj, ho, h2⟩
    · rw [if_neg ho] at hm; cases hm
  · rintro ⟨hi, ho, hf⟩
    refine ⟨i, hi, ?_⟩
    rw [if_pos ho]
    exact List.mem_filter.mpr ⟨by cases u <;> simp, hf⟩
theorem mem_pairs {e : Eg} : e ∈ G.pairs a ↔ (e.1 < G.n ∧ G.out e.1 ∧ G.free a e = true) ∧ G.good e = true := by
  unfold Net.pairs
  rw [List.mem_filter, mem_sides]
theorem mem_inner {e : Eg} : e ∈ G.inner a ↔ ((e.1 < G.n ∧ G.out e.1 ∧ G.free a e = true) ∧ G.good e = true) ∧ G.eh e ≠ none := by
  unfold Net.inner
  rw [List.mem_filter, mem_pairs]
  simp

/-! ### potentials: the ground as a start (0) and as an end (T) -/
def tl (φ : S → Int) : Option S → Int
  | none => 0
  | some s => φ s
def hd (φ : S → Int) (T : Int) : Option S → Int
  | none => T
  | some s => φ s
structure Pot (G : Net S) (a : Nat → Int) (φ : S → Int) (T : Int) : Prop where
  T0 : 0 ≤ T
  fwd : ∀ i, i < G.n → G.out i → G.free a (i, true) = true → G.p i ≤ hd φ T (G.h i) - tl φ (G.t i)
  bwd : ∀ i, i < G.n → G.out i → G.free a (i, false) = true → hd φ T (G.h i) - tl φ (G.t i) ≤ G.p i

def ind (o : Option S) (s : S) : Int := if o = some s then 1 else 0
def Net.net (G : Net S) (a : Nat → Int) (s : S) : Int := sumN G.n fun i => (ind (G.h i) s - ind (G.t i) s) * a i
def Net.total (G : Net S) (a : Nat → Int) : Int := sumN G.n fun i => G.p i * a i
structure FInv (G : Net S) (a : Nat → Int) : Prop where
  nn : ∀ i, i < G.n → 0 ≤ a i
  cap : ∀ i, i < G.n → ∀ m, G.m i = some m → a i ≤ m
  cons : ∀ s, G.net a s = 0
  gnd : ∀ i, i < G.n → ¬ G.out i → a i = 0
  pot : ∃ φ T, Pot G a φ T
  le : ∀ i, i < G.n → a i ≤ G.total a

/-- the totals from the ground -/
def src : Option S → Option Int := fun v => if v = none then some 0 else none
theorem pot_inner {φ : S → Int} {T : Int} (P : Pot G a φ T) : ∀ e ∈ G.inner a, G.ep e ≤ tl φ (G.eh e) - tl φ (G.et e) := fun e he => by
  obtain ⟨⟨⟨h1, h2, h3⟩, h4⟩, h5⟩ := mem_inner.mp he
  obtain ⟨i, u⟩ := e
  cases u with
  | true =>
    have h6 : G.p i ≤ hd φ T (G.h i) - tl φ (G.t i) := P.fwd i h1 h2 h3
    have h5' : G.h i ≠ none := h5
    show G.p i ≤ tl φ (G.h i) - tl φ (G.t i)
    cases e1 : G.h i with
    | none => exact absurd e1 h5'
    | some s => rw [e1] at h6; exact h6
  | false =>
    have h6 := P.bwd i h1 h2 h3
    have h7 : G.h i ≠ none ∧ G.t i ≠ none := by
      have : (false || (decide (G.et (i, false) ≠ none) && decide (G.eh (i, false) ≠ none))) = true := h4
      simpa [Net.et, Net.eh] using this
    show -(G.p i) ≤ tl φ (G.t i) - tl φ (G.h i)
    cases e1 : G.h i with
    | none => exact absurd e1 h7.1
    | some s =>
      rw [e1] at h6
      have : hd φ T (some s) = tl φ (some s) := rfl
      omega
theorem src_le {φ : S → Int} : ∀ v y, src v = some y → y ≤ tl φ v := fun v y hy => by
  unfold src at hy
  cases v with
  | none => simp at hy; subst hy; exact Int.le_refl _
  | some s => simp at hy
/-- o, but at least z -/
def atLeast (o : Option Int) (z : Int) : Int := match o with | none => z | some x => if z ≤ x then x else z
theorem atLeast_ge (o : Option Int) (z : Int) : z ≤ atLeast o z := by
  unfold atLeast; split
  · exact Int.le_refl _
  · split <;> omega
theorem atLeast_get {x z : Int} : x ≤ atLeast (some x) z := by
  show x ≤ if z ≤ x then x else z
  split <;> omega
theorem atLeast_or (o : Option Int) (z : Int) : atLeast o z = z ∨ o = some (atLeast o z) := by
  unfold atLeast; split
  · exact .inl rfl
  · split
    · exact .inr rfl
    · exact .inl rfl
/-- new potentials, out of the greatest totals b -/
theorem Pot.next {φ : S → Int} {T D : Int} {b : Option S → Option Int} (P : Pot G a φ T) (hle : ∀ v y, b v = some y → y ≤ tl φ v) (h0 : b none = some 0) (hf : Fix G.et G.eh G.ep (G.inner a) b)
    (hD : 0 ≤ D) (hDT : D ≤ T) (hend : ∀ e ∈ G.pairs a, G.eh e = none → ∀ x, b (G.et e) = some x → x + G.ep e ≤ D) : Pot G a (fun s => atLeast (b (some s)) (φ s - (T - D))) D := by
  have tlv : ∀ v, tl (fun s => atLeast (b (some s)) (φ s - (T - D))) v = atLeast (b v) (tl φ v - (T - D)) := fun v => by
    cases v with
    | none =>
      show (0 : Int) = atLeast (b none) (0 - (T - D))
      rw [h0]
      show (0 : Int) = if 0 - (T - D) ≤ 0 then 0 else 0 - (T - D)
      rw [if_pos (by omega)]
    | some s => rfl
  -- a step from u to v that brings x
  have step : ∀ u v (x : Int), x ≤ tl φ v - tl φ u → (∀ y, b u = some y → ∃ z, b v = some z ∧ y + x ≤ z) → x ≤ atLeast (b v) (tl φ v - (T - D)) - atLeast (b u) (tl φ u - (T - D)) := fun u v x h1 h2 => by
    rcases atLeast_or (b u) (tl φ u - (T - D)) with q | q
    · have := atLeast_ge (b v) (tl φ v - (T - D))
      omega
    · obtain ⟨z, e1, e2⟩ := h2 _ q
      have := atLeast_get (x := z) (z := tl φ v - (T - D))
      rw [e1]
      omega
  refine ⟨hD, fun i hi ho hfr => ?_, fun i hi ho hfr => ?_⟩
  · have old := P.fwd i hi ho hfr
    rw [tlv]
    cases e1 : G.h i with
    | none =>
      rw [e1] at old
      show G.p i ≤ D - _
      have hm : (i, true) ∈ G.pairs a := mem_pairs.mpr ⟨⟨hi, ho, hfr⟩, rfl⟩
      have old' : G.p i ≤ T - tl φ (G.t i) := old
      rcases atLeast_or (b (G.t i)) (tl φ (G.t i) - (T - D)) with q | q
      · omega
      · have hx : atLeast (b (G.t i)) (tl φ (G.t i) - (T - D)) + G.p i ≤ D := hend (i, true) hm e1 _ q
        omega
    | some s =>
      rw [e1] at old
      have hm : (i, true) ∈ G.inner a := mem_inner.mpr ⟨⟨⟨hi, ho, hfr⟩, rfl⟩, by show G.h i ≠ none; rw [e1]; intro z; cases z⟩
      have hh : hd (fun s => atLeast (b (some s)) (φ s - (T - D))) D (some s) = atLeast (b (some s)) (tl φ (some s) - (T - D)) := rfl
      rw [hh]
      refine step (G.t i) (some s) (G.p i) old fun y hy => ?_
      obtain ⟨z, z1, z2⟩ := hf (i, true) hm y hy
      have z1' : b (G.h i) = some z := z1
      rw [e1] at z1'
      exact ⟨z, z1', z2⟩
  · have old := P.bwd i hi ho hfr
    rw [tlv]
    cases e1 : G.h i with
    | none =>
      rw [e1] at old
      show D - _ ≤ G.p i
      have old' : T - tl φ (G.t i) ≤ G.p i := old
      have := atLeast_ge (b (G.t i)) (tl φ (G.t i) - (T - D))
      omega
    | some s =>
      rw [e1] at old
      have old' : φ s - tl φ (G.t i) ≤ G.p i := old
      show atLeast (b (some s)) (φ s - (T - D)) - _ ≤ G.p i
      cases e2 : G.t i with
      | none =>
        rw [e2] at old'
        have old'' : φ s - 0 ≤ G.p i := old'
        rw [h0]
        have e3 : atLeast (some 0) (tl φ none - (T - D)) = 0 := by
          show (if 0 - (T - D) ≤ (0 : Int) then (0 : Int) else 0 - (T - D)) = 0
          rw [if_pos (by omega)]
        rw [e3]
        rcases atLeast_or (b (some s)) (φ s - (T - D)) with q | q
        · omega
        · have := hle _ _ q
          have e4 : tl φ (some s) = φ s := rfl
          omega
      | some r =>
        rw [e2] at old'
        have hm : (i, false) ∈ G.inner a := mem_inner.mpr ⟨⟨⟨hi, ho, hfr⟩, by
          show (false || (decide (G.h i ≠ none) && decide (G.t i ≠ none))) = true
          rw [e1, e2]; simp⟩, by show G.t i ≠ none; rw [e2]; intro z; cases z⟩
        have := step (some s) (some r) (-(G.p i)) (by show -(G.p i) ≤ φ r - φ s; have : φ s - φ r ≤ G.p i := old'; omega) fun y hy => by
          obtain ⟨z, z1, z2⟩ := hf (i, false) hm y (by show b (G.h i) = some y; rw [e1]; exact hy)
          have z1' : b (G.t i) = some z := z1
          rw [e2] at z1'
          exact ⟨z, z1', z2⟩
        have e5 : tl φ (some s) = φ s := rfl
        rw [e5] at this
        omega
end
end Ws
end
section
set_option autoImplicit false
/-! A way is filled. -/
namespace Ws
section
variable {S : Type} [DecidableEq S] {G : Net S} {a : Nat → Int}

/-- a walk from u to v -/
def Wk (G : Net S) : Option S → Option S → List Eg → Prop
  | u, v, [] => u = v
  | u, v, e :: r => G.et e = u ∧ Wk G (G.eh e) v r
theorem Wk.snoc {u v : Option S} {e : Eg} : ∀ {w : List Eg}, Wk G u v w → ∀ {u' : Option S}, G.et e = v → Wk G u (G.eh e) (w ++ [e])
  | [], h, _, he => ⟨he.trans (show u = v from h).symm, rfl⟩
  | f :: r, h, u', he => ⟨h.1, Wk.snoc (w := r) h.2 (u' := u') he⟩
def wsum (f : Eg → Int) (w : List Eg) : Int := (w.map f).sum
theorem wsum_nil (f : Eg → Int) : wsum f [] = 0 := rfl
theorem wsum_cons (f : Eg → Int) (e : Eg) (w : List Eg) : wsum f (e :: w) = f e + wsum f w := by simp [wsum]
theorem wsum_snoc (f : Eg → Int) (e : Eg) (w : List Eg) : wsum f (w ++ [e]) = wsum f w + f e := by simp [wsum]
theorem Wk.tele {F : Option S → Int} : ∀ {w : List Eg} {u v : Option S}, Wk G u v w → wsum (fun e => F (G.eh e) - F (G.et e)) w = F v - F u
  | [], u, v, h => by cases (show u = v from h); rw [wsum_nil]; omega
  | e :: r, u, v, h => by
    rw [wsum_cons, Wk.tele (w := r) h.2, h.1]
    omega
theorem wsum_le {f g : Eg → Int} : ∀ {w : List Eg}, (∀ e ∈ w, f e ≤ g e) → wsum f w ≤ wsum g w
  | [], _ => Int.le_refl _
  | e :: r, h => by
    rw [wsum_cons, wsum_cons]
    have := wsum_le (w := r) fun e he => h e (List.mem_cons_of_mem _ he)
    have := h e List.mem_cons_self
    omega
/-- where the sums are one and each is at most the other, each is the other -/
theorem wsum_tight {f g : Eg → Int} : ∀ {w : List Eg}, (∀ e ∈ w, f e ≤ g e) → wsum g w ≤ wsum f w → ∀ e ∈ w, f e = g e
  | [], _, _, e, he => nomatch he
  | x :: r, h, hs, e, he => by
    rw [wsum_cons, wsum_cons] at hs
    have h1 := wsum_le (w := r) fun e he => h e (List.mem_cons_of_mem _ he)
    have h2 := h x List.mem_cons_self
    rcases List.mem_cons.mp he with rfl | he
    · omega
    · exact wsum_tight (fun e he => h e (List.mem_cons_of_mem _ he)) (by omega) e he

/-! ### the amounts behind -/
def add1 (a : Nat → Int) (r : Int) (e : Eg) : Nat → Int := fun i => if i = e.1 then a i + sg e * r else a i
def addW (a : Nat → Int) (r : Int) (w : List Eg) : Nat → Int := w.foldl (fun a e => add1 a r e) a
theorem addW_out {r : Int} {i : Nat} : ∀ {w : List Eg} {a : Nat → Int}, (∀ e ∈ w, e.1 ≠ i) → addW a r w i = a i
  | [], _, _ => rfl
  | e :: w, a, h => by
    show addW (add1 a r e) r w i = a i
    rw [addW_out fun f hf => h f (List.mem_cons_of_mem _ hf)]
    show (if i = e.1 then _ else _) = _
    rw [if_neg fun z => h e List.mem_cons_self z.symm]
theorem addW_in {r : Int} : ∀ {w : List Eg} {a : Nat → Int}, (w.map (·.1)).Nodup → ∀ e ∈ w, addW a r w e.1 = a e.1 + sg e * r
  | [], _, _, e, he => nomatch he
  | f :: w, a, hn, e, he => by
    have hn' := List.nodup_cons.mp (show (f.1 :: w.map (·.1)).Nodup from hn)
    show addW (add1 a r f) r w e.1 = _
    rcases List.mem_cons.mp he with rfl | he
    · rw [addW_out (i := e.1) (w := w) fun g hg z => hn'.1 (by rw [← z]; exact List.mem_map_of_mem (f := fun x : Eg => x.1) hg)]
      show (if e.1 = e.1 then _ else _) = _
      rw [if_pos rfl]
    · rw [addW_in hn'.2 e he]
      show (if e.1 = f.1 then _ else _) + _ = _
      rw [if_neg fun (z : e.1 = f.1) => hn'.1 (by rw [← z]; exact List.mem_map_of_mem (f := fun x : Eg => x.1) he)]
theorem addW_sum {r : Int} {n : Nat} (f : Nat → Int) : ∀ {w : List Eg} {a : Nat → Int}, (∀ e ∈ w, e.1 < n) → sumN n (fun i => f i * addW a r w i) = sumN n (fun i => f i * a i) + wsum (fun e => f e.1 * sg e) w * r
  | [], a, _ => by rw [wsum_nil]; show sumN n (fun i => f i * a i) = _; omega
  | e :: w, a, h => by
    show sumN n (fun i => f i * addW (add1 a r e) r w i) = _
    rw [addW_sum f fun e he => h e (List.mem_cons_of_mem _ he), wsum_cons]
    have := sumN_point (n := n) (f := f) (a := a) (h e List.mem_cons_self) (sg e * r)
    show sumN n (fun i => f i * (if i = e.1 then a i + sg e * r else a i)) + _ = _
    rw [this, Int.add_mul, Int.mul_assoc]
    omega

/-! ### the way that is found -/
/-- the edges that lead to v -/
inductive Ch (G : Net S) (l : Option S → Option Eg) : Option S → List Eg → Prop
  | nil {v : Option S} : l v = none → Ch G l v []
  | snoc {v : Option S} {e : Eg} {c : List Eg} : l v = some e → Ch G l (G.et e) c → Ch G l v (c ++ [e])
theorem ch_of_dp {l : Option S → Option Eg} {v : Option S} {d : Nat} (h : Dp G.et l v d) : ∃ c, Ch G l v c ∧ c.length = d := by
  induction h with
  | base e => exact ⟨[], .nil e, rfl⟩
  | @step v e d hl _ ih =>
    obtain ⟨c, hc, hl'⟩ := ih
    exact ⟨c ++ [e], .snoc hl hc, by simp [hl']⟩
theorem Ch.dp {l : Option S → Option Eg} {v : Option S} {c : List Eg} (h : Ch G l v c) : Dp G.et l v c.length := by
  induction h with
  | nil e => exact .base e
  | @snoc v e c hl _ ih =>
    rw [List.length_append]
    exact .step hl ih

structure Found (G : Net S) (a : Nat → Int) (b : Option S → Option Int) (l : Option S → Option Eg) : Prop where
  ch : ∃ (φ : S → Int) (T : Int) (i : Bool), Pot G a φ T ∧ Jv G.et G.eh G.ep (G.inner a) (tl φ) src ⟨b, l, i⟩
  fix : Fix G.et G.eh G.ep (G.inner a) b
theorem Found.zero {b : Option S → Option Int} {l : Option S → Option Eg} (f : Found G a b l) : b none = some 0 := by
  obtain ⟨⟨φ, T, i, P, j⟩, _⟩ := f
  obtain ⟨z, e, hz⟩ := j.ini none 0 rfl
  have := j.le none z e
  have h1 : z ≤ 0 := this
  rw [show z = 0 by omega] at e
  exact e
theorem Found.tree {b : Option S → Option Int} {l : Option S → Option Eg} (f : Found G a b l) {v : Option S} {c : List Eg} (hc : Ch G l v c) :
    ∀ {y : Int}, b v = some y → Wk G none v c ∧ (∀ e ∈ c, e ∈ G.inner a ∧ l (G.eh e) = some e ∧ ∃ k, k < c.length ∧ Dp G.et l (G.et e) k) ∧ wsum G.ep c = y := by
  obtain ⟨⟨φ, T, i, P, j⟩, fx⟩ := id f
  induction hc with
  | @nil v hl =>
    intro y hy
    rcases j.par v y hy with ⟨_, q⟩ | ⟨e, _, q, _⟩
    · have hv : v = none ∧ y = 0 := by
        unfold src at q
        cases v with
        | none => simp at q; exact ⟨rfl, q.symm⟩
        | some s => simp at q
      obtain ⟨rfl, rfl⟩ := hv
      exact ⟨rfl, (fun e he => by cases he), rfl⟩
    · have q' : l v = some e := q
      rw [hl] at q'; cases q'
  | @snoc v e c hl hc ih =>
    intro y hy
    rcases j.par v y hy with ⟨q, _⟩ | ⟨e', he, e1, e2, x, e3, e4⟩
    · have q' : l v = none := q
      rw [hl] at q'; cases q'
    · have e1' : l v = some e' := e1
      rw [hl] at e1'; cases e1'
      obtain ⟨i1, i2, i3⟩ := ih e3
      obtain ⟨z, z1, z2⟩ := fx e he x e3
      have z1' : b v = some z := by rw [← e2]; exact z1
      have z1'' : some y = some z := by rw [← z1']; exact hy.symm
      cases z1''
      refine ⟨by rw [← e2]; exact i1.snoc (u' := none) rfl, fun g hg => ?_, ?_⟩
      · rcases List.mem_append.mp hg with hg | hg
        · obtain ⟨q1, q2, k, q3, q4⟩ := i2 g hg
          exact ⟨q1, q2, k, by rw [List.length_append]; simp; omega, q4⟩
        · simp at hg; subst hg
          exact ⟨he, by rw [e2]; exact hl, c.length, by simp, hc.dp⟩
      · rw [wsum_snoc, i3]; omega
/-- its lines are different ones -/
theorem Found.apart {b : Option S → Option Int} {l : Option S → Option Eg} (f : Found G a b l) {v : Option S} {c : List Eg} (hc : Ch G l v c) : ∀ {y : Int}, b v = some y → (c.map (·.1)).Nodup := by
  induction hc with
  | nil _ => intro y _; exact List.nodup_nil
  | @snoc v e c hl hc ih =>
    intro y hy
    obtain ⟨_, t2, _⟩ := f.tree (.snoc hl hc) hy
    obtain ⟨he, hle, _⟩ := t2 e (by simp)
    obtain ⟨⟨φ, T, i, P, j⟩, fx⟩ := id f
    have hb : ∃ x, b (G.et e) = some x := by
      rcases j.par v y hy with ⟨q, _⟩ | ⟨e', _, e1, _, x, e3, _⟩
      · have q' : l v = none := q
        rw [hl] at q'; cases q'
      · have e1' : l v = some e' := e1
        rw [hl] at e1'; cases e1'
        exact ⟨x, e3⟩
    obtain ⟨x, hx⟩ := hb
    obtain ⟨_, s2, _⟩ := f.tree hc hx
    rw [List.map_append, List.nodup_append]
    refine ⟨ih hx, by simp, fun i hi i' hi' => ?_⟩
    simp at hi'
    subst hi'
    obtain ⟨g, hg, rfl⟩ := List.mem_map.mp hi
    intro hge
    obtain ⟨_, hlg, k, hk, hkd⟩ := s2 g hg
    -- the same line: the same edge, or the opposite one
    have dg : Dp G.et l (G.eh g) (k + 1) := .step hlg hkd
    have de : Dp G.et l (G.eh e) (c.length + 1) := .step hle hc.dp
    have hk' : k ≠ c.length := by omega
    obtain ⟨j1, u1⟩ := g
    obtain ⟨j2, u2⟩ := e
    have hge : j1 = j2 := hge
    subst hge
    by_cases hu : u1 = u2
    · subst hu
      have := dg.fn de
      omega
    · have e1 : G.eh (j1, u1) = G.et (j1, u2) := by cases u1 <;> cases u2 <;> first | exact absurd rfl hu | rfl
      have e2 : G.et (j1, u1) = G.eh (j1, u2) := by cases u1 <;> cases u2 <;> first | exact absurd rfl hu | rfl
      rw [e1] at dg
      have h1 := dg.fn hc.dp
      rw [e2] at hkd
      have h2 := hkd.fn de
      omega

/-- numbers that keep all rules: differences to the old ones -/
structure Sol (G : Net S) (d : S → Int) : Prop where
  rule : ∀ i, i < G.n → G.m i = none → G.p i ≤ tl d (G.h i) - tl d (G.t i)
  spare : ∀ i, i < G.n → ∀ m, G.m i = some m → G.p i = 0
/-- what is written of a way -/
structure Way (G : Net S) (a : Nat → Int) (w : List Eg) (D : Int) (ψ : S → Int) : Prop where
  walk : Wk G none none w
  mem : ∀ e ∈ w, e ∈ G.pairs a
  apart : (w.map (·.1)).Nodup
  sum : wsum G.ep w = D
  pos : 0 < D
  pot : Pot G a ψ D
  ends : ∀ e ∈ w, G.ep e ≤ hd ψ D (G.eh e) - tl ψ (G.et e)
  tele : wsum (fun e => hd ψ D (G.eh e) - tl ψ (G.et e)) w = D
/-- the last pair of the best way -/
structure Last (G : Net S) (a : Nat → Int) (b : Option S → Option Int) (f : Eg) (D : Int) : Prop where
  mem : f ∈ G.pairs a
  ground : G.eh f = none
  from' : ∃ x, b (G.et f) = some x ∧ D = x + G.ep f
  pos : 0 < D
  best : ∀ e ∈ G.pairs a, G.eh e = none → ∀ x, b (G.et e) = some x → x + G.ep e ≤ D
theorem Found.way {b : Option S → Option Int} {l : Option S → Option Eg} (f : Found G a b l) {e : Eg} {D : Int} (L : Last G a b e D) {c : List Eg} (hc : Ch G l (G.et e) c) : ∃ ψ, Way G a (c ++ [e]) D ψ := by
  obtain ⟨⟨φ, T, i, P, j⟩, fx⟩ := id f
  obtain ⟨x, hx, hD⟩ := L.from'
  obtain ⟨t1, t2, t3⟩ := f.tree hc hx
  have hap := f.apart hc hx
  obtain ⟨⟨h1, h2, h3⟩, h4⟩ := mem_pairs.mp L.mem
  obtain ⟨je, ue⟩ := e
  have hue : ue = true := by
    cases ue with
    | true => rfl
    | false =>
      have : (false || (decide (G.et (je, false) ≠ none) && decide (G.eh (je, false) ≠ none))) = true := h4
      simp [L.ground] at this
  subst hue
  have hh : G.h je = none := L.ground
  have hT : D ≤ T := by
    have q1 := P.fwd je h1 h2 h3
    have q2 := j.le _ _ hx
    rw [hh] at q1
    have q3 : G.p je ≤ T - tl φ (G.t je) := q1
    have q4 : x ≤ tl φ (G.t je) := q2
    have q5 : D = x + G.p je := hD
    omega
  have Pn := P.next (fun v y h => j.le v y h) f.zero fx (Int.le_of_lt L.pos) hT L.best
  have mem : ∀ g ∈ c ++ [(je, true)], g ∈ G.pairs a := fun g hg => by
    rcases List.mem_append.mp hg with hg | hg
    · exact (List.mem_filter.mp (t2 g hg).1).1
    · simp at hg; subst hg; exact L.mem
  have tail : (je, true) ∉ c ∧ ∀ g ∈ c, g.1 ≠ je := by
    have : ∀ g ∈ c, g.1 ≠ je := fun g hg hz => by
      obtain ⟨q1, _, _⟩ := t2 g hg
      obtain ⟨⟨_, q2⟩, q3⟩ := mem_inner.mp q1
      obtain ⟨jg, ug⟩ := g
      have hz : jg = je := hz
      subst hz
      cases ug with
      | true => exact q3 hh
      | false =>
        have : (false || (decide (G.h jg ≠ none) && decide (G.t jg ≠ none))) = true := q2
        simp [hh] at this
    exact ⟨fun hm => this _ hm rfl, this⟩
  have walk : Wk G none none (c ++ [(je, true)]) := by
    have := t1.snoc (e := (je, true)) (u' := none) rfl
    rw [L.ground] at this; exact this
  let ψ : S → Int := fun s => atLeast (b (some s)) (φ s - (T - D))
  -- hd and tl part only at the ground as an end
  have inn : ∀ g ∈ c, hd ψ D (G.eh g) = tl ψ (G.eh g) := fun g hg => by
    have := (mem_inner.mp (t2 g hg).1).2
    cases q : G.eh g with
    | none => exact absurd q this
    | some s => rfl
  refine ⟨ψ, walk, mem, ?_, by rw [wsum_snoc, t3]; exact hD.symm, L.pos, Pn, fun g hg => ?_, ?_⟩
  · rw [List.map_append, List.nodup_append]
    refine ⟨hap, by simp, fun i hi i' hi' => ?_⟩
    simp at hi'; subst hi'
    obtain ⟨g, hg, rfl⟩ := List.mem_map.mp hi
    exact tail.2 g hg
  · rcases List.mem_append.mp hg with hg | hg
    · rw [inn g hg]
      exact pot_inner Pn g (t2 g hg).1
    · simp at hg; subst hg
      exact Pn.fwd je h1 h2 h3
  · rw [wsum_snoc]
    have e1 : wsum (fun e => hd ψ D (G.eh e) - tl ψ (G.et e)) c = wsum (fun e => tl ψ (G.eh e) - tl ψ (G.et e)) c := by
      have : ∀ (c' : List Eg), (∀ g ∈ c', hd ψ D (G.eh g) = tl ψ (G.eh g)) → wsum (fun e => hd ψ D (G.eh e) - tl ψ (G.et e)) c' = wsum (fun e => tl ψ (G.eh e) - tl ψ (G.et e)) c' := by
        intro c'
        induction c' with
        | nil => intro _; rfl
        | cons g r ih =>
          intro h
          rw [wsum_cons, wsum_cons, ih fun g hg => h g (List.mem_cons_of_mem _ hg), h g List.mem_cons_self]
      exact this c inn
    rw [e1, Wk.tele t1]
    have e2 : G.eh (je, true) = none := L.ground
    rw [e2]
    show tl ψ (G.t je) - 0 + (D - tl ψ (G.t je)) = D
    omega

theorem sg_mul_ep {e : Eg} : G.p e.1 * sg e = G.ep e := by
  obtain ⟨i, u⟩ := e
  cases u
  · show G.p i * (-1) = -(G.p i); omega
  · show G.p i * 1 = G.p i; omega
theorem sg_mul_ind {e : Eg} (s : S) : (ind (G.h e.1) s - ind (G.t e.1) s) * sg e = ind (G.eh e) s - ind (G.et e) s := by
  obtain ⟨i, u⟩ := e
  cases u
  · show (ind (G.h i) s - ind (G.t i) s) * (-1) = ind (G.t i) s - ind (G.h i) s; omega
  · show (ind (G.h i) s - ind (G.t i) s) * 1 = ind (G.h i) s - ind (G.t i) s; omega
theorem wsum_congr {f g : Eg → Int} : ∀ {w : List Eg}, (∀ e ∈ w, f e = g e) → wsum f w = wsum g w
  | [], _ => rfl
  | e :: r, h => by rw [wsum_cons, wsum_cons, wsum_congr fun e he => h e (List.mem_cons_of_mem _ he), h e List.mem_cons_self]

/-- some way on it has a bound -/
theorem Way.bounded {w : List Eg} {D : Int} {ψ d : S → Int} (W : Way G a w D ψ) (hs : Sol G d) : ∃ e ∈ w, ∃ r, G.room a e = some r := by
  by_cases hx : ∃ e ∈ w, ∃ r, G.room a e = some r
  · exact hx
  · exfalso
    have all : ∀ e ∈ w, G.ep e ≤ tl d (G.eh e) - tl d (G.et e) := fun e he => by
      obtain ⟨⟨h1, _, _⟩, _⟩ := mem_pairs.mp (W.mem e he)
      obtain ⟨i, u⟩ := e
      cases u with
      | false => exact absurd ⟨(i, false), he, a i, rfl⟩ hx
      | true =>
        cases hm : G.m i with
        | some m => exact absurd ⟨(i, true), he, m - a i, by show (G.m i).map _ = _; rw [hm]; rfl⟩ hx
        | none => exact hs.rule i h1 hm
    have h1 := wsum_le all
    rw [W.walk.tele, W.sum] at h1
    have := W.pos
    omega
theorem room_pos {e : Eg} {r : Int} (hf : G.free a e = true) (hr : G.room a e = some r) : 1 ≤ r := by
  obtain ⟨i, u⟩ := e
  cases u with
  | false =>
    have h1 : decide (0 < a i) = true := hf
    have h2 : some (a i) = some r := hr
    cases h2
    simp at h1; omega
  | true =>
    have h2 : (G.m i).map (fun m => m - a i) = some r := hr
    cases hm : G.m i with
    | none => rw [hm] at h2; cases h2
    | some m =>
      rw [hm] at h2
      have h3 : m - a i = r := Option.some.inj h2
      have h1 : (match G.m i with | none => true | some m => decide (a i < m)) = true := hf
      rw [hm] at h1
      simp at h1
      omega
/-- the amounts behind a filled way -/
theorem FInv.fill (I : FInv G a) {w : List Eg} {D r : Int} {ψ : S → Int} (W : Way G a w D ψ) (hr : 1 ≤ r) (hroom : ∀ e ∈ w, ∀ q, G.room a e = some q → r ≤ q) : FInv G (addW a r w) ∧ G.total (addW a r w) = G.total a + r * D := by
  have lt : ∀ e ∈ w, e.1 < G.n := fun e he => (mem_pairs.mp (W.mem e he)).1.1
  have tight := wsum_tight W.ends (by rw [W.tele, W.sum]; exact Int.le_refl _)
  have tot : G.total (addW a r w) = G.total a + r * D := by
    show sumN G.n (fun i => G.p i * addW a r w i) = _
    rw [addW_sum G.p lt, wsum_congr (g := G.ep) fun e _ => sg_mul_ep, W.sum, Int.mul_comm r D]
    rfl
  -- a line is on the way once, or not at all
  have val : ∀ i, addW a r w i = a i ∨ ∃ e ∈ w, e.1 = i ∧ addW a r w i = a i + sg e * r := fun i => by
    by_cases hx : ∃ e ∈ w, e.1 = i
    · obtain ⟨e, he, rfl⟩ := hx
      exact .inr ⟨e, he, rfl, addW_in W.apart e he⟩
    · exact .inl (addW_out fun e he z => hx ⟨e, he, z⟩)
  refine ⟨⟨fun i hi => ?_, fun i hi m hm => ?_, fun s => ?_, fun i hi ho => ?_, ⟨ψ, D, Int.le_of_lt W.pos, fun i hi ho hf => ?_, fun i hi ho hf => ?_⟩, fun i hi => ?_⟩, tot⟩
  · rcases val i with q | ⟨⟨j, u⟩, he, rfl, q⟩
    · rw [q]; exact I.nn i hi
    · rw [q]
      have h0 := I.nn j hi
      cases u with
      | true => show 0 ≤ a j + 1 * r; omega
      | false =>
        have : r ≤ a j := hroom _ he _ rfl
        show 0 ≤ a j + (-1) * r
        omega
  · rcases val i with q | ⟨⟨j, u⟩, he, rfl, q⟩
    · rw [q]; exact I.cap i hi m hm
    · rw [q]
      have h0 := I.cap j hi m hm
      cases u with
      | true =>
        have : r ≤ m - a j := hroom _ he _ (by show (G.m j).map _ = _; rw [hm]; rfl)
        show a j + 1 * r ≤ m
        omega
      | false => show a j + (-1) * r ≤ m; omega
  · show sumN G.n (fun i => (ind (G.h i) s - ind (G.t i) s) * addW a r w i) = 0
    rw [addW_sum (fun i => ind (G.h i) s - ind (G.t i) s) lt, wsum_congr (g := fun e => ind (G.eh e) s - ind (G.et e) s) fun e _ => sg_mul_ind s,
      Wk.tele (F := fun o => ind o s) W.walk]
    have := I.cons s
    have e : sumN G.n (fun i => (ind (G.h i) s - ind (G.t i) s) * a i) = 0 := this
    rw [e]
    simp
  · rcases val i with q | ⟨e, he, rfl, q⟩
    · rw [q]; exact I.gnd i hi ho
    · exact absurd (mem_pairs.mp (W.mem e he)).1.2.1 ho
  · rcases val i with q | ⟨⟨j, u⟩, he, rfl, q⟩
    · refine W.pot.fwd i hi ho ?_
      have : G.free (addW a r w) (i, true) = G.free a (i, true) := by
        show (match G.m i with | none => true | some m => decide (addW a r w i < m)) = (match G.m i with | none => true | some m => decide (a i < m))
        rw [q]
      rw [← this]; exact hf
    · have ht := tight _ he
      cases u with
      | true =>
        have ht' : G.p j = hd ψ D (G.h j) - tl ψ (G.t j) := ht
        exact Int.le_of_eq ht'
      | false =>
        have ht' : -(G.p j) = hd ψ D (G.t j) - tl ψ (G.h j) := ht
        have hg : (false || (decide (G.h j ≠ none) && decide (G.t j ≠ none))) = true := (mem_pairs.mp (W.mem _ he)).2
        show G.p j ≤ hd ψ D (G.h j) - tl ψ (G.t j)
        cases e1 : G.h j with
        | none => rw [e1] at hg; simp at hg
        | some s1 =>
          cases e2 : G.t j with
          | none => rw [e2] at hg; simp at hg
          | some s2 =>
            rw [e1, e2] at ht'
            have ht'' : -(G.p j) = ψ s2 - ψ s1 := ht'
            show G.p j ≤ ψ s1 - ψ s2
            omega
  · rcases val i with q | ⟨⟨j, u⟩, he, rfl, q⟩
    · refine W.pot.bwd i hi ho ?_
      have : G.free (addW a r w) (i, false) = G.free a (i, false) := by
        show decide (0 < addW a r w i) = decide (0 < a i)
        rw [q]
      rw [← this]; exact hf
    · have ht := tight _ he
      cases u with
      | true =>
        have ht' : G.p j = hd ψ D (G.h j) - tl ψ (G.t j) := ht
        exact Int.le_of_eq ht'.symm
      | false =>
        have ht' : -(G.p j) = hd ψ D (G.t j) - tl ψ (G.h j) := ht
        have hg : (false || (decide (G.h j ≠ none) && decide (G.t j ≠ none))) = true := (mem_pairs.mp (W.mem _ he)).2
        show hd ψ D (G.h j) - tl ψ (G.t j) ≤ G.p j
        cases e1 : G.h j with
        | none => rw [e1] at hg; simp at hg
        | some s1 =>
          cases e2 : G.t j with
          | none => rw [e2] at hg; simp at hg
          | some s2 =>
            rw [e1, e2] at ht'
            have ht'' : -(G.p j) = ψ s2 - ψ s1 := ht'
            show ψ s1 - ψ s2 ≤ G.p j
            omega
  · rw [tot]
    have h0 := I.le i hi
    have hrD : r ≤ r * D := by
      have := Int.mul_le_mul_of_nonneg_left (show 1 ≤ D by have := W.pos; omega) (show 0 ≤ r by omega)
      omega
    have hp := W.pos
    rcases val i with q | ⟨⟨j, u⟩, he, rfl, q⟩
    · rw [q]; omega
    · rw [q]
      cases u with
      | true => show a j + 1 * r ≤ G.total a + r * D; have h0 : a j ≤ G.total a := h0; omega
      | false => show a j + (-1) * r ≤ G.total a + r * D; have h0 : a j ≤ G.total a := h0; omega
end
end Ws
end
section
set_option autoImplicit false
/-! The start, the end, and what the end is worth. -/
namespace Ws
section
variable {S : Type} [DecidableEq S] {G : Net S} {a : Nat → Int}

/-- the lines that cost: from or to the ground, no profit -/
structure NetOk (G : Net S) (names : List S) : Prop where
  cap : ∀ i, i < G.n → ∀ m, G.m i = some m → 1 ≤ m
  spare : ∀ i, i < G.n → ∀ m, G.m i = some m → G.p i = 0 ∧ (G.t i = none ∨ G.h i = none)
  nd : names.Nodup
  ends : ∀ i, i < G.n → (∀ s, G.t i = some s → s ∈ names) ∧ (∀ s, G.h i = some s → s ∈ names)
theorem FInv.start {names : List S} (ok : NetOk G names) {d : S → Int} (hs : Sol G d) {c : Int} (hc : ∀ s, -c ≤ d s ∧ d s ≤ c) (hc0 : 0 ≤ c) : FInv G fun _ => 0 := by
  have tot : G.total (fun _ => 0) = 0 := sumN_zero fun i _ => by simp
  refine ⟨fun i _ => Int.le_refl _, fun i hi m hm => ?_, fun s => sumN_zero fun i _ => by simp, fun _ _ _ => rfl, ⟨fun s => d s + c, 2 * c, ⟨by omega, fun i hi ho hf => ?_, fun i hi ho hf => ?_⟩⟩, fun i _ => by rw [tot]; exact Int.le_refl _⟩
  · have := ok.cap i hi m hm; omega
  · have hout : ¬ (G.t i = none ∧ G.h i = none) := ho
    cases hm : G.m i with
    | none =>
      have h1 := hs.rule i hi hm
      cases e1 : G.t i with
      | none =>
        cases e2 : G.h i with
        | none => exact absurd ⟨e1, e2⟩ hout
        | some v =>
          rw [e1, e2] at h1
          have h1' : G.p i ≤ d v - 0 := h1
          show G.p i ≤ d v + c - 0
          omega
      | some u =>
        cases e2 : G.h i with
        | none =>
          rw [e1, e2] at h1
          have h1' : G.p i ≤ 0 - d u := h1
          show G.p i ≤ 2 * c - (d u + c)
          omega
        | some v =>
          rw [e1, e2] at h1
          have h1' : G.p i ≤ d v - d u := h1
          show G.p i ≤ d v + c - (d u + c)
          omega
    | some m =>
      obtain ⟨q1, q2⟩ := ok.spare i hi m hm
      rw [q1]
      cases e1 : G.t i with
      | none =>
        cases e2 : G.h i with
        | none => exact absurd ⟨e1, e2⟩ hout
        | some v =>
          have := hc v
          show 0 ≤ d v + c - 0
          omega
      | some u =>
        cases e2 : G.h i with
        | none =>
          have := hc u
          show 0 ≤ 2 * c - (d u + c)
          omega
        | some v =>
          rw [e1, e2] at q2
          rcases q2 with q | q <;> cases q
  · have : decide ((0 : Int) < 0) = true := hf
    simp at this

/-- a function of the ends, weighed with the amounts -/
theorem conserved {names : List S} (ok : NetOk G names) (I : FInv G a) (F : Option S → Int) (hF : F none = 0) : sumN G.n (fun i => (F (G.h i) - F (G.t i)) * a i) = 0 := by
  -- sums over the names
  have one : ∀ (l : List S), l.Nodup → ∀ o : Option S, (∀ s, o = some s → s ∈ l) → (l.map fun s => F (some s) * ind o s).sum = F o := by
    intro l
    induction l with
    | nil =>
      intro _ o ho
      cases o with
      | none => exact hF.symm
      | some s => cases ho s rfl
    | cons s l ih =>
      intro hn o ho
      obtain ⟨h1, h2⟩ := List.nodup_cons.mp hn
      rw [List.map_cons, List.sum_cons]
      have zero : ∀ (l : List S), (∀ s, s ∈ l → o ≠ some s) → (l.map fun s => F (some s) * ind o s).sum = 0 := by
        intro l
        induction l with
        | nil => intro _; rfl
        | cons r l ih =>
          intro h
          rw [List.map_cons, List.sum_cons, ih fun s hs => h s (List.mem_cons_of_mem _ hs)]
          have : ind o r = 0 := by unfold ind; rw [if_neg (h r List.mem_cons_self)]
          rw [this]; omega
      by_cases e : o = some s
      · subst e
        rw [zero l fun r hr z => h1 (by cases z; exact hr)]
        have : ind (some s) s = 1 := by unfold ind; rw [if_pos rfl]
        rw [this]; omega
      · have : ind o s = 0 := by unfold ind; rw [if_neg e]
        rw [this, ih h2 o fun r hr => (List.mem_cons.mp (ho r hr)).resolve_left fun z => e (by rw [hr, z])]
        omega
  have swap : ∀ (l : List S) (n : Nat), sumN n (fun i => (l.map fun s => F (some s) * (ind (G.h i) s - ind (G.t i) s)).sum * a i) = (l.map fun s => F (some s) * sumN n (fun i => (ind (G.h i) s - ind (G.t i) s) * a i)).sum := by
    intro l n
    induction l with
    | nil => exact sumN_zero fun i _ => by simp
    | cons s l ih =>
      rw [List.map_cons, List.sum_cons, ← ih]
      have : ∀ k, F (some s) * sumN k (fun i => (ind (G.h i) s - ind (G.t i) s) * a i) = sumN k fun i => F (some s) * ((ind (G.h i) s - ind (G.t i) s) * a i) := by
        intro k
        induction k with
        | zero => exact Int.mul_zero _
        | succ k ih2 =>
          show F (some s) * (sumN k (fun i => (ind (G.h i) s - ind (G.t i) s) * a i) + (ind (G.h k) s - ind (G.t k) s) * a k) = sumN k (fun i => F (some s) * ((ind (G.h i) s - ind (G.t i) s) * a i)) + F (some s) * ((ind (G.h k) s - ind (G.t k) s) * a k)
          rw [Int.mul_add, ih2]
      rw [this, ← sumN_add]
      refine sumN_congr fun i _ => ?_
      rw [List.map_cons, List.sum_cons, Int.add_mul, Int.mul_assoc]
  have e1 : ∀ i, i < G.n → (F (G.h i) - F (G.t i)) * a i = (names.map fun s => F (some s) * (ind (G.h i) s - ind (G.t i) s)).sum * a i := fun i hi => by
    obtain ⟨q1, q2⟩ := ok.ends i hi
    have : (names.map fun s => F (some s) * (ind (G.h i) s - ind (G.t i) s)).sum = (names.map fun s => F (some s) * ind (G.h i) s).sum - (names.map fun s => F (some s) * ind (G.t i) s).sum := by
      generalize names = l
      induction l with
      | nil => rfl
      | cons s l ih =>
        rw [List.map_cons, List.sum_cons, List.map_cons, List.sum_cons, List.map_cons, List.sum_cons, ih, Int.mul_sub]
        omega
    rw [this, one names ok.nd _ q2, one names ok.nd _ q1]
  rw [sumN_congr e1, swap]
  have : ∀ (l : List S), (l.map fun s => F (some s) * sumN G.n (fun i => (ind (G.h i) s - ind (G.t i) s) * a i)).sum = 0 := by
    intro l
    induction l with
    | nil => rfl
    | cons s l ih =>
      rw [List.map_cons, List.sum_cons, ih]
      have := I.cons s
      have e : sumN G.n (fun i => (ind (G.h i) s - ind (G.t i) s) * a i) = 0 := this
      rw [e]; omega
  exact this names

def pos (z : Int) : Int := if 0 ≤ z then z else 0
def Net.price (G : Net S) (d : S → Int) : Int := sumN G.n fun i => match G.m i with | none => 0 | some c => c * pos (tl d (G.t i) - tl d (G.h i))
/-- the amounts' total is at most each solution's price -/
theorem weak {names : List S} (ok : NetOk G names) (I : FInv G a) {d : S → Int} (hs : Sol G d) : G.total a ≤ G.price d := by
  have h0 := conserved ok I (tl d) rfl
  have h1 : G.total a ≤ sumN G.n (fun i => (tl d (G.h i) - tl d (G.t i)) * a i + (match G.m i with | none => 0 | some c => c * pos (tl d (G.t i) - tl d (G.h i)))) := by
    refine sumN_le fun i hi => ?_
    have hn := I.nn i hi
    cases hm : G.m i with
    | none =>
      have := Int.mul_le_mul_of_nonneg_right (hs.rule i hi hm) hn
      show G.p i * a i ≤ _ + 0
      omega
    | some c =>
      have hc := I.cap i hi c hm
      rw [(ok.spare i hi c hm).1]
      show 0 * a i ≤ (tl d (G.h i) - tl d (G.t i)) * a i + c * pos (tl d (G.t i) - tl d (G.h i))
      generalize tl d (G.h i) = x
      generalize tl d (G.t i) = y
      have e : (x - y) * a i = -((y - x) * a i) := by rw [← Int.neg_mul]; congr 1; omega
      rw [e]
      unfold pos
      by_cases q : 0 ≤ y - x
      · rw [if_pos q]
        have := Int.mul_le_mul_of_nonneg_left hc q
        rw [Int.mul_comm c (y - x)]
        omega
      · rw [if_neg q]
        have : (y - x) * a i ≤ 0 := Int.mul_nonpos_of_nonpos_of_nonneg (by omega) hn
        omega
  rw [sumN_add, h0] at h1
  show G.total a ≤ sumN G.n _
  omega

/-- no way brings a profit any more -/
theorem Found.over {b : Option S → Option Int} {l : Option S → Option Eg} (f : Found G a b l) (hend : ∀ e ∈ G.pairs a, G.eh e = none → ∀ x, b (G.et e) = some x → x + G.ep e ≤ 0) : ∃ ψ, Pot G a ψ 0 := by
  obtain ⟨⟨φ, T, i, P, j⟩, fx⟩ := id f
  exact ⟨_, P.next (fun v y h => j.le v y h) f.zero fx (Int.le_refl _) P.T0 hend⟩
theorem pot_sides {ψ : S → Int} (P : Pot G a ψ 0) : ∀ e ∈ G.sides a, G.ep e ≤ tl ψ (G.eh e) - tl ψ (G.et e) := fun e he => by
  obtain ⟨h1, h2, h3⟩ := mem_sides.mp he
  have eq : ∀ o : Option S, hd ψ 0 o = tl ψ o := fun o => by cases o <;> rfl
  obtain ⟨i, u⟩ := e
  cases u with
  | true =>
    have := P.fwd i h1 h2 h3
    rw [eq] at this
    exact this
  | false =>
    have := P.bwd i h1 h2 h3
    rw [eq] at this
    show -(G.p i) ≤ tl ψ (G.t i) - tl ψ (G.h i)
    omega

/-- the totals from the ground, when no edge improves -/
structure Told (G : Net S) (a : Nat → Int) (B : Option S → Option Int) : Prop where
  fix : Fix G.et G.eh G.ep (G.sides a) B
  zero : B none = some 0
theorem told_of {ψ : S → Int} (P : Pot G a ψ 0) {names : List S} (ok : NetOk G names) {k : Nat} (hk : names.length ≤ k) : Told G a (runP G.et G.eh G.ep (G.sides a) k ⟨src, fun _ => none, true⟩).b := by
  have hpi := pot_sides P
  refine ⟨enough (pi := tl ψ) hpi src_le (V := none :: names.map some) (fun e he => ?_) (fun v y hv => ?_) (by simp; exact hk), ?_⟩
  · obtain ⟨h1, _, _⟩ := mem_sides.mp he
    obtain ⟨q1, q2⟩ := ok.ends e.1 h1
    cases q : G.eh e with
    | none => exact List.mem_cons_self
    | some s =>
      refine List.mem_cons_of_mem _ (List.mem_map_of_mem ?_)
      obtain ⟨i, u⟩ := e
      cases u with
      | true => exact q2 s q
      | false => exact q1 s q
  · unfold src at hv
    cases v with
    | none => exact List.mem_cons_self
    | some s => simp at hv
  · have j : Jv G.et G.eh G.ep (G.sides a) (tl ψ) src (⟨src, fun _ => none, true⟩ : RS (Option S) Eg) := Jv.start src_le
    have j' := j.runP hpi k
    obtain ⟨z, e, hz⟩ := j'.ini none 0 rfl
    have h1 : z ≤ 0 := j'.le none z e
    rw [show z = 0 by omega] at e
    exact e
/-- each setting with a line from the ground is told -/
theorem Told.reach {names : List S} (ok : NetOk G names) (I : FInv G a) {B : Option S → Option Int} (t : Told G a B) {s : S} {k : Nat} (hk : k < G.n) (h1 : G.t k = none) (h2 : G.h k = some s) {c : Int} (h3 : G.m k = some c) : ∃ x, B (some s) = some x := by
  cases hB : B (some s) with
  | some x => exact ⟨x, rfl⟩
  | none =>
    exfalso
    let F : Option S → Int := fun o => if B o = none then 1 else 0
    have hF : F none = 0 := by show (if B none = none then (1 : Int) else 0) = 0; rw [t.zero]; rfl
    have h0 := conserved ok I F hF
    have F01 : ∀ o, F o = 0 ∨ F o = 1 := fun o => by show (if B o = none then (1 : Int) else 0) = 0 ∨ _; by_cases q : B o = none <;> simp [q, F]
    have F0 : ∀ o, F o = 0 → ∃ x, B o = some x := fun o q => by
      have q' : (if B o = none then (1 : Int) else 0) = 0 := q
      cases e : B o with
      | none => rw [e] at q'; simp at q'
      | some x => exact ⟨x, rfl⟩
    have F1 : ∀ o, F o = 1 → B o = none := fun o q => by
      have q' : (if B o = none then (1 : Int) else 0) = 1 := q
      cases e : B o with
      | none => rfl
      | some x => rw [e] at q'; simp at q'
    -- into what is not told nothing is free
    have sat : ∀ i, i < G.n → F (G.h i) = 1 → F (G.t i) = 0 → ∃ m, G.m i = some m ∧ m ≤ a i := fun i hi q1 q2 => by
      obtain ⟨x, hx⟩ := F0 _ q2
      have hn := F1 _ q1
      have ho : G.out i := fun z => by rw [z.2, t.zero] at hn; cases hn
      have hfr : ¬ G.free a (i, true) = true := fun hf => by
        obtain ⟨z, hz, _⟩ := t.fix (i, true) (mem_sides.mpr ⟨hi, ho, hf⟩) x hx
        have hz' : B (G.h i) = some z := hz
        rw [hn] at hz'; cases hz'
      cases hm : G.m i with
      | none => exact absurd (show (match G.m i with | none => true | some m => decide (a i < m)) = true by rw [hm]) hfr
      | some m =>
        refine ⟨m, rfl, ?_⟩
        have hfr' : ¬ (match G.m i with | none => true | some m => decide (a i < m)) = true := hfr
        rw [hm] at hfr'
        simp at hfr'
        exact hfr'
    have zero : ∀ i, i < G.n → F (G.h i) = 0 → F (G.t i) = 1 → a i = 0 := fun i hi q1 q2 => by
      obtain ⟨x, hx⟩ := F0 _ q1
      have hn := F1 _ q2
      have ho : G.out i := fun z => by rw [z.1, t.zero] at hn; cases hn
      have h0 := I.nn i hi
      by_cases hp : 0 < a i
      · obtain ⟨z, hz, _⟩ := t.fix (i, false) (mem_sides.mpr ⟨hi, ho, decide_eq_true hp⟩) x hx
        have hz' : B (G.t i) = some z := hz
        rw [hn] at hz'; cases hz'
      · omega
    have hpos : 0 < sumN G.n (fun i => (F (G.h i) - F (G.t i)) * a i) := by
      refine sumN_pos (fun i hi => ?_) hk ?_
      · have hn := I.nn i hi
        rcases F01 (G.h i) with q1 | q1 <;> rcases F01 (G.t i) with q2 | q2
        · rw [q1, q2]; omega
        · rw [zero i hi q1 q2]; omega
        · rw [q1, q2]; omega
        · rw [q1, q2]; omega
      · have q1 : F (G.h k) = 1 := by rw [h2]; show (if B (some s) = none then (1 : Int) else 0) = 1; rw [hB]; rfl
        have q2 : F (G.t k) = 0 := by rw [h1]; exact hF
        obtain ⟨m, e1, e2⟩ := sat k hk q1 q2
        have := ok.cap k hk m e1
        rw [q1, q2]; omega
    rw [h0] at hpos
    omega
/-- the numbers that fit the amounts -/
def diff (B : Option S → Option Int) (s : S) : Int := (B (some s)).getD 0
theorem Told.best {names : List S} (ok : NetOk G names) (I : FInv G a) {B : Option S → Option Int} (t : Told G a B) (hr : ∀ i, i < G.n → (∀ s, G.t i = some s → ∃ x, B (some s) = some x) ∧ (∀ s, G.h i = some s → ∃ x, B (some s) = some x))
    (hg : ∀ i, i < G.n → G.m i = none → ¬ G.out i → G.p i ≤ 0) : Sol G (diff B) ∧ G.total a = G.price (diff B) := by
  have val : ∀ i, i < G.n → B (G.t i) = some (tl (diff B) (G.t i)) ∧ B (G.h i) = some (tl (diff B) (G.h i)) := fun i hi => by
    have one : ∀ o : Option S, (∀ s, o = some s → ∃ x, B (some s) = some x) → B o = some (tl (diff B) o) := fun o ho => by
      cases o with
      | none => exact t.zero
      | some s =>
        obtain ⟨x, hx⟩ := ho s rfl
        show B (some s) = some ((B (some s)).getD 0)
        rw [hx]; rfl
    exact ⟨one _ (hr i hi).1, one _ (hr i hi).2⟩
  have up : ∀ i, i < G.n → G.out i → G.free a (i, true) = true → G.p i ≤ tl (diff B) (G.h i) - tl (diff B) (G.t i) := fun i hi ho hf => by
    obtain ⟨v1, v2⟩ := val i hi
    obtain ⟨z, hz, hl⟩ := t.fix (i, true) (mem_sides.mpr ⟨hi, ho, hf⟩) _ v1
    have hz' : B (G.h i) = some z := hz
    rw [v2] at hz'; cases hz'
    have hl' : tl (diff B) (G.t i) + G.p i ≤ tl (diff B) (G.h i) := hl
    omega
  have down : ∀ i, i < G.n → G.out i → 0 < a i → tl (diff B) (G.h i) - tl (diff B) (G.t i) ≤ G.p i := fun i hi ho hf => by
    obtain ⟨v1, v2⟩ := val i hi
    obtain ⟨z, hz, hl⟩ := t.fix (i, false) (mem_sides.mpr ⟨hi, ho, decide_eq_true hf⟩) _ v2
    have hz' : B (G.t i) = some z := hz
    rw [v1] at hz'; cases hz'
    have hl' : tl (diff B) (G.h i) + -(G.p i) ≤ tl (diff B) (G.t i) := hl
    omega
  have S1 : Sol G (diff B) := by
    refine ⟨fun i hi hm => ?_, fun i hi m hm => (ok.spare i hi m hm).1⟩
    by_cases ho : G.out i
    · exact up i hi ho (by show (match G.m i with | none => true | some m => decide (a i < m)) = true; rw [hm])
    · have := hg i hi hm ho
      have ho' : G.t i = none ∧ G.h i = none := Decidable.of_not_not ho
      rw [ho'.1, ho'.2]
      show G.p i ≤ 0 - 0
      omega
  refine ⟨S1, Int.le_antisymm (weak ok I S1) ?_⟩
  have h0 := conserved ok I (tl (diff B)) rfl
  have h1 : sumN G.n (fun i => (tl (diff B) (G.h i) - tl (diff B) (G.t i)) * a i + (match G.m i with | none => 0 | some c => c * pos (tl (diff B) (G.t i) - tl (diff B) (G.h i)))) ≤ G.total a := by
    refine sumN_le fun i hi => ?_
    have hn := I.nn i hi
    cases hm : G.m i with
    | none =>
      show _ + 0 ≤ G.p i * a i
      by_cases ha : 0 < a i
      · by_cases ho : G.out i
        · have := Int.mul_le_mul_of_nonneg_right (down i hi ho ha) hn
          omega
        · have := I.gnd i hi ho
          omega
      · have : a i = 0 := by omega
        rw [this]; omega
    | some c =>
      have hc := I.cap i hi c hm
      have hc1 := ok.cap i hi c hm
      rw [(ok.spare i hi c hm).1]
      show (tl (diff B) (G.h i) - tl (diff B) (G.t i)) * a i + c * pos (tl (diff B) (G.t i) - tl (diff B) (G.h i)) ≤ 0 * a i
      have hup := fun ho hf => up i hi ho hf
      have hdn := fun ho ha => down i hi ho ha
      rw [(ok.spare i hi c hm).1] at hup hdn
      have hout : tl (diff B) (G.h i) ≠ tl (diff B) (G.t i) → G.out i := fun hne z => hne (by rw [z.1, z.2])
      generalize tl (diff B) (G.h i) = x at *
      generalize tl (diff B) (G.t i) = y at *
      unfold pos
      by_cases q : 0 ≤ y - x
      · rw [if_pos q]
        by_cases q2 : y = x
        · subst q2; simp
        · have hf : ¬ a i < c := fun hlt => by
            have := hup (hout fun z => q2 z.symm) (by show (match G.m i with | none => true | some m => decide (a i < m)) = true; rw [hm]; exact decide_eq_true hlt)
            omega
          rw [show a i = c by omega, Int.mul_comm c (y - x), ← Int.add_mul]
          rw [show x - y + (y - x) = 0 by omega]
          omega
      · rw [if_neg q]
        have ha : ¬ 0 < a i := fun hp => by
          have := hdn (hout fun z => by omega) hp
          omega
        rw [show a i = 0 by omega]
        omega
  rw [sumN_add, h0] at h1
  show sumN G.n _ ≤ G.total a
  omega
end
end Ws
end
section
namespace Ws
open PySem PySem.Spec PyProof.Rows L2
/-! ### the text by places -/
def top (i : Nat) : Stmt := PySem.Challenge.pw_windowsteps_k71_whole_cheapest_of_all_nu.main.body.getD i (.Pass ⟨0, 0, 0, 0⟩)

/-! ### a def that may be called by its name; a method; a class that is made -/
structure Cal (P : Program) (w : World) (K : PySem.W.Frag) (mg : Str → Option Value) (base : Heap) (k : Nat) (x : Str) (sp : Sp) : Prop where
  ex : ∃ (f : Addr) (fd : FuncData) (ps : List Str), FnOk P w K mg base CX0 k f fd ps sp ∧ mg x = some (.ref f) ∧ PySem.W.keepIn K (.ref f) = true ∧ Binds K fd ps []
structure Mth (P : Program) (w : World) (K : PySem.W.Frag) (mg : Str → Option Value) (base : Heap) (k : Nat) (C : Addr) (m : Str) (sp : Sp) : Prop where
  ex : ∃ (f : Addr) (fd : FuncData) (ps : List Str), Cls K C ∧ Meth K C m f ∧ FnOk P w K mg base CX0 k f fd ps sp ∧ Binds K fd ps []
structure Mkr (P : Program) (w : World) (K : PySem.W.Frag) (mg : Str → Option Value) (base : Heap) (k : Nat) (x : Str) (C : Addr) (sp : Sp) : Prop where
  ex : ∃ (f : Addr) (fd : FuncData) (ps : List Str), Mk K C f ∧ FnOk P w K mg base CX0 k f fd ps sp ∧ mg x = some (.ref C) ∧ Binds K fd ps []
section
variable {X : Cx} {k j : Nat} {C : Addr} {x m : Str} {sp : Sp} {p pos apos : Pos} {e o : Expr} {es : List Expr} {ta : TE} {t : TA}
theorem pe_f (c : Cal X.prog X.w X.K X.mg X.base k x sp) (hr : Room j X.A) (ha : PA X (e :: es) t) (hk : k ≤ j := by decide) (hg : Gl X x := by rfl)
    (hdb : (x == ("__debug__" : Str)) = false := by decide) (he : starEach (e :: es) X.env = (false, eval e X.env) :: starEach es X.env := by rfl) (hpl : (backTo pos (starEach es X.env)).any (·.1) = false := by rfl) :
    PE X (.Call (.Name x p) (e :: es) [] pos) (tCall sp [] E0 t) := by
  obtain ⟨f, fd, ps, F, hm, kp, b⟩ := c.ex
  exact pe_call F (hr.mono hk) hg hm kp b .nil pass0 ha hdb he hpl
theorem pe_new (c : Mkr X.prog X.w X.K X.mg X.base k x C sp) (hr : Room j X.A) (ha : PA X (e :: es) t) (hk : k + 1 ≤ j := by decide) (hg : Gl X x := by rfl)
    (hdb : (x == ("__debug__" : Str)) = false := by decide) (he : starEach (e :: es) X.env = (false, eval e X.env) :: starEach es X.env := by rfl) (hpl : (backTo pos (starEach es X.env)).any (·.1) = false := by rfl) :
    PE X (.Call (.Name x p) (e :: es) [] pos) (tMake C sp [] E0 t) := by
  obtain ⟨f, fd, ps, M, F, hm, b⟩ := c.ex
  exact pe_make M F (hr.mono hk) hg hm b .nil pass0 ha hdb he hpl
theorem pe_m {pl : Sem Bool} (c : Mth X.prog X.w X.K X.mg X.base k C m sp) (hr : Room j X.A) (he : PE X o ta) (ha : PA X (e :: es) t) (hk : k ≤ j := by decide)
    (hst : starEach (e :: es) X.env = (false, eval e X.env) :: starEach es X.env := by rfl) (hpl : (backTo pos (starEach es X.env)).any (·.1) = false := by rfl)
    (ht : eval (.Call (.Attribute o m apos) (e :: es) [] pos) X.env = (do
      let ov ← eval o X.env
      standAt apos.atName
      let (f, first) ← holding [ov] (getMethod ov m pl)
      callWith pos f first (backTo pos (starEach (e :: es) X.env)) (backToKw pos (keywordEach [] X.env))) := by rfl) :
    PE X (.Call (.Attribute o m apos) (e :: es) [] pos) (tMeth C m sp [] E0 ta t) := by
  obtain ⟨f, fd, ps, hc, hm, F, b⟩ := c.ex
  exact pe_meth (pl := pl) he hc hm F (hr.mono hk) b .nil pass0 ha hst hpl ht
theorem pe_m0 {pl : Sem Bool} (c : Mth X.prog X.w X.K X.mg X.base k C m sp) (hr : Room j X.A) (he : PE X o ta) (hk : k ≤ j := by decide)
    (ht : eval (.Call (.Attribute o m apos) [] [] pos) X.env = (do
      let ov ← eval o X.env
      standAt apos.atName
      let (f, first) ← holding [ov] (getMethod ov m pl)
      callWith pos f first (backTo pos (starEach [] X.env)) (backToKw pos (keywordEach [] X.env))) := by rfl) :
    PE X (.Call (.Attribute o m apos) [] [] pos) (tMeth C m sp [] E0 ta tNil) := by
  obtain ⟨f, fd, ps, hc, hm, F, b⟩ := c.ex
  exact pe_meth0 (pl := pl) he hc hm F (hr.mono hk) b .nil pass0 ht
end
end Ws
end
section
/-! Dicts whose keys are names and None. -/
namespace Ws
open PySem PySem.Spec PyProof.Rows L2
/-- a name, or the ground -/
abbrev Nd := Option Str
def ndV : Nd → V
  | none => .non
  | some x => .str x
theorem ndV_inj {a b : Nd} (h : ndV a = ndV b) : a = b := by
  cases a <;> cases b <;> first | rfl | (simp [ndV] at h) ; try (rw [h])
def ndLf : Nd → Leaf
  | none => .none
  | some x => .text x
theorem ndLf_inj {a b : Nd} (h : ndLf a = ndLf b) : a = b := by
  cases a <;> cases b <;> first | rfl | (simp [ndLf] at h) ; try (rw [h])
def ndKind (P : Program) (w : World) : KeyKind P w Nd where
  is k v := (leafKind P w).is (ndLf k) v
  hash k := (leafKind P w).hash (ndLf k)
  inj v a b ha hb := ndLf_inj ((leafKind P w).inj v _ _ ha hb)
  byValue k v h := (leafKind P w).byValue _ v h
  pyHash hv h := (leafKind P w).pyHash hv h
  eqBool {A E s a b u v Q} hu hv h := by
    refine (leafKind P w).eqBool hu hv ?_
    have e : decide (ndLf a = ndLf b) = decide (a = b) := by
      by_cases q : a = b
      · subst q; simp
      · rw [decide_eq_false q, decide_eq_false fun z => q (ndLf_inj z)]
    rw [e]; exact h
  «strs» k x t v h := (leafKind P w).strs _ x t v h
theorem nd_is {P : Program} {w : World} {k : Nd} {u : Value} (r : RelV (ndV k) u) : (ndKind P w).is k u = true := by
  cases k with
  | none =>
    have e : u = Value.none := r
    subst e
    rfl
  | some x =>
    obtain ⟨t, e⟩ : ∃ t, u = Value.str x t := r
    subst e
    show Value.isStrOf x (.str x t) = true
    simp [Value.isStrOf]
/-- a dict with such keys -/
def dN (P : Program) (w : World) (a : Addr) (kvs : List (Nd × V)) : HO := .ext fun h => kvs.length ≤ sizeLine ∧ (a == sysModules) = false ∧ ∃ vs, KV kvs vs ∧ h.DictOf (ndKind P w) a vs
section
variable {X : Cx} {pins : List (Addr × Obj)} {σ : L2.St} {H : Hp} {s : Shared} {a : Addr} {kvs : List (Nd × V)} {k : Nd} {v y : V} {u r : Value} {A : Around} {E : Value → Shared → Prop} {P : Program} {w : World}
theorem dn_ok {H' : Hp} {h : Heap} {vs : List (Nd × Value)} (z : kvs.length ≤ sizeLine) (hd : (a == sysModules) = false) (rel : KV kvs vs) (dd : h.DictOf (ndKind P w) a vs) : ObjOk P w H' h a (dN P w a kvs) := by
  refine ⟨⟨z, hd, vs, rel, dd⟩, ?_, fun h1 h2 q keep => ?_⟩
  · obtain ⟨o, _, _, e, _⟩ := dd
    exact ⟨o, e⟩
  · obtain ⟨z1, z2, vs1, r1, o, es, ep, e, c⟩ := q
    exact ⟨z1, z2, vs1, r1, o, es, ep, keep o e, c⟩
theorem dn_rd (I : Inv X pins σ H s) (e : Rd H a (dN X.prog X.w a kvs)) : kvs.length ≤ sizeLine ∧ (a == sysModules) = false ∧ ∃ vs, KV kvs vs ∧ s.heap.DictOf (ndKind X.prog X.w) a vs := by
  obtain ⟨q, _⟩ : ObjOk X.prog X.w H s.heap a (dN X.prog X.w a kvs) := e.ok I.hok
  exact q
theorem dn_tok (I : Inv X pins σ H s) (n : Nat) : Inv X pins σ H { s with toks := s.toks + n } := I.tok _
/-- k in d -/
theorem or_nin : OpR X (compareOp .In) fun x y H Q => ∃ a kvs k, x = ndV k ∧ y = .ref a ∧ Rd H a (dN X.prog X.w a kvs) ∧ Q (.bl (valV kvs k).isSome) H := by
  intro pins s σ H x y v u Q I rx ry h
  obtain ⟨a, kvs, k, rfl, rfl, e, q⟩ := h
  obtain rfl : u = Value.ref a := ry
  obtain ⟨z, hd, vs, rel, dd⟩ := dn_rd I e
  refine wpAny_in_of (nd_is rx) hd dd.mapOf ⟨.bl (valV kvs k).isSome, H, I.tok _, ?_, q⟩
  show Value.bool _ = Value.bool _
  rw [(rel.val k).isSome_eq]
theorem or_nnotin : OpR X (compareOp .NotIn) fun x y H Q => ∃ a kvs k, x = ndV k ∧ y = .ref a ∧ Rd H a (dN X.prog X.w a kvs) ∧ Q (.bl (!(valV kvs k).isSome)) H := by
  intro pins s σ H x y v u Q I rx ry h
  obtain ⟨a, kvs, k, rfl, rfl, e, q⟩ := h
  obtain rfl : u = Value.ref a := ry
  obtain ⟨z, hd, vs, rel, dd⟩ := dn_rd I e
  refine wpAny_notIn_of (nd_is rx) hd dd.mapOf ⟨.bl (!(valV kvs k).isSome), H, I.tok _, ?_, q⟩
  show Value.bool _ = Value.bool _
  rw [(rel.val k).isSome_eq]
/-- d[k] -/
def tNGet (P : Program) (w : World) (td ty : TE) : TE := fun σ H Q => td σ H fun x H1 => ty σ H1 fun y H2 => ∃ a kvs k v, x = .ref a ∧ y = ndV k ∧ Rd H2 a (dN P w a kvs) ∧ valV kvs k = some v ∧ Q v H2
theorem pe_nget {o i : Expr} {pos : Pos} {td ty : TE} (ho : PE X o td) (hi : PE X i ty) (hs : NoSl i := by intro _ _; rfl) : PE X (.Subscript o i pos) (tNGet X.prog X.w td ty) := by
  refine ⟨fun pins s σ H Q I h => ?_⟩
  refine subD_of PySem.F.slot_dict_getitem.lookup hs (thn (ho.run pins s σ H _ I h) fun u s1 ⟨x, H1, I1, rx, q1⟩ => thn (hi.run pins s1 σ H1 _ I1 q1) fun iv s2 ⟨y, H2, I2, ry, a, kvs, k, v, ex, ey, e, l, q2⟩ => ?_)
  subst ex ey
  obtain rfl : u = Value.ref a := rx
  obtain ⟨z, hd, vs, rel, dd⟩ := dn_rd I2 e
  obtain ⟨w', hw, rw'⟩ := RelO.some_of (v := v) (o := valueAt vs k) (by rw [← l]; exact rel.val k)
  exact ⟨dd.typeIs, wpAny_getItem_of (nd_is ry) dd.mapOf hw ⟨v, H2, I2.tok _, rw', q2⟩⟩
/-- d[k] = v -/
theorem dn_set {Q : Unit → Shared → Prop} (I : Inv X pins σ H s) (e : H a = some (dN X.prog X.w a kvs)) (hl : kvs.length < sizeLine) (ry : RelV (ndV k) u) (rv : RelV v r) (h : ∀ s', Inv X pins σ (upd H a (dN X.prog X.w a (putK kvs k v))) s' → Q () s') :
    wpAny (model X.prog X.w) A (setItem (.ref a) u r) Q E s := by
  obtain ⟨z, hd, vs, rel, dd⟩ := dn_rd I (Rd.of e)
  have hz : vs.length ≤ sizeLine := by rw [← rel.length]; exact z
  have hl' : (putK kvs k v).length ≤ sizeLine := by have := length_putK kvs k v; omega
  refine wpAny_setItem_pairs (hsz := hz) (nd_is ry) dd fun h' dd' hs => h _ ?_
  have he : ∃ q, h'.get? a = some q := let ⟨q, _, _, hq, _⟩ := dd'; ⟨q, hq⟩
  exact d_write I (by rw [e]; exact True.intro) hs he (dn_ok hl' hd (rel.put k rv) dd')
def sNPut (P : Program) (w : World) (td ty tv : TE) : TS := fun D σ H => tv σ H fun v H1 => td σ H1 fun x H2 => ty σ H2 fun y H3 => ∃ a kvs k, x = .ref a ∧ y = ndV k ∧ H3 a = some (dN P w a kvs) ∧ kvs.length < sizeLine ∧ D.nx σ (upd H3 a (dN P w a (putK kvs k v)))
theorem ps_nput {o i value : Expr} {pos pos' : Pos} {td ty tv : TE} (ho : PE X o td) (hi : PE X i ty) (hv : PE X value tv) (hs : swapsWith value (some (.Subscript o i pos')) pos.line X.env = pure false := by rfl) :
    PS X (.Assign [.Subscript o i pos'] value pos) (sNPut X.prog X.w td ty tv) := by
  refine ⟨fun pins s σ H D I h => ?_⟩
  refine wpAny_Assign_Subscript (thn (hv.run pins s σ H _ I h) fun r s1 ⟨v, H1, I1, rv, q1⟩ => thn (ho.run pins s1 σ H1 _ I1 q1) fun u s2 ⟨x, H2, I2, rx, q2⟩ => thn (hi.run pins s2 σ H2 _ I2 q2) fun iv s3 ⟨y, H3, I3, ry, a, kvs, k, ex, ey, e, hl, q3⟩ => ?_) hs
  subst ex ey
  obtain rfl : u = Value.ref a := rx
  exact dn_set I3 e hl ry rv fun s4 I4 => ⟨σ, _, I4, q3⟩
/-- {} -/
def tNNew (P : Program) (w : World) : TE := fun _ H Q => ∀ p, H p = none → Q (.ref p) (upd H p (dN P w p []))
theorem dn_empty (h : Heap) (hb : sysModules < h.objs.size) : ObjOk P w H (h.push { cls := .type "dict", data := .dict #[] }) h.objs.size (dN P w h.objs.size []) :=
  dn_ok (Nat.zero_le _) (beq_eq_false_iff_ne.mpr (Ne.symm (Nat.ne_of_lt hb))) .nil (Heap.DictOf.new h)
theorem pe_nnew {pos : Pos} : PE X (.Dict [] [] pos) (tNNew X.prog X.w) := ⟨fun pins s σ H Q I h =>
  wpAny_Dict_empty ⟨.ref s.heap.objs.size, _, I.laid (a := s.heap.objs.size) (o := dN X.prog X.w s.heap.objs.size []) (t' := s.toks) (fun _ _ q => Heap.get?_push_of_some _ q) (Nat.le_refl _) (dn_empty s.heap I.big), rfl, h _ (I.hok.fresh (Nat.le_refl _))⟩⟩
/-- {k: v} -/
def tNOne (P : Program) (w : World) (tk tv : TE) : TE := fun σ H Q => ∀ p, H p = none → tPairs [(tk, tv)] σ (upd H p (dN P w p [])) fun ps H2 => H2 p = some (dN P w p []) ∧ ∃ k v, ps = [(ndV k, v)] ∧ Q (.ref p) (upd H2 p (dN P w p [(k, v)]))
theorem pe_none1 {pos : Pos} {k v : Expr} {tk tv : TE} (hk : PE X k tk) (hv : PE X v tv) : PE X (.Dict [some k] [v] pos) (tNOne X.prog X.w tk tv) := by
  have h : PPs X pos [some k] [v] [(tk, tv)] := pps_cons hk hv pps_nil
  refine ⟨fun pins s σ H Q I q => ?_⟩
  have hn := I.hok.fresh (Nat.le_refl s.heap.objs.size)
  have I1 := I.laid (a := s.heap.objs.size) (o := dN X.prog X.w s.heap.objs.size []) (h' := s.heap.push { cls := .type "dict", data := .dict #[] }) (t' := s.toks) (fun _ _ q => Heap.get?_push_of_some _ q) (Nat.le_refl _) (dn_empty s.heap I.big)
  refine wpAny_Dict_walk (knd := ndKind X.prog X.w) rfl rfl (by simp) (by simp) (thn (h.run pins _ σ _ _ I1 (q _ hn)) fun ws s2 ⟨ps, H2, I2, rel, e, k0, v0, ep, q2⟩ => ?_)
  subst ep
  cases rel with
  | @cons _ b _ bs hb t =>
    cases t
    obtain ⟨b1, b2⟩ := b
    obtain ⟨z, hd, vs0, r0, dd⟩ := dn_rd I2 (Rd.of e)
    cases r0
    refine ⟨[(k0, b2)], ⟨nd_is hb.1, rfl, True.intro⟩, dd, fun h' dd' hs => ⟨.ref s.heap.objs.size, _, ?_, rfl, q2⟩⟩
    have he : ∃ q, h'.get? s.heap.objs.size = some q := let ⟨q, _, _, hq, _⟩ := dd'; ⟨q, hq⟩
    exact d_write I2 (by rw [e]; exact True.intro) hs he (dn_ok (kvs := [(k0, v0)]) (by rw [sizeLine_eq]; show 1 ≤ 16777216; decide) hd (.cons ⟨rfl, hb.2⟩ .nil) dd')
/-- d.get(k, x) -/
def tNGet2 (P : Program) (w : World) (td ty tx : TE) : TE := fun σ H Q => td σ H fun x H1 => ∃ a kvs, x = .ref a ∧ Rd H1 a (dN P w a kvs) ∧ ty σ H1 fun y H2 => tx σ H2 fun z H3 => ∃ k, y = ndV k ∧ Rd H3 a (dN P w a kvs) ∧ Q ((valV kvs k).getD z) H3
theorem pe_nget2 {o e f : Expr} {apos cpos : Pos} {td ty tx : TE} (ho : PE X o td) (he : PE X e ty) (hf : PE X f tx) (m : M2 X o "get" apos e f cpos) : PE X (.Call (.Attribute o "get" apos) [e, f] [] cpos) (tNGet2 X.prog X.w td ty tx) := by
  refine ⟨fun pins s σ H Q I h => ?_⟩
  refine wpAny_Call_method m.base m.few m.line PySem.F.plainAttrs_dict PySem.F.slot_dict_get PySem.F.type_dict_get (thn (ho.run pins s σ H _ I h) fun u s1 ⟨x, H1, I1, rx, a, kvs, ex, d, q1⟩ => ?_)
  subst ex
  obtain rfl : u = Value.ref a := rx
  obtain ⟨_, _, vs, _, dd⟩ := dn_rd I1 d
  refine ⟨dd.typeIs, fun b q => ?_, ?_⟩
  · cases q
    obtain ⟨ob, _, _, h1, h2, _⟩ := dd
    exact ⟨ob, h1, h2.2.1⟩
  rw [m.trees]
  refine Calls.callWith_builtin rfl (Calls.evalArgs_plain (Calls.spliced_cons (thn (he.run pins s1 σ H1 _ I1 q1) fun iv s2 ⟨y, H2, I2, ry, q2⟩ =>
    Calls.spliced_cons (thn (hf.run pins s2 σ H2 _ I2 q2) fun fv s3 ⟨z, H3, I3, rz, k, ey, d3, q3⟩ => Calls.spliced_nil ?_))))
  subst ey
  obtain ⟨z3, hd3, vs3, rel3, dd3⟩ := dn_rd I3 d3
  refine call_meetsIn PySem.F.slot_dict_get dd3.typeIs PySem.F.entry_dict_get (PySem.F.args_dict_get_3 _ _ _) (meets_dict_get_default (ndKind X.prog X.w) a (nd_is ry) hd3 fv) ⟨_, dd3.mapOf, ⟨_, H3, I3.tok _, (rel3.val k).getD rz, q3⟩⟩
/-- len(d) -/
theorem cr_nlen : CallR X (.builtin "len") fun xs H Q => ∃ a kvs, xs = [.ref a] ∧ Rd H a (dN X.prog X.w a kvs) ∧ Q (.int (kvs.length : Nat)) H := by
  intro pins s σ H xs us Q I r h
  obtain ⟨a, kvs, rfl, e, q⟩ := h
  obtain ⟨u, rfl, ru⟩ := vals1 r
  obtain rfl : u = Value.ref a := ru
  obtain ⟨z, hd, vs, rel, dd⟩ := dn_rd I e
  refine call_len_dict hd dd (by rw [← rel.length]; rw [sizeLine_eq] at z; omega) ⟨.int (kvs.length : Nat), H, I.tok _, ?_, q⟩
  rw [← rel.length]
  exact ⟨_, rfl⟩
end
end Ws
end
section
/-! The heap's array never shrinks. -/
namespace Ws
open PySem GenW
open Sem (wp)
theorem upd_size (h : Heap) (a : Addr) (f : Obj → Obj) : (h.update a f).objs.size = h.objs.size := by
  first
    | exact Heap.size_update ..
    | (unfold Heap.update; split <;> simp)
    | simp [Heap.update]
theorem runs_hsz {M : Model} {Γ : Ctx} {p : Pos} {t : Sem PySem.Fin} {fs : List Frame} {s s' : Shared} {e : End} (h : Runs M Γ p t fs s e s') : s.heap.objs.size ≤ s'.heap.objs.size := by
  induction h <;> (try simp only [Shared.setGen, Heap.size_push, upd_size] at *) <;> omega
theorem returns_hsz {M : Model} {Γ : Ctx} {p : Pos} {s s' : Shared} {r : Result} (h : Returns M Γ p s r s') : s.heap.objs.size ≤ s'.heap.objs.size := runs_hsz h
theorem wakes_hsz {M : Model} {Γ : Ctx} {p : Pos} {g : Nat} {r : Resume} {s s' : Shared} {res : GenResult} (h : Wakes M Γ p g r s res s') : s.heap.objs.size ≤ s'.heap.objs.size := by
  unfold Wakes at h
  split at h
  · exact h.elim
  · split at h
    · obtain ⟨e₁, s₁, hr, _, _, rfl⟩ := h
      have q := runs_hsz hr
      exact q
    · rw [h.2]; exact Nat.le_refl _
    · rw [h.2]; exact Nat.le_refl _
  · obtain ⟨e₁, s₁, hr, _, _, rfl⟩ := h
    have q := runs_hsz hr
    exact q
  · rw [h.2]; exact Nat.le_refl _
  · rw [h.2]; exact Nat.le_refl _
theorem wp_hsz {α : Type} (M : Model) (Γ : Ctx) (n : Nat) (t : Sem α) : ∀ (Q : α → Pos → Shared → Prop) (E : Value → Pos → Shared → Prop) (p : Pos) (s : Shared), n ≤ s.heap.objs.size → wp M Γ t Q E p s →
    wp M Γ t (fun a p' s' => n ≤ s'.heap.objs.size ∧ Q a p' s') (fun e p' s' => n ≤ s'.heap.objs.size ∧ E e p' s') p s := by
  induction t with
  | pure a => intro Q E p s hn h; exact ⟨hn, h⟩
  | raise e => intro Q E p s hn h; exact ⟨hn, h⟩
  | unsupported _ => intro Q E p s _ h; exact h
  | finish _ => intro Q E p s _ h; exact h
  | rule _ k ih => intro Q E p s hn h; exact ih () Q E p s hn h
  | «at» p' k ih => intro Q E p s hn h; exact ih () Q E p' s hn h
  | load a _ k ih => intro Q E p s hn h; obtain ⟨o, ho, h⟩ := h; exact ⟨o, ho, ih o Q E p s hn h⟩
  | update a _ f k ih => intro Q E p s hn h; exact ⟨h.1, ih () Q E p _ (by show n ≤ (s.heap.update a f).objs.size; rw [upd_size]; exact hn) h.2⟩
  | loadIfAlive a k ih => intro Q E p s hn h; exact ih _ Q E p s hn h
  | point _ k ih => intro Q E p s hn h; exact ih () Q E p s hn h
  | register _ _ => intro Q E p s _ h; exact h
  | alloc o k ih => intro Q E p s hn h; exact ih _ Q E p _ (by show n ≤ (s.heap.push o).objs.size; rw [Heap.size_push]; omega) h
  | fresh k ih => intro Q E p s hn h; exact ih _ Q E p _ hn h
  | ask k ih => intro Q E p s hn h; exact ih _ Q E p s hn h
  | choose src m k ih => intro Q E p s hn h; exact ⟨h.1, ih _ Q E p _ hn h.2⟩
  | os q _ k ih => intro Q E p s hn h; exact ih _ Q E p _ hn h
  | call c hd _ _ k ih => intro Q E p s hn h; obtain ⟨r, s', hr, h⟩ := h; exact ⟨r, s', hr, ih r Q E p s' (Nat.le_trans hn (returns_hsz hr)) h⟩
  | handled own k ih => intro Q E p s hn h; exact ih _ Q E p s hn h
  | genState g k ih => intro Q E p s hn h; obtain ⟨st, hs, h⟩ := h; exact ⟨st, hs, ih _ Q E p s hn h⟩
  | newGen c k ih => intro Q E p s hn h; exact ih _ Q E p _ hn h
  | resume g r _ k ih => intro Q E p s hn h; obtain ⟨res, s', hw, h⟩ := h; exact ⟨res, s', hw, ih res Q E p s' (Nat.le_trans hn (wakes_hsz hw)) h⟩
  | yield _ _ _ _ => intro Q E p s _ h; exact h
  | stack k ih => intro Q E p s hn h; exact ih _ Q E p s hn h
  | fork _ _ => intro Q E p s _ h; exact h
  | thread k ih => intro Q E p s hn h; exact ih _ Q E p s hn h
  | await _ _ _ _ _ => intro Q E p s _ h; exact h
theorem wpAny_hsz {α : Type} {M : Model} {A : Around} {s : Shared} {t : Sem α} {Q : α → Shared → Prop} {E : Value → Shared → Prop}
    (h : wpAny M A t (fun a s' => s.heap.objs.size ≤ s'.heap.objs.size → Q a s') (fun e s' => s.heap.objs.size ≤ s'.heap.objs.size → E e s') s) : wpAny M A t Q E s :=
  wpAny_mono (fun Γ p hΓ => wp_hsz M Γ _ t _ _ p s (Nat.le_refl _) (h Γ p hΓ) : wpAny M A t (fun a s' => s.heap.objs.size ≤ s'.heap.objs.size ∧ (s.heap.objs.size ≤ s'.heap.objs.size → Q a s')) (fun e s' => s.heap.objs.size ≤ s'.heap.objs.size ∧ (s.heap.objs.size ≤ s'.heap.objs.size → E e s')) s)
    (fun _ _ x => x.2 x.1) fun _ _ x => x.2 x.1
end Ws
end
section
/-! Small steps that leave all objects, the generators and the streams as they are. -/
namespace Ws
open PySem PySem.Spec PyProof.Rows L2
structure LX where
  prog : Program
  w : World
  K : PySem.W.Frag
  base : Heap
  env : Env
abbrev Nu := Str → Option V
structure LX.Ok (L : LX) : Prop where
  kin : L.K.In L.base
  nl : L.base.NoLimit
  kind : L.env.scope.kind = .function
  bl : L.base.get? L.env.locals = none
structure Lt (L : LX) (ν : Nu) (H : Hp) (s : Shared) : Prop where
  ok : L.Ok
  bk : ∀ b o, L.base.get? b = some o → s.heap.get? b = some o
  hok : HOk L.prog L.w H s.heap
  fr : H L.env.locals = none
  loc : ∃ m, s.heap.Ns L.env.locals m ∧ ∀ x v, ν x = some v → L.env.kindOf x = some .local ∧ ∃ u, m x = some u ∧ RelV v u
/-- s' grew from s -/
structure Gr (P : Program) (w : World) (H : Hp) (s : Shared) (H' : Hp) (s' : Shared) : Prop where
  os : s'.os = s.os
  gens : s'.gens = s.gens
  keep : ∀ b o, s.heap.get? b = some o → s'.heap.get? b = some o
  hok : HOk P w H' s'.heap
  sz : s.heap.objs.size ≤ s'.heap.objs.size
  same : ∀ b, b < s.heap.objs.size → H' b = H b
  dr : s'.drawn = s.drawn
structure Sm (A : Around) : Prop where
  hd : A.handled = none
  un : A.units + 64 < cLine
  dp : A.depth < recursionLimit
section
variable {L : LX} {ν : Nu} {H H1 H2 : Hp} {s s1 s2 : Shared} {P : Program} {w : World}
theorem Gr.refl (h : HOk P w H s.heap) : Gr P w H s H s := ⟨rfl, rfl, fun _ _ e => e, h, Nat.le_refl _, fun _ _ => rfl, rfl⟩
theorem Gr.tok (h : HOk P w H s.heap) (t : Nat) : Gr P w H s H { s with toks := t } := ⟨rfl, rfl, fun _ _ e => e, h, Nat.le_refl _, fun _ _ => rfl, rfl⟩
theorem Gr.at' (a : Gr P w H s H1 s1) {b : Addr} {u : HO} (ok : HOk P w H s.heap) (e : H b = some u) : H1 b = some u := by rw [a.same b (ok.lt e)]; exact e
theorem Gr.trans (a : Gr P w H s H1 s1) (b : Gr P w H1 s1 H2 s2) : Gr P w H s H2 s2 :=
  ⟨b.os.trans a.os, b.gens.trans a.gens, fun x o e => b.keep x o (a.keep x o e), b.hok, Nat.le_trans a.sz b.sz, fun x hx => (b.same x (Nat.lt_of_lt_of_le hx a.sz)).trans (a.same x hx), b.dr.trans a.dr⟩
theorem Lt.gr (T : Lt L ν H s) (g : Gr L.prog L.w H s H1 s1) : Lt L ν H1 s1 := by
  obtain ⟨m, ⟨o, es, ep, ho, r⟩, h⟩ := T.loc
  refine ⟨T.ok, fun b o e => g.keep b o (T.bk b o e), g.hok, by rw [g.same _ (Heap.lt_size ho)]; exact T.fr, ?_⟩
  exact ⟨m, ⟨o, es, ep, g.keep _ _ ho, r⟩, h⟩
theorem Lt.kin (T : Lt L ν H s) : L.K.In s.heap := T.ok.kin.keeps T.bk
theorem Lt.nl (T : Lt L ν H s) : s.heap.NoLimit := T.ok.nl.keeps T.bk
theorem Gr.laid {ob : Obj} {o : HO} {t : Nat} (h : HOk P w H s.heap) (new : ObjOk P w (upd H s.heap.objs.size o) (s.heap.push ob) s.heap.objs.size o) :
    Gr P w H s (upd H s.heap.objs.size o) { s with heap := s.heap.push ob, toks := t } :=
  ⟨rfl, rfl, fun b u e => Heap.get?_push_of_some _ e, h.laid (fun b u e => Heap.get?_push_of_some _ e) (Nat.le_refl _) new, by show _ ≤ (s.heap.push ob).objs.size; rw [Heap.size_push]; omega, fun b hb => upd_ne (Nat.ne_of_lt hb), rfl⟩
end
abbrev T2 := Nu → Hp → (V → Hp → Prop) → Prop
def LP (L : LX) (H : Hp) (s : Shared) (Q : V → Hp → Prop) (u : Value) (s' : Shared) : Prop := ∃ v H', Gr L.prog L.w H s H' s' ∧ RelV v u ∧ Q v H'
structure PL (L : LX) (e : Expr) (t : T2) : Prop where
  run : ∀ (A : Around) (s : Shared) (ν : Nu) (H : Hp) (Q : V → Hp → Prop), Sm A → Lt L ν H s → t ν H Q → wpAny (model L.prog L.w) A (eval e L.env) (LP L H s Q) (fun _ _ => False) s
abbrev T2T := Nu → Hp → (Bool → Hp → Prop) → Prop
def LPT (L : LX) (H : Hp) (s : Shared) (Q : Bool → Hp → Prop) (b : Bool) (s' : Shared) : Prop := ∃ H', Gr L.prog L.w H s H' s' ∧ Q b H'
structure PLT (L : LX) (e : Expr) (t : T2T) : Prop where
  run : ∀ (whole : Sem Value) (A : Around) (s : Shared) (ν : Nu) (H : Hp) (Q : Bool → Hp → Prop), Sm A → Lt L ν H s → t ν H Q → wpAny (model L.prog L.w) A (isTrue e L.env whole) (LPT L H s Q) (fun _ _ => False) s
abbrev T2A := Nu → Hp → (List V → Hp → Prop) → Prop
def LPA (L : LX) (H : Hp) (s : Shared) (Q : List V → Hp → Prop) (us : List Value) (s' : Shared) : Prop := ∃ vs H', Gr L.prog L.w H s H' s' ∧ Vals vs us ∧ Q vs H'
structure PLA (L : LX) (es : List Expr) (t : T2A) : Prop where
  run : ∀ (pos : Pos) (A : Around) (s : Shared) (ν : Nu) (H : Hp) (Q : List V → Hp → Prop), Sm A → Lt L ν H s → t ν H Q → wpAny (model L.prog L.w) A (spliced (backTo pos (starEach es L.env))) (LPA L H s Q) (fun _ _ => False) s
section
variable {L : LX} {ν : Nu} {H : Hp} {s s1 : Shared} {Q : V → Hp → Prop} {u : Value} {v : V} {e a b : Expr} {ta tb t : T2} {pos : Pos}
theorem LP.mk1 (T : Lt L ν H s) (r : RelV v u) (q : Q v H) : LP L H s Q u s := ⟨v, H, Gr.refl T.hok, r, q⟩
theorem LP.mkT (T : Lt L ν H s) (t : Nat) (r : RelV v u) (q : Q v H) : LP L H s Q u { s with toks := t } := ⟨v, H, Gr.tok T.hok t, r, q⟩
theorem LP.after {H1 : Hp} {u' : Value} {s2 : Shared} (g : Gr L.prog L.w H s H1 s1) (h : LP L H1 s1 Q u' s2) : LP L H s Q u' s2 := by
  obtain ⟨v, H2, g2, r, q⟩ := h
  exact ⟨v, H2, g.trans g2, r, q⟩
theorem LPT.after {H1 : Hp} {Q : Bool → Hp → Prop} {c : Bool} {s2 : Shared} (g : Gr L.prog L.w H s H1 s1) (h : LPT L H1 s1 Q c s2) : LPT L H s Q c s2 := by
  obtain ⟨H2, g2, q⟩ := h
  exact ⟨H2, g.trans g2, q⟩
theorem LPA.after {H1 : Hp} {Q : List V → Hp → Prop} {c : List Value} {s2 : Shared} (g : Gr L.prog L.w H s H1 s1) (h : LPA L H1 s1 Q c s2) : LPA L H s Q c s2 := by
  obtain ⟨v, H2, g2, r, q⟩ := h
  exact ⟨v, H2, g.trans g2, r, q⟩
/-- then -/
theorem PL.thn {A : Around} {α : Type} {f : Value → Sem α} {Q' : α → Shared → Prop} {E : Value → Shared → Prop} (h : PL L e t) (sm : Sm A) (T : Lt L ν H s) (q : t ν H Q)
    (k : ∀ u v H1 s1, Gr L.prog L.w H s H1 s1 → Lt L ν H1 s1 → RelV v u → Q v H1 → wpAny (model L.prog L.w) A (f u) Q' E s1) :
    wpAny (model L.prog L.w) A (eval e L.env) (fun u s1 => wpAny (model L.prog L.w) A (f u) Q' E s1) E s :=
  wpAny_mono (h.run A s ν H Q sm T q) (fun u s1 ⟨v, H1, g, r, q1⟩ => k u v H1 s1 g (T.gr g) r q1) fun _ _ x => x.elim
theorem PL.thn' {A : Around} {Q' : Value → Shared → Prop} {E : Value → Shared → Prop} (h : PL L e t) (sm : Sm A) (T : Lt L ν H s) (q : t ν H Q)
    (k : ∀ u v H1 s1, Gr L.prog L.w H s H1 s1 → Lt L ν H1 s1 → RelV v u → Q v H1 → Q' u s1) :
    wpAny (model L.prog L.w) A (eval e L.env) Q' E s :=
  wpAny_mono (h.run A s ν H Q sm T q) (fun u s1 ⟨v, H1, g, r, q1⟩ => k u v H1 s1 g (T.gr g) r q1) fun _ _ x => x.elim

/-! ### names, constants -/
def lv (x : Str) : T2 := fun ν H Q => ∃ v, ν x = some v ∧ Q v H
def lc (v : V) : T2 := fun _ H Q => Q v H
theorem pl_v {x : Str} (hd : (x == ("__debug__" : Str)) = false := by decide) : PL L (.Name x pos) (lv x) := by
  refine ⟨fun A s ν H Q sm T ⟨v, e, q⟩ => ?_⟩
  obtain ⟨m, hn, h⟩ := T.loc
  obtain ⟨hk, u, hm, r⟩ := h x v e
  exact wpAny_Name (wpAny_loadName_local T.ok.kind hk hn hm (LP.mk1 T r q)) hd
theorem pl_int {i : Int} {j} : PL L (.Constant (.int i) j pos) (lc (.int i)) := ⟨fun A s ν H Q sm T q => wpAny_Constant_int (LP.mkT (v := .int i) T _ ⟨_, rfl⟩ q)⟩
theorem pl_str {x : Str} {j} : PL L (.Constant (.str x) j pos) (lc (.str x)) := ⟨fun A s ν H Q sm T q => Calls.Constant_str (LP.mkT (v := .str x) T _ ⟨_, rfl⟩ q)⟩
theorem pl_non {j} : PL L (.Constant .none j pos) (lc .non) := ⟨fun A s ν H Q sm T q => Constant_none (LP.mk1 (v := .non) T rfl q)⟩
/-! ### attributes -/
def lfld (K : PySem.W.Frag) (ta : T2) (f : Str) : T2 := fun ν H Q => ta ν H fun x H1 => ∃ a C dx fs v, x = .ref a ∧ H1 a = some (.ins C dx fs) ∧ Cls K C ∧ NoAttr K C f ∧ fs.lookup f = some v ∧ Q v H1
theorem pl_fld {f : Str} (he : PL L e ta) (hb : attributeBase e f L.env (eval e L.env) = eval e L.env := by rfl) : PL L (.Attribute e f pos) (lfld L.K ta f) := by
  refine ⟨fun A s ν H Q sm T q => ?_⟩
  refine attr_of hb (he.thn (f := fun o => getAttr o f true) sm T q fun u x H1 s1 g T1 r ⟨a, C, dx, fs, v, ex, ea, c, n, l, q1⟩ => ?_)
  subst ex
  obtain rfl : u = Value.ref a := r
  obtain ⟨mA, O, r, _, _, _⟩ := ins_get T1.hok ea
  obtain ⟨u, hu, ru⟩ := RelO.some_of (v := v) (o := mA f) (by rw [← l]; exact r f)
  exact get_map T1.kin O (c.get f) c.hd n hu (handed_of ru) (LP.after g (LP.mkT T1 _ ru q1))
/-! ### arithmetic -/
def lsub (ta tb : T2) : T2 := fun ν H Q => ta ν H fun x H1 => tb ν H1 fun y H2 => ∃ i j, x = .int i ∧ y = .int j ∧ Q (.int (i - j)) H2
theorem pl_sub (ha : PL L a ta) (hb : PL L b tb) : PL L (.BinOp a .Sub b pos) (lsub ta tb) := by
  refine ⟨fun A s ν H Q sm T q => ?_⟩
  refine wpAny_BinOp (ha.thn' sm T q fun u x H1 s1 g T1 r q1 => hb.thn' sm T1 q1 fun u2 y H2 s2 g2 T2' r2 ⟨i, j, ex, ey, q2⟩ => ?_)
  subst ex ey
  obtain ⟨t, rfl⟩ := r
  obtain ⟨t', rfl⟩ := r2
  exact sub_int (LP.after g (LP.after g2 (LP.mkT (v := .int (i - j)) T2' _ ⟨_, rfl⟩ q2)))
def lneg (ta : T2) : T2 := fun ν H Q => ta ν H fun x H1 => ∃ i, x = .int i ∧ Q (.int (-i)) H1
theorem pl_neg (ha : PL L a ta) : PL L (.UnaryOp .USub a pos) (lneg ta) := by
  refine ⟨fun A s ν H Q sm T q => ?_⟩
  refine UnaryOp_ (ha.thn (f := fun v => unaryOp .USub v) sm T q fun u x H1 s1 g T1 r ⟨i, ex, q1⟩ => ?_)
  subst ex
  obtain ⟨t, rfl⟩ := r
  exact PyProof.Rows.neg_int (LP.after g (LP.mkT (v := .int (-i)) T1 _ ⟨_, rfl⟩ q1))
/-! ### comparisons as tests -/
structure PLC (L : LX) (op : CmpOp) (a b : Expr) (t : T2T) : Prop where
  run : ∀ (A : Around) (s : Shared) (ν : Nu) (H : Hp) (Q : Bool → Hp → Prop), Sm A → Lt L ν H s → t ν H Q →
    wpAny (model L.prog L.w) A (eval a L.env) (fun v s₁ => wpAny (model L.prog L.w) A (eval b L.env) (fun u s₂ => wpAny (model L.prog L.w) A (compareOp op v u) (fun r s' => ∃ c, r = .bool c ∧ LPT L H s Q c s') (fun _ _ => False) s₂) (fun _ _ => False) s₁) (fun _ _ => False) s
theorem plt_cmp {op : CmpOp} {t : T2T} (h : PLC L op a b t) (h1 : behindInMarks op b = false := by first | exact nobehind _ (by decide) (by decide) | rfl) : PLT L (.Compare a [op] [b] pos) t := by
  refine ⟨fun whole A s ν H Q sm T q => ?_⟩
  refine wpAny_isTrue_Compare1 (wpAny_mono (h.run A s ν H Q sm T q) (fun v s1 h1 => wpAny_mono h1 (fun u s2 h2 => wpAny_mono h2 (fun c s3 ⟨d, e, x⟩ => ?_) fun _ _ x => x) fun _ _ x => x) fun _ _ x => x) h1
  subst e
  exact wpAny_truthy_bool x
def lcmp (p : Int → Int → Bool) (ta tb : T2) : T2T := fun ν H Q => ta ν H fun x H1 => tb ν H1 fun y H2 => ∃ i j, x = .int i ∧ y = .int j ∧ Q (p i j) H2
theorem plc_int {op : CmpOp} {p : Int → Int → Bool} (ha : PL L a ta) (hb : PL L b tb)
    (rule : ∀ (A : Around) (i j : Int) (t u : Tok) (Q : Value → Shared → Prop) (s : Shared), Q (.bool (p i j)) s → wpAny (model L.prog L.w) A (compareOp op (.int i t) (.int j u)) Q (fun _ _ => False) s) : PLC L op a b (lcmp p ta tb) := by
  refine ⟨fun A s ν H Q sm T q => ?_⟩
  refine ha.thn' sm T q fun u x H1 s1 g T1 r q1 => hb.thn' sm T1 q1 fun u2 y H2 s2 g2 T2' r2 ⟨i, j, ex, ey, q2⟩ => ?_
  subst ex ey
  obtain ⟨t, rfl⟩ := r
  obtain ⟨t', rfl⟩ := r2
  exact rule A i j t t' _ s2 ⟨_, rfl, LPT.after g (LPT.after g2 ⟨H2, Gr.refl T2'.hok, q2⟩)⟩
theorem plc_lt (ha : PL L a ta) (hb : PL L b tb) : PLC L .Lt a b (lcmp (fun i j => decide (i < j)) ta tb) := plc_int ha hb fun _ _ _ _ _ _ _ h => lt_int h
theorem plc_gt (ha : PL L a ta) (hb : PL L b tb) : PLC L .Gt a b (lcmp (fun i j => decide (j < i)) ta tb) := plc_int ha hb fun _ _ _ _ _ _ _ h => gt_int h
theorem plc_eq (ha : PL L a ta) (hb : PL L b tb) : PLC L .Eq a b (lcmp (fun i j => decide (i = j)) ta tb) := plc_int ha hb fun _ _ _ _ _ _ _ h => eq_int (by rw [Bool.beq_eq_decide_eq]; exact h)
def lisN (ta : T2) : T2T := fun ν H Q => ta ν H fun x H1 => Q (decide (x = .non)) H1
theorem plc_isN {j} {pos' : Pos} (ha : PL L a ta) : PLC L .Is a (.Constant .none j pos') (lisN ta) := by
  refine ⟨fun A s ν H Q sm T q => ?_⟩
  refine ha.thn' sm T q fun u x H1 s1 g T1 r q1 => ?_
  refine Constant_none (is_none_gen ⟨_, rfl, ?_⟩)
  rw [r.none_iff]
  exact LPT.after g ⟨H1, Gr.refl T1.hok, q1⟩
/-- None not in a tuple -/
def lnn (tb : T2) : T2T := fun ν H Q => tb ν H fun y H2 => ∃ p xs, y = .ref p ∧ H2 p = some (.tup xs) ∧ xs.all flatV = true ∧ Q (!inV .non xs) H2
theorem plc_nn {j} {pos' : Pos} (hb : PL L b tb) : PLC L .NotIn (.Constant .none j pos') b (lnn tb) := by
  refine ⟨fun A s ν H Q sm T q => ?_⟩
  refine Constant_none (hb.thn' sm T q fun u2 y H2 s2 g2 T2' r2 ⟨p, xs, ey, hp, fs, q2⟩ => ?_)
  subst ey
  obtain rfl : u2 = Value.ref p := r2
  obtain ⟨z, its, r, pl⟩ := T2'.hok p _ hp
  refine SeqAt.notIn_tupleAt (eqU .non) pl (fun w hw => mem_eqAt (x := .non) rfl rfl r fs w (by simpa using hw)) ⟨_, rfl, ?_⟩
  rw [show its.toArray.any (eqU .non) = its.any (eqU .non) by simp, any_eqU r fs]
  exact LPT.after g2 ⟨H2, Gr.refl T2'.hok, q2⟩
/-- or -/
def lor (t u : T2T) : T2T := fun ν H Q => t ν H fun c H1 => if c = true then Q true H1 else u ν H1 Q
theorem plt_or1 {t : T2T} (ha : PLT L a t) : PLT L (.BoolOp .Or [a] pos) t := by
  refine ⟨fun wh A s ν H Q sm T q => ?_⟩
  refine isTrue_or (wpAny_mono (ha.run _ A s ν H Q sm T q) (fun c s1 e => ?_) fun _ _ x => x)
  cases c with
  | false => exact isTrue_or_nil e
  | true => exact e
theorem plt_or {t u : T2T} {rest : List Expr} (ha : PLT L a t) (hb : PLT L (.BoolOp .Or (b :: rest) pos) u) : PLT L (.BoolOp .Or (a :: b :: rest) pos) (lor t u) := by
  refine ⟨fun wh A s ν H Q sm T q => ?_⟩
  refine isTrue_or (wpAny_mono (ha.run _ A s ν H _ sm T q) (fun c s1 ⟨H1, g, q1⟩ => ?_) fun _ _ x => x)
  cases c with
  | true => exact ⟨H1, g, q1⟩
  | false => exact wpAny_mono (hb.run wh A s1 ν H1 Q sm (T.gr g) q1) (fun c s2 h => LPT.after g h) fun _ _ x => x
def lif (t : T2T) (ta tb : T2) : T2 := fun ν H Q => t ν H fun c H1 => if c = true then ta ν H1 Q else tb ν H1 Q
theorem pl_if {c : Expr} {t : T2T} (hc : PLT L c t) (ha : PL L a ta) (hb : PL L b tb) : PL L (.IfExp c a b pos) (lif t ta tb) := by
  refine ⟨fun A s ν H Q sm T q => ?_⟩
  refine wpAny_IfExp (wpAny_mono (hc.run _ A s ν H _ sm T q) (fun d s1 ⟨H1, g, q1⟩ => ?_) fun _ _ x => x)
  cases d with
  | true => exact wpAny_mono (ha.run A s1 ν H1 Q sm (T.gr g) q1) (fun u s2 h => LP.after g h) fun _ _ x => x
  | false => exact wpAny_mono (hb.run A s1 ν H1 Q sm (T.gr g) q1) (fun u s2 h => LP.after g h) fun _ _ x => x
/-! ### tuples -/
def lix (i : Int) (ta : T2) : T2 := fun ν H Q => ta ν H fun x H1 => ∃ p xs v, x = .ref p ∧ H1 p = some (.tup xs) ∧ atI xs i = some v ∧ Q v H1
theorem pl_ix {i : Int} {j} {pos' : Pos} (ha : PL L a ta) : PL L (.Subscript a (.Constant (.int i) j pos') pos) (lix i ta) := by
  refine ⟨fun A s ν H Q sm T q => ?_⟩
  refine Subscript_ (ha.thn' sm T q fun u x H1 s1 g T1 r ⟨p, xs, v, ex, hp, he, q1⟩ => wpAny_Constant_int ?_)
  subst ex
  obtain rfl : u = Value.ref p := r
  obtain ⟨hz, its, rv, pl⟩ := T1.hok p _ hp
  obtain ⟨k, h1, h2, h3, h4, h5⟩ := atI_get he
  obtain ⟨w, ew, rw'⟩ := rv.get h2
  have hl := rv.length
  have hn := line63
  have pl' : IsTup { s1 with toks := s1.toks + 1 }.heap p its.toArray := pl
  exact subscriptTail_builtinR (x := w) pl'.typeIs slot_tuple_getitem.lookup
    (PyProof.Rows.getItem_tuple (j := k) (Q := fun r s' => r = w ∧ LP L H s Q r s') pl' (by omega) (by omega) (by rw [List.size_toArray, ← hl]; exact h1) (by simpa using ew) ⟨rfl, LP.after g (LP.mkT T1 _ rw' q1)⟩) (by with_unfolding_all rfl)
/-- t[:k] -/
def lcut (k : Int) (ta : T2) : T2 := fun ν H Q => ta ν H fun x H1 => ∃ p xs, x = .ref p ∧ H1 p = some (.tup xs) ∧ ¬ HT.sIx xs.length xs.length (some k) = xs.length ∧ ∀ p', H1 p' = none → Q (.ref p') (upd H1 p' (.tup (cutV xs none (some k))))
theorem pl_cut {k : Int} {j} {pos' p2 : Pos} (ha : PL L a ta) : PL L (.Subscript a (.Slice none (some (.Constant (.int k) j pos')) none p2) pos) (lcut k ta) := by
  refine ⟨fun A s ν H Q sm T q => ?_⟩
  refine Subscript_ (ha.thn' sm T q fun u x H1 s1 g T1 r ⟨p, xs, ex, hp, hw, q1⟩ => ?_)
  subst ex
  obtain rfl : u = Value.ref p := r
  refine wpAny_Slice ?_
  rw [evalPart_none]
  refine wpAny_pure ?_
  rw [evalPart_some]
  refine wpAny_Constant_int ?_
  refine wpAny_pure ?_
  obtain ⟨hz, its, rv, pl⟩ := T1.hok p _ hp
  have pl' := pl.push { cls := .type "slice", data := .fields #[.none, .int k s1.toks, .none] }
  have hlen : its.toArray.size = xs.length := by rw [List.size_toArray]; exact rv.length.symm
  refine tail_any (ops := [.ref s1.heap.objs.size, .ref p]) (T := "tuple") (s := { s1 with toks := s1.toks + 1, heap := s1.heap.push { cls := .type "slice", data := .fields #[.none, .int k s1.toks, .none] } }) pl'.typeIs PyProof.Rows.slot_tuple_getitem.lookup ?_ (by with_unfolding_all rfl)
  refine HT.getItem_tuple_cut (lo := none) (hi := some k) pl' (Heap.IsSliceOf.new ..) .none (.int k _) (by rw [hlen]; exact fun z => hw z.2) ?_ (by rw [hlen]; exact hz)
  rw [hlen]
  have k1 : HOk L.prog L.w H1 (s1.heap.push { cls := .type "slice", data := .fields #[.none, .int k s1.toks, .none] }) := T1.hok.kept fun b u e => Heap.get?_push_of_some _ e
  have g1 : Gr L.prog L.w H1 s1 H1 { s1 with toks := s1.toks + 1, heap := s1.heap.push { cls := .type "slice", data := .fields #[.none, .int k s1.toks, .none] } } := ⟨rfl, rfl, fun b u e => Heap.get?_push_of_some _ e, k1, by show _ ≤ (s1.heap.push _).objs.size; rw [Heap.size_push]; omega, fun _ _ => rfl, rfl⟩
  refine LP.after g (LP.after g1 ⟨.ref _, _, Gr.laid (o := .tup (cutV xs none (some k))) k1 ?_, rfl, q1 _ (k1.fresh (Nat.le_refl _))⟩)
  exact ⟨Nat.le_trans (cutV_length xs none (some k)) hz, _, (rv.drop (HT.sIx xs.length 0 none)).take (HT.sIx xs.length xs.length (some k) - HT.sIx xs.length 0 none), IsTup.new _ _⟩
def lnil : T2A := fun _ H Q => Q [] H
def lcons (ta : T2) (tr : T2A) : T2A := fun ν H Q => ta ν H fun x H1 => tr ν H1 fun xs H2 => Q (x :: xs) H2
def lstar (ta : T2) (tr : T2A) : T2A := fun ν H Q => ta ν H fun x H1 => ∃ p xs, x = .ref p ∧ H1 p = some (.tup xs) ∧ tr ν H1 fun ys H2 => Q (xs ++ ys) H2
theorem pla_nil : PLA L [] lnil := ⟨fun pos A s ν H Q sm T q => Calls.spliced_nil ⟨[], H, Gr.refl T.hok, .nil, q⟩⟩
theorem pla_cons {es : List Expr} {tr : T2A} (ha : PL L e ta) (hr : PLA L es tr) (hs : starEach (e :: es) L.env = (false, eval e L.env) :: starEach es L.env := by rfl) : PLA L (e :: es) (lcons ta tr) := by
  refine ⟨fun pos A s ν H Q sm T q => ?_⟩
  rw [hs]
  show wpAny _ _ (spliced ((false, eval e L.env) :: backTo pos (starEach es L.env))) _ _ s
  refine Calls.spliced_cons (ha.thn' sm T q fun u x H1 s1 g T1 r q1 => wpAny_mono (hr.run pos A s1 ν H1 _ sm T1 q1) (fun us s2 ⟨xs, H2, g2, r2, q2⟩ => ?_) fun _ _ x => x)
  exact ⟨x :: xs, H2, g.trans g2, .cons r r2, q2⟩
theorem pla_star {es : List Expr} {tr : T2A} {p : Pos} (ha : PL L e ta) (hr : PLA L es tr) (hs : starEach (.Starred e p :: es) L.env = (true, eval e L.env) :: starEach es L.env := by rfl) : PLA L (.Starred e p :: es) (lstar ta tr) := by
  refine ⟨fun pos A s ν H Q sm T q => ?_⟩
  refine PySem.W.items_star (ha.thn' sm T q fun u x H1 s1 g T1 r ⟨a, xs, ex, hp, q1⟩ => ?_) hs
  subst ex
  obtain rfl : u = Value.ref a := r
  obtain ⟨hz, its, rv, pl⟩ := T1.hok a _ hp
  obtain ⟨o, ho, hc, n, hd⟩ := id pl
  have hT : s1.TypeIs (.ref a) "tuple" := ⟨o, ho, hc⟩
  have hl := rv.length
  unfold PySem.W.StarOf notIterableAtAll
  refine wpAny_bind (wpAny_specialOf hT PySem.F.slot_tuple_iter.lookup (wpAny_pure ⟨rfl, ?_⟩))
  refine wpAny_hsz (wpAny_collect_seq a (.inr rfl) ho hc hd (fun h' hk hsz => ?_) (by rw [List.size_toArray]; omega))
  have e : its.toArray.toList = its := by simp
  rw [e]
  have g1 : Gr L.prog L.w H1 s1 H1 { s1 with heap := h' } := ⟨rfl, rfl, hk, T1.hok.kept hk, hsz, fun _ _ => rfl, rfl⟩
  exact wpAny_mono (hr.run pos A _ ν H1 _ sm (T1.gr g1) q1) (fun us s2 ⟨ys, H2, g2, r2, q2⟩ => ⟨xs ++ ys, H2, g.trans (g1.trans g2), rv.append r2, q2⟩) fun _ _ x => x
def ltup (t : T2A) : T2 := fun ν H Q => t ν H fun xs H1 => xs.length ≤ sizeLine ∧ ∀ p, H1 p = none → Q (.ref p) (upd H1 p (.tup xs))
theorem pl_tup {es : List Expr} {tr : T2A} {x1} (h : PLA L es tr) : PL L (.Tuple es x1 pos) (ltup tr) := by
  refine ⟨fun A s ν H Q sm T q => ?_⟩
  refine wpAny_Tuple_spliced (wpAny_mono (h.run pos A s ν H _ sm T q) (fun us s1 ⟨xs, H1, g, r, z, q1⟩ => ⟨by rw [← r.length]; exact z, ?_⟩) fun _ _ x => x)
  have hf : H1 s1.heap.objs.size = none := g.hok.fresh (Nat.le_refl _)
  refine LP.after g ⟨.ref s1.heap.objs.size, upd H1 s1.heap.objs.size (.tup xs), Gr.laid (t := s1.toks) g.hok ?_, rfl, q1 _ hf⟩
  exact ⟨z, us, r, IsTup.new _ _⟩
/-! ### list + list -/
def lcat (ta tb : T2) : T2 := fun ν H Q => ta ν H fun x H1 => tb ν H1 fun y H2 => ∃ l b xs zs, x = .ref l ∧ y = .ref b ∧ H2 l = some (.lst xs) ∧ H2 b = some (.lst zs) ∧ xs.length + zs.length ≤ sizeLine ∧ ∀ p, H2 p = none → Q (.ref p) (upd H2 p (.lst (xs ++ zs)))
theorem pl_cat (ha : PL L a ta) (hb : PL L b tb) : PL L (.BinOp a .Add b pos) (lcat ta tb) := by
  refine ⟨fun A s ν H Q sm T q => ?_⟩
  refine wpAny_BinOp (ha.thn' sm T q fun u x H1 s1 g T1 r q1 => hb.thn' sm T1 q1 fun u2 y H2 s2 g2 T2' r2 ⟨l, bb, xs, zs, ex, ey, hH, hB, hz, q2⟩ => ?_)
  subst ex ey
  obtain rfl : u = Value.ref l := r
  obtain rfl : u2 = Value.ref bb := r2
  obtain ⟨z, its, n, r, e⟩ := T2'.hok l _ hH
  obtain ⟨z2, its2, n2, r2, e2⟩ := T2'.hok bb _ hB
  have hl := r.length
  have hl2 := r2.length
  refine PySem.P.add_list e e2 ?_ (by rw [List.size_toArray, List.size_toArray]; omega)
  have ea : its.toArray ++ its2.toArray = (its ++ its2).toArray := by simp
  rw [ea]
  have hf : H2 s2.heap.objs.size = none := T2'.hok.fresh (Nat.le_refl _)
  refine LP.after g (LP.after g2 ⟨.ref s2.heap.objs.size, upd H2 s2.heap.objs.size (.lst (xs ++ zs)), Gr.laid (t := s2.toks) T2'.hok ?_, rfl, q2 _ hf⟩)
  exact ⟨by rw [List.length_append]; exact hz, _, 0, r.append r2, Heap.get?_push_size _ rfl⟩
/-! ### a pair of nodes is not (None, None) -/
def ndD : Nd → PyData
  | none => .none
  | some x => .str x
theorem nd_reads {h : Heap} {k : Nd} {u : Value} (r : RelV (ndV k) u) : ∃ as, Reads h u (ndD k) as := by
  cases k with
  | none => obtain rfl : u = Value.none := r; exact ⟨_, Reads.none⟩
  | some x => obtain ⟨t, rfl⟩ : ∃ t, u = Value.str x t := r; exact ⟨_, Reads.str x t⟩
def okN (i : Nd) : Prop := (ndD i).canLay0 = true
def lneP (ta tb : T2) : T2T := fun ν H Q => ta ν H fun x H1 => tb ν H1 fun y H2 => ∃ p q i j k l, x = .ref p ∧ y = .ref q ∧ H2 p = some (.tup [ndV i, ndV j]) ∧ H2 q = some (.tup [ndV k, ndV l]) ∧ okN i ∧ okN j ∧ okN k ∧ okN l ∧ Q (!(decide (i = k) && decide (j = l))) H2
theorem nd_eqv (i k : Nd) : PyData.eqv (ndD i) (ndD k) = decide (i = k) := by
  cases i with
  | none => cases k <;> simp [ndD, PyData.eqv]
  | some x =>
    cases k with
    | none => simp [ndD, PyData.eqv]
    | some y =>
      simp only [ndD, PyData.eqv]
      by_cases h : x = y
      · subst h; simp
      · rw [decide_eq_false fun z => h (Option.some.inj z)]
        exact beq_eq_false_iff_ne.mpr h
theorem plc_neP (ha : PL L a ta) (hb : PL L b tb) : PLC L .NotEq a b (lneP ta tb) := by
  refine ⟨fun A s ν H Q sm T q => ?_⟩
  refine ha.thn' sm T q fun u x H1 s1 g T1 r q1 => hb.thn' sm T1 q1 fun u2 y H2 s2 g2 T2' r2 ⟨p, q, i, j, k, l, ex, ey, hp, hq, o1, o2, o3, o4, q2⟩ => ?_
  subst ex ey
  obtain rfl : u = Value.ref p := r
  obtain rfl : u2 = Value.ref q := r2
  obtain ⟨_, its, rv, ob, ho, hc, n, hd⟩ := T2'.hok p _ hp
  obtain ⟨_, its2, rv2, ob2, ho2, hc2, n2, hd2⟩ := T2'.hok q _ hq
  obtain ⟨u1, u2, rfl, w1, w2⟩ := Vals.two rv
  obtain ⟨v1, v2, rfl, x1, x2⟩ := Vals.two rv2
  obtain ⟨a1, e1⟩ := nd_reads (h := s2.heap) w1
  obtain ⟨a2, e2⟩ := nd_reads (h := s2.heap) w2
  obtain ⟨b1, f1⟩ := nd_reads (h := s2.heap) x1
  obtain ⟨b2, f2⟩ := nd_reads (h := s2.heap) x2
  have dp : ∀ i : Nd, (ndD i).depth = 0 := fun i => by cases i <;> simp [ndD, PyData.depth]
  have sh : ∀ i j : Nd, okN i → okN j → SeqAt.shaped (.tuple [ndD i, ndD j]) = true := fun i j h1 h2 => by
    have h1' : (ndD i).canLay0 = true := h1
    have h2' : (ndD j).canLay0 = true := h2
    simp [SeqAt.shaped, PyData.canLay0, PyData.canLayAll0, PyData.depth, PyData.depthAll, h1', h2', dp]
  refine SeqAt.compareNe_shaped (Reads.tuple ho hc hd (ReadsAll.cons e1 (ReadsAll.cons e2 ReadsAll.nil))) (Reads.tuple ho2 hc2 hd2 (ReadsAll.cons f1 (ReadsAll.cons f2 ReadsAll.nil))) (sh i j o1 o2) (sh k l o3 o4) sm.un ⟨_, rfl, ?_⟩
  have e : PyData.eqv (.tuple [ndD i, ndD j]) (.tuple [ndD k, ndD l]) = (decide (i = k) && decide (j = l)) := by
    rw [← nd_eqv i k, ← nd_eqv j l]
    simp [PyData.eqv, PyData.eqvAll]
  rw [e]
  exact LPT.after g (LPT.after g2 ⟨H2, Gr.refl T2'.hok, q2⟩)
end
end Ws
end
section
/-! Generators: the protocol, an if, the sides of a line. -/
namespace Ws
open PySem PySem.Spec PyProof.Rows L2 GenW
/-- statement j of the class at place i -/
def mth (i j : Nat) : Stmt := match top i with
  | .ClassDef _ _ _ body .. => body.getD j (.Pass ⟨0, 0, 0, 0⟩)
  | s => s
section
variable {M : Model} {A : Around} {R : GenEnd} {Y : Protocol} {n : Nat} {s₀ : Shared} {c : Code} {fs : List Frame} {s : Shared} {env : Env} {K : Flow → Sem PySem.Fin} {J : Value → Sem PySem.Fin} {gd : Bool → Bool} {lv : List Value → List Value}
theorem seg_If {test : Expr} {body orelse : List Stmt} {pos : Pos}
    (h : wpAny M (A.over c fs) (isTrue test env (eval test env)) (fun b s' => Seg M A R Y n s₀ c ((execs (if b = true then body else orelse) env).wrap K J gd lv) fs s') (fun x s' => Seg M A R Y n s₀ c (J x) fs s') s) :
    Seg M A R Y n s₀ c ((exec (.If test body orelse pos) env).wrap K J gd lv) fs s := by
  show Seg M A R Y n s₀ c (.at pos fun _ => ((isTrue test env (eval test env) >>= fun b => if b = true then execs body env else execs orelse env)).wrap K J gd lv) fs s
  refine seg_at ?_
  refine seg_bind_wrap (wpAny_mono h (fun b s' q => ?_) fun _ _ q => q)
  cases b with
  | true => exact q
  | false => exact q
end
/-- what is kept from s to s': all objects but those of O, all generators but those of G -/
structure Kp (O : Addr → Obj → Prop) (G : Nat → Prop) (s s' : Shared) : Prop where
  os : s'.os = s.os
  bare : AllBare s'.gens
  keep : ∀ b o, s.heap.get? b = some o → ¬ O b o → s'.heap.get? b = some o
  gens : ∀ (i : Nat) x, ¬ G i → s.gens[i]? = some x → s'.gens[i]? = some x
  sz : s.heap.objs.size ≤ s'.heap.objs.size
  gz : s.gens.size ≤ s'.gens.size
abbrev O0 : Addr → Obj → Prop := fun _ _ => False
abbrev G0 : Nat → Prop := fun _ => False
theorem Kp.comp {O O1 O2 : Addr → Obj → Prop} {G G1 G2 : Nat → Prop} {s s1 s2 : Shared} (a : Kp O1 G1 s s1) (b : Kp O2 G2 s1 s2) (h1 : ∀ x o, s.heap.get? x = some o → O1 x o → O x o) (h2 : ∀ x o, s1.heap.get? x = some o → O2 x o → O x o) (g1 : ∀ i, G1 i → G i) (g2 : ∀ i, G2 i → G i) : Kp O G s s2 :=
  ⟨b.os.trans a.os, b.bare, fun x o e n => by
    have q := a.keep x o e fun z => n (h1 x o e z)
    exact b.keep x o q fun z => n (h2 x o q z), fun i x n e => b.gens i x (fun z => n (g2 i z)) (a.gens i x (fun z => n (g1 i z)) e), Nat.le_trans a.sz b.sz, Nat.le_trans a.gz b.gz⟩
theorem Kp.mono {O O1 : Addr → Obj → Prop} {G G1 : Nat → Prop} {s s1 : Shared} (a : Kp O1 G1 s s1) (h1 : ∀ x o, s.heap.get? x = some o → O1 x o → O x o) (g1 : ∀ i, G1 i → G i) : Kp O G s s1 :=
  ⟨a.os, a.bare, fun x o e n => a.keep x o e fun z => n (h1 x o e z), fun i x n e => a.gens i x (fun z => n (g1 i z)) e, a.sz, a.gz⟩
theorem Kp.refl {O : Addr → Obj → Prop} {G : Nat → Prop} {s : Shared} (h : AllBare s.gens) : Kp O G s s := ⟨rfl, h, fun _ _ e _ => e, fun _ _ _ e => e, Nat.le_refl _, Nat.le_refl _⟩
theorem Kp.ofGr {P : Program} {w : World} {H H' : Hp} {s s' : Shared} (r : Gr P w H s H' s') (h : AllBare s.gens) : Kp O0 G0 s s' :=
  ⟨r.os, by rw [r.gens]; exact h, fun b o e _ => r.keep b o e, fun i x _ e => by rw [r.gens]; exact e, r.sz, by rw [r.gens]; exact Nat.le_refl _⟩
theorem Kp.gr {P : Program} {w : World} {H H' : Hp} {O : Addr → Obj → Prop} {G : Nat → Prop} {s₀ s s' : Shared} (k : Kp O G s₀ s) (r : Gr P w H s H' s') : Kp O G s₀ s' :=
  k.comp (Kp.ofGr r k.bare) (fun _ _ _ z => z) (fun _ _ _ z => z.elim) (fun _ z => z) fun _ z => z.elim
theorem Kp.but {a : Addr} {s : Shared} {h' : Heap} {t : Nat} (k : Heap.SameBut a s.heap h') (h : AllBare s.gens) : Kp (fun b _ => b = a) G0 s { s with heap := h', toks := t } :=
  ⟨rfl, h, fun b o e n => (k.2 b n).trans e, fun _ _ _ e => e, Nat.le_of_eq k.1.symm, Nat.le_refl _⟩
theorem Kp.setGen {s : Shared} {g : Nat} {x : GenState} (h : AllBare s.gens) (hx : x.bare = true) : Kp O0 (fun i => i = g) s (s.setGen g x) :=
  ⟨rfl, allBare_setGen h hx, fun b o e _ => e, fun i y n e => by show (s.gens.setIfInBounds g x)[i]? = _; rw [Array.getElem?_setIfInBounds_ne (Ne.symm n)]; exact e, Nat.le_refl _, by rw [setGen_size]; exact Nat.le_refl _⟩
/-- a tuple's object -/
def TupO (o : Obj) : Prop := o.cls = .type "tuple" ∧ ∃ its n, o.data = .seq its n
/-- what a generator does between two stops -/
abbrev KG (Lg B : Addr) (N : Nat) : Shared → Shared → Prop := Kp (fun b o => b = Lg ∨ (B ≤ b ∧ ¬ TupO o)) (fun i => N ≤ i)
/-- what its consumer does while it sleeps -/
abbrev KC (C : Addr → Prop) : Shared → Shared → Prop := Kp (fun b _ => C b) G0
/-- a frame's own object -/
def FrD (Lg : Addr) (h : Heap) : Prop := ∃ o es ep, h.get? Lg = some o ∧ o.data = .dict es ep
def YP (Lg B : Addr) (C : Addr → Prop) (N : Nat) (T : Nat → Value → Shared → Shared → Prop) : Protocol := fun n s₀ v s κ => T n v s₀ s ∧ KG Lg B N s₀ s ∧ FrD Lg s.heap ∧ ∀ s', KC C s s' → κ (.send .none) s'
def RP (Lg B : Addr) (N : Nat) : GenEnd := fun n s₀ r s => ((r = .ok (.ret .none) ∨ r = .ok .next) ∧ (n = 0 ∧ KG Lg B N s₀ s)) ∨ ∃ e, r = .error e ∧ False
theorem Lt.frd {L : LX} {ν : Nu} {H : Hp} {s : Shared} (T : Lt L ν H s) : FrD L.env.locals s.heap := by
  obtain ⟨m, ⟨o, es, ep, ho, hd, _⟩, _⟩ := T.loc
  exact ⟨o, es, ep, ho, hd⟩
/-- what the consumer owns is nothing of ours -/
structure NoC (L : LX) (C : Addr → Prop) (B : Addr) (H : Hp) : Prop where
  lt : ∀ b, C b → b < B
  h : ∀ b, C b → H b = none
  l : ∀ b, C b → b ≠ L.env.locals
  b : ∀ b o, C b → L.base.get? b = some o → False
theorem NoC.gr {L : LX} {C : Addr → Prop} {B : Addr} {H H' : Hp} {s s' : Shared} (c : NoC L C B H) (r : Gr L.prog L.w H s H' s') (hB : B ≤ s.heap.objs.size) : NoC L C B H' :=
  ⟨c.lt, fun b hb => by rw [r.same b (Nat.lt_of_lt_of_le (c.lt b hb) hB)]; exact c.h b hb, c.l, c.b⟩
theorem Lt.wake {L : LX} {C : Addr → Prop} {B : Addr} {ν : Nu} {H : Hp} {s s' : Shared} (T : Lt L ν H s) (c : NoC L C B H) (k : KC C s s') : Lt L ν H s' := by
  refine ⟨T.ok, fun b o e => k.keep b o (T.bk b o e) fun z => c.b b o z e, fun a u e => ?_, T.fr, ?_⟩
  · refine (T.hok a u e).stay (fun b o hb q => k.keep b o q fun z => ?_) (fun _ q => q) fun _ _ q => q
    have hn := c.h b z
    rcases hb with rfl | hb
    · rw [hn] at e; cases e
    · rw [hn] at hb; cases hb
  · obtain ⟨m, ⟨o, es, ep, ho, r⟩, h⟩ := T.loc
    exact ⟨m, ⟨o, es, ep, k.keep _ o ho fun z => c.l _ z rfl, r⟩, h⟩
/-! ### a line -/
structure Ln where
  t : Nd
  h : Nd
  m : Option Int
  p : Int
  a : Int
def oiV : Option Int → V
  | none => .non
  | some i => .int i
structure LineCls (K : PySem.W.Frag) (C : Addr) : Prop where
  c : Cls K C
  e : NoAttr K C "ends"
  m : NoAttr K C "most"
  p : NoAttr K C "profit"
  a : NoAttr K C "amount"
def LineAt (C : Addr) (H : Hp) (l : Addr) (d : Ln) : Prop := ∃ dx fs e, H l = some (.ins C dx fs) ∧ fs.lookup ("ends" : Str) = some (.ref e) ∧ H e = some (.tup [ndV d.t, ndV d.h]) ∧ fs.lookup ("most" : Str) = some (oiV d.m) ∧ fs.lookup ("profit" : Str) = some (.int d.p) ∧ fs.lookup ("amount" : Str) = some (.int d.a) ∧ fs.lookup ("sides" : Str) = none
/-- a room, or none that bounds it -/
def roomL (d : Ln) : Option Int := d.m.map fun k => k - d.a
def openF (d : Ln) : Bool := match d.m with
  | none => true
  | some k => decide (d.a < k)
def sideF (d : Ln) : List V := [ndV d.t, ndV d.h, .int d.p, oiV (roomL d), .int 1]
def sideB (d : Ln) : List V := [ndV d.h, ndV d.t, .int (-d.p), .int d.a, .int (-1)]
def sidesL (d : Ln) : List (List V) := (if openF d = true then [sideF d] else []) ++ if 0 < d.a then [sideB d] else []
/-- the side is handed out -/
def TI (its : List (List V)) : Nat → Value → Shared → Shared → Prop := fun n v s₀ s => ∃ it p us, its[its.length - 1 - n]? = some it ∧ v = .ref p ∧ s₀.heap.objs.size ≤ p ∧ IsTup s.heap p us ∧ Vals it us.toList
theorem LineAt.same {C : Addr} {H H' : Hp} {l : Addr} {d : Ln} (h : LineAt C H l d) (k : ∀ b u, H b = some u → H' b = some u) : LineAt C H' l d := by
  obtain ⟨dx, fs, e, h1, h2, h3, h4⟩ := h
  exact ⟨dx, fs, e, k _ _ h1, h2, k _ _ h3, h4⟩
def sidesBody : List Stmt := defBody (mth 33 1)
section
variable {L : LX} {C : Addr} {l : Addr} {d : Ln} {pos : Pos} {H : Hp} {ν : Nu}
/-- self.f -/
theorem rd_fld {C : Addr} {f : Str} {v : V} {dx : Addr} {fs : List (Str × V)} {Q : V → Hp → Prop} {K : PySem.W.Frag} (hs : ν "self" = some (.ref l)) (h1 : H l = some (.ins C dx fs)) (c : Cls K C) (n : NoAttr K C f) (h2 : fs.lookup f = some v) (q : Q v H) : lfld K (lv "self") f ν H Q :=
  ⟨_, hs, l, C, dx, fs, v, rfl, h1, c, n, h2, q⟩

theorem sides_seg {A : Around} {B : Addr} {g : Nat} {Cc : Addr → Prop} {s : Shared} (cl : LineCls L.K C) (hco : L.env.scope.isCoroutine = false) (sm : Sm (A.over (.func sidesBody L.env) [])) (hs : ν "self" = some (.ref l)) (hl : LineAt C H l d) (T : Lt L ν H s)
    (nc : NoC L Cc B H) (hB : B ≤ s.heap.objs.size) (hb : AllBare s.gens) :
    Seg (model L.prog L.w) A (RP L.env.locals B g) (YP L.env.locals B Cc g (TI (sidesL d))) (sidesL d).length s (.func sidesBody L.env) ((model L.prog L.w).den (.func sidesBody L.env)) [] s := by
  have hi : interactive L.env = false := by simp [interactive, T.ok.kind]
  obtain ⟨dx, fs, e, q1, q2, q3, q4, q5, q6, _⟩ := hl
  refine seg_func ?_
  -- the second if
  have part2 : ∀ (n : Nat) (s₀ s2 : Shared) (H2 : Hp), Lt L ν H2 s2 → NoC L Cc B H2 → B ≤ s₀.heap.objs.size → s₀.heap.objs.size ≤ s2.heap.objs.size → KG L.env.locals B g s₀ s2 → (∀ b u, H b = some u → H2 b = some u) → n = (if 0 < d.a then [sideB d] else []).length →
      Seg (model L.prog L.w) A (RP L.env.locals B g) (YP L.env.locals B Cc g (TI (sidesL d))) n s₀ (.func sidesBody L.env) ((execs (sidesBody.drop 1) L.env).wrap (fun f => .pure (.done (.ret (match f with | .ret v => v | _ => .none))))
      (fun e => (leaving L.env e).wrap (fun _ => .raise e) .raise id id) id id) [] s2 := by
    intro n s₀ s2 H2 T2' nc2 hB0 hsz kg sam hn
    have r1 := sam _ _ q1
    have r3 := sam _ _ q3
    refine seg_execs_cons (seg_If (wpAny_mono ((plt_cmp (plc_gt (pl_fld pl_v) pl_int)).run _ _ s2 ν H2 (fun b H1 => b = decide (0 < d.a) ∧ H1 = H2) sm T2' (rd_fld hs r1 cl.c cl.a q6 ⟨_, _, rfl, rfl, rfl, rfl⟩)) (fun b s3 ⟨H3, g3, e1, e2⟩ => ?_) fun _ _ x => x.elim))
    subst e1 e2
    by_cases ha : 0 < d.a
    · rw [decide_eq_true ha, if_pos rfl]
      rw [if_pos ha] at hn
      subst hn
      refine seg_execs_cons (seg_Expr_Yield rfl rfl rfl (wpAny_mono ((pl_tup (pla_cons (pl_ix (pl_fld pl_v)) (pla_cons (pl_ix (pl_fld pl_v)) (pla_cons (pl_neg (pl_fld pl_v)) (pla_cons (pl_fld pl_v) (pla_cons (pl_neg pl_int) pla_nil)))))).run _ s3 ν H3
        (fun v H4 => ∃ p, v = .ref p ∧ H3 p = none ∧ H4 = upd H3 p (.tup (sideB d))) sm (T2'.gr g3) ?_) (fun v s4 ⟨x, H4, g4, r4, p, ex, hp, e4⟩ => ?_) fun _ _ x => x.elim) hco hi)
      · refine ⟨_, hs, l, C, dx, fs, _, rfl, r1, cl.c, cl.e, q2, e, _, _, rfl, r3, rfl, ?_⟩
        refine ⟨_, hs, l, C, dx, fs, _, rfl, r1, cl.c, cl.e, q2, e, _, _, rfl, r3, rfl, ?_⟩
        refine ⟨_, hs, l, C, dx, fs, _, rfl, r1, cl.c, cl.p, q5, _, rfl, ?_⟩
        refine ⟨_, hs, l, C, dx, fs, _, rfl, r1, cl.c, cl.a, q6, 1, rfl, ?_⟩
        exact ⟨by rw [sizeLine_eq]; show 5 ≤ 16777216; decide, fun p hp => ⟨p, rfl, hp, rfl⟩⟩
      · subst ex e4
        obtain rfl : v = Value.ref p := r4
        have T4 := (T2'.gr g3).gr g4
        have nc4 := (nc2.gr g3 (Nat.le_trans hB0 hsz)).gr g4 (Nat.le_trans (Nat.le_trans hB0 hsz) g3.sz)
        have hp4 : s₀.heap.objs.size ≤ p := by
          refine Nat.le_of_not_lt fun z => ?_
          have := g4.same p (Nat.lt_of_lt_of_le z (Nat.le_trans hsz g3.sz))
          rw [upd_same, hp] at this
          cases this
        intro kap hk
        obtain ⟨_, us, rv, tp⟩ := T4.hok p _ upd_same
        refine ⟨⟨sideB d, p, us.toArray, ?_, rfl, hp4, tp, by simpa using rv⟩, (kg.gr g3).gr g4, T4.frd, fun s' kc => hk .none s' ?_⟩
        · unfold sidesL
          rw [if_pos ha]
          split <;> rfl
        · refine seg_execs_nil (seg_execs_nil ?_)
          exact seg_end (.ok (.ret .none)) (.inl ⟨.inl rfl, rfl, Kp.refl kc.bare⟩)
    · rw [decide_eq_false ha, if_neg Bool.false_ne_true]
      rw [if_neg ha] at hn
      subst hn
      refine seg_execs_nil (seg_execs_nil ?_)
      exact seg_end (.ok (.ret .none)) (.inl ⟨.inl rfl, rfl, kg.gr g3⟩)
  refine seg_execs_cons (seg_If (wpAny_mono ((plt_or (plt_cmp (plc_isN (pl_fld pl_v))) (plt_or1 (plt_cmp (plc_lt (pl_fld pl_v) (pl_fld pl_v))))).run _ _ s ν H (fun b H1 => b = openF d ∧ H1 = H) sm T ?_) (fun b s3 ⟨H3, g3, e1, e2⟩ => ?_) fun _ _ x => x.elim))
  · refine ⟨_, hs, l, C, dx, fs, _, rfl, q1, cl.c, cl.m, q4, ?_⟩
    unfold openF
    cases hm : d.m with
    | none => exact ⟨rfl, rfl⟩
    | some k =>
      rw [hm] at q4
      refine iteF ?_
      exact ⟨_, hs, l, C, dx, fs, _, rfl, q1, cl.c, cl.a, q6, _, hs, l, C, dx, fs, _, rfl, q1, cl.c, cl.m, q4, _, _, rfl, rfl, rfl, rfl⟩
  subst e1 e2
  cases ho : openF d with
  | true =>
    rw [if_pos rfl]
    have hlen : (sidesL d).length = (if 0 < d.a then [sideB d] else []).length + 1 := by unfold sidesL; rw [if_pos ho]; simp
    rw [hlen]
    refine seg_execs_cons (seg_Expr_Yield rfl rfl rfl (wpAny_mono ((pl_tup (pla_star (pl_fld pl_v) (pla_cons (pl_fld pl_v) (pla_cons (pl_if (plt_cmp (plc_isN (pl_fld pl_v))) pl_non (pl_sub (pl_fld pl_v) (pl_fld pl_v))) (pla_cons pl_int pla_nil))))).run _ s3 ν H3
        (fun v H4 => ∃ p, v = .ref p ∧ H3 p = none ∧ H4 = upd H3 p (.tup (sideF d))) sm (T.gr g3) ?_) (fun v s4 ⟨x, H4, g4, r4, p, ex, hp, e4⟩ => ?_) fun _ _ x => x.elim) hco hi)
    · refine ⟨_, hs, l, C, dx, fs, _, rfl, q1, cl.c, cl.e, q2, e, _, rfl, q3, ?_⟩
      refine ⟨_, hs, l, C, dx, fs, _, rfl, q1, cl.c, cl.p, q5, ?_⟩
      refine ⟨_, hs, l, C, dx, fs, _, rfl, q1, cl.c, cl.m, q4, ?_⟩
      have fin : [ndV d.t, ndV d.h, .int d.p, oiV (roomL d), .int 1].length ≤ sizeLine := by rw [sizeLine_eq]; show 5 ≤ 16777216; decide
      cases hm : d.m with
      | none =>
        have er : oiV (roomL d) = .non := by unfold roomL; rw [hm]; rfl
        rw [er] at fin
        refine iteT ?_
        exact ⟨fin, fun p hp => ⟨p, rfl, hp, by unfold sideF; rw [er]; rfl⟩⟩
      | some k =>
        rw [hm] at q4
        have er : oiV (roomL d) = .int (k - d.a) := by unfold roomL; rw [hm]; rfl
        rw [er] at fin
        refine iteF ?_
        exact ⟨_, hs, l, C, dx, fs, _, rfl, q1, cl.c, cl.m, q4, _, hs, l, C, dx, fs, _, rfl, q1, cl.c, cl.a, q6, _, _, rfl, rfl, fin, fun p hp => ⟨p, rfl, hp, by unfold sideF; rw [er]; rfl⟩⟩
    · subst ex e4
      obtain rfl : v = Value.ref p := r4
      have T4 := (T.gr g3).gr g4
      have nc4 := (nc.gr g3 hB).gr g4 (Nat.le_trans hB g3.sz)
      have hp4 : s.heap.objs.size ≤ p := by
        refine Nat.le_of_not_lt fun z => ?_
        have := g4.same p (Nat.lt_of_lt_of_le z g3.sz)
        rw [upd_same, hp] at this
        cases this
      intro kap hk
      obtain ⟨_, us, rv, tp⟩ := T4.hok p _ upd_same
      refine ⟨⟨sideF d, p, us.toArray, ?_, rfl, hp4, tp, by simpa using rv⟩, ((Kp.refl hb).gr g3).gr g4, T4.frd, fun s' kc => hk .none s' ?_⟩
      · rw [hlen]
        unfold sidesL
        rw [if_pos ho]
        split <;> rfl
      · refine seg_execs_nil ?_
        have hB' : B ≤ s'.heap.objs.size := Nat.le_trans hB (Nat.le_trans (Nat.le_trans g3.sz g4.sz) kc.sz)
        refine part2 _ s' s' _ (T4.wake nc4 kc) nc4 hB' (Nat.le_refl _) (Kp.refl kc.bare) (fun b u hb' => ?_) rfl
        rw [upd_ne (ne_of_none hb' hp)]
        exact hb'
  | false =>
    rw [if_neg Bool.false_ne_true]
    refine seg_execs_nil ?_
    refine part2 _ s s3 _ (T.gr g3) (nc.gr g3 hB) hB g3.sz ((Kp.refl hb).gr g3) (fun _ _ z => z) ?_
    unfold sidesL
    rw [ho]
    simp
end
end Ws
end
section
/-! Generators: one is made by a call. -/
namespace Ws
open PySem PySem.Spec PyProof.Rows L2 GenW
/-- a generator method of one parameter -/
structure GenM (K : PySem.W.Frag) (name qual : Str) (st : Stmt) (f : Addr) (cdv : Value) : Prop where
  ex : ∃ (oc : Value) (od : Option Addr) (kV doc pm : Value) (an : Option Addr) (ct : Value) (osl : Array (Option Value)),
    K.lookup f = some ⟨oc, od, .func (PySem.W.fnOf name qual (defArgs st) (defBody st) (defScope st) .none kV doc pm an cdv ct), osl⟩ ∧ PySem.W.codeIn K cdv qual = true ∧
      ∀ u : Value, bindArgs (PySem.W.fnOf name qual (defArgs st) (defBody st) (defScope st) .none kV doc pm an cdv ct) ⟨[u], []⟩ = pure [(("self" : Str), u)]
structure GScp (sc : Scope) : Prop where
  kind : sc.kind = .function
  co : sc.isCoroutine = false
  gen : sc.isGenerator = true
  par : sc.names.lookup ("self" : Str) = some .local
structure MadeG (st : Stmt) (env : Env) (s : Shared) (u v : Value) (s' : Shared) : Prop where
  ex : ∃ a tk h', v = .ref a ∧ s' = { s with heap := h', gens := s.gens.push (.fresh (.func (defBody st) env)), toks := tk } ∧ h'.IsGen a s.gens.size ∧ (∀ b o, s.heap.get? b = some o → h'.get? b = some o) ∧
    s.heap.objs.size < a ∧ env.locals = s.heap.objs.size ∧ a < h'.objs.size ∧ ∃ m, h'.Ns env.locals m ∧ m "self" = some u
theorem make_raw {P : Program} {w : World} {K : PySem.W.Frag} {A : Around} {E : Value → Shared → Prop} {s : Shared} {name qual : Str} {st : Stmt} {f : Addr} {cdv u : Value} (G : GenM K name qual st f cdv) (S : GScp (defScope st)) (kin : K.In s.heap) (lim : s.heap.NoLimit) (hd : A.depth < recursionLimit) :
    wpAny (model P w) A (call (.ref f) [u]) (MadeG st (envOfC qual (defScope st) s.heap.objs.size f cdv) s u) E s := by
  obtain ⟨oc, od, kV, doc, pm, an, ct, osl, lk, hcd, hb⟩ := G.ex
  refine wpAny_call (codeAny_mono (R := fun r s' => match r with | .ok (.ret v) => MadeG st (envOfC qual (defScope st) s.heap.objs.size f cdv) s u v s' | _ => False) ?_ fun r s' hq => ?_)
  · refine codeAny_call_generator hd (kin _ _ lk) rfl S.co S.gen rfl (PySem.W.codeRec_of kin hcd) ?_
    rw [hb]
    refine wpAny_pure ?_
    refine wpAny_newFunctionEnv_cells S.kind (fun x hx => ?_) fun env he s1 x => ?_
    · rw [List.mem_singleton.mp hx]
      exact .inl S.par
    · subst he
      refine ⟨lim.keeps x.toInCall.keep, ?_⟩
      obtain ⟨h1, tk, es1, hk1⟩ := x.done
      have hns := x.toInCall.ns
      have lt1 : s.heap.objs.size < s1.heap.objs.size := hns.lt
      subst es1
      obtain ⟨mm, hns, hm⟩ : ∃ mm, h1.Ns s.heap.objs.size mm ∧ mm "self" = some u := ⟨_, hns, bindL_get (P := ["self"]) (vs := [u]) (i := 0) (by simp) rfl rfl S.par⟩
      refine ⟨_, _, _, rfl, rfl, ⟨_, _, _, Heap.get?_push_size _ rfl, rfl, rfl, rfl⟩, fun b o e => Heap.get?_push_of_some _ (hk1 b o e), lt1, rfl, ?_, mm, ?_, hm⟩
      · show h1.objs.size < (h1.push _).objs.size
        rw [Heap.size_push]
        exact Nat.lt_succ_self _
      · exact hns.keeps fun b o e => Heap.get?_push_of_some _ e
  · cases r with
    | error e => exact hq.elim
    | ok fl =>
      cases fl with
      | ret v => exact hq
      | next => exact hq.elim
      | brk => exact hq.elim
      | cont => exact hq.elim
/-- o.m() of a generator method -/
theorem lt_make {L : LX} {A : Around} {ν : Nu} {H : Hp} {s : Shared} {name qual m : Str} {st : Stmt} {f C : Addr} {cdv : Value} {o : Expr} {to : T2} {apos pos : Pos} {a : Addr} {dx : Addr} {fs : List (Str × V)} {pl : Sem Bool} {Q : Value → Shared → Prop} {E : Value → Shared → Prop}
    (G : GenM L.K name qual st f cdv) (S : GScp (defScope st)) (hc : Cls L.K C) (hm : Meth L.K C m f) (sm : Sm A) (T : Lt L ν H s) (ho : PL L o to) (hto : to ν H fun x H1 => x = .ref a ∧ H1 a = some (.ins C dx fs) ∧ fs.lookup m = none)
    (hq : ∀ H1 s1 v s', Gr L.prog L.w H s H1 s1 → Lt L ν H1 s1 → MadeG st (envOfC qual (defScope st) s1.heap.objs.size f cdv) s1 (.ref a) v s' → Q v s')
    (ht : eval (.Call (.Attribute o m apos) [] [] pos) L.env = (do
      let ov ← eval o L.env
      standAt apos.atName
      let (f, first) ← holding [ov] (getMethod ov m pl)
      callWith pos f first (backTo pos (starEach [] L.env)) (backToKw pos (keywordEach [] L.env))) := by rfl) :
    wpAny (model L.prog L.w) A (eval (.Call (.Attribute o m apos) [] [] pos) L.env) Q E s := by
  refine PySem.W.methodCall_KW (pl := pl) (ho.thn' sm T hto fun u x H1 s1 g T1 r ⟨ex, h1, h2⟩ => ?_) ht
  subst ex
  obtain rfl : u = Value.ref a := r
  obtain ⟨mA, O, r, _, _, _⟩ := ins_get T1.hok h1
  have hn : mA m = none := RelO.none_of (by rw [← h2]; exact r m)
  refine get_meth T1.kin O (hc.get m) hm.at_ hm.fn hn ?_
  refine PySem.W.callWith_K0 (first := [.ref a]) T1.kin hm.kp (wpAny_mono (make_raw G S T1.kin T1.nl sm.dp) (fun v s' q => hq H1 s1 v s' g T1 q) fun _ _ x => x)
end Ws
end
section
/-! Generators: a for loop in a generator's body. -/
namespace Ws
open PySem PySem.Spec PyProof.Rows L2 GenW
/-- what a loop's call hands on -/
def LF (env : Env) (K : Flow → Sem PySem.Fin) (J : Value → Sem PySem.Fin) (gd : Bool → Bool) (lv : List Value → List Value) : Result → Sem PySem.Fin :=
  fun r => ((match r with | .ok f => (.pure f : Sem Flow) | .error e => .raise e).onRaise (cameBack env)).wrap K J gd lv
/-- behind the body of a loop -/
def TK (target : Expr) (it : Value) (body : List Stmt) (env : Env) : Flow → Sem PySem.Fin
  | .next | .cont => .pure (.again (.forLoop target it body [] env))
  | .brk => .pure (.done .next)
  | .ret v => .pure (.done (.ret v))
def TJ (env : Env) : Value → Sem PySem.Fin := fun e => (do noteFrame e env; theTreesLotGoes e : Sem Unit).wrap (fun _ => .raise e) .raise id id
section
variable {M : Model} {A : Around} {R : GenEnd} {Y : Protocol} {n : Nat} {s₀ : Shared} {c : Code} {fs : List Frame} {s : Shared} {env : Env} {K : Flow → Sem PySem.Fin} {J : Value → Sem PySem.Fin} {gd : Bool → Bool} {lv : List Value → List Value}
theorem seg_For {target iter : Expr} {body : List Stmt} {pos : Pos}
    (h : wpAny M (A.over c fs) (eval iter env) (fun x s1 => wpAny M (A.over c fs) (pyIter x) (fun it s2 => ∀ p, Seg M A R Y n s₀ (.forLoop target it body [] env) (M.den (.forLoop target it body [] env)) (.ret (LF env K J gd lv) none (gd false) (lv []) c p [] :: fs) s2) (fun _ _ => False) s1) (fun _ _ => False) s)
    (hs : ∀ x, foldedSetIterable iter env x = pure x := by intro _; rfl) :
    Seg M A R Y n s₀ c ((exec (.For target iter body [] pos) env).wrap K J gd lv) fs s := by
  rw [exec_For]
  refine seg_bind_wrap (wpAny_standAt ?_)
  refine seg_bind_wrap (wpAny_mono h (fun x s1 h1 => ?_) fun _ _ z => z.elim)
  refine seg_bind_wrap (wpAny_of_eq (hs x) ?_)
  refine seg_bind_wrap (wpAny_standAt ?_)
  refine seg_bind_wrap (wpAny_holding (wpAny_mono h1 (fun it s2 h2 => ?_) fun _ _ z => z.elim))
  exact seg_call h2
end
section
variable {P : Program} {w : World} {A : Around} {R : GenEnd} {Y : Protocol} {n : Nat} {s₀ : Shared} {fs : List Frame} {s : Shared} {env : Env}
theorem seg_forTurn {target : Expr} {it : Value} {body : List Stmt}
    (h : wpAny (model P w) (A.over (.forLoop target it body [] env) fs) (pyNext it) (fun r s1 => match r with
      | none => Seg (model P w) A R Y n s₀ (.block [] env) (.pure (.done .next)) fs s1
      | some v => wpAny (model P w) (A.over (.forLoop target it body [] env) fs) (letOwnedTupleGo target it v) (fun _ s2 => wpAny (model P w) (A.over (.forLoop target it body [] env) fs) (assign target env v)
          (fun _ s3 => Seg (model P w) A R Y n s₀ (.forLoop target it body [] env) ((execs body env).wrap (TK target it body env) (TJ env) id id) fs s3) (fun _ _ => False) s2) (fun _ _ => False) s1) (fun _ _ => False) s) :
    Seg (model P w) A R Y n s₀ (.forLoop target it body [] env) ((model P w).den (.forLoop target it body [] env)) fs s := by
  show Seg _ A R Y n s₀ _ ((forTurn target it body [] env).onRaise (fun x => do noteFrame x env; theTreesLotGoes x)) fs s
  unfold forTurn
  rw [Sem.onRaise_eq_wrap]
  refine seg_bind_wrap (wpAny_standAt ?_)
  refine seg_bind_wrap (wpAny_onRaise (wpAny_mono h (fun r s1 h1 => ?_) fun _ _ z => z.elim))
  cases r with
  | none => exact seg_again rfl h1
  | some v =>
    refine seg_bind_wrap (wpAny_mono h1 (fun _ s2 h2 => ?_) fun _ _ z => z.elim)
    refine seg_bind_wrap (wpAny_mono h2 (fun _ s3 h3 => ?_) fun _ _ z => z.elim)
    rw [Sem.bind_eq_wrap', Sem.wrap_wrap]
    rw [Sem.wrap_congr (execs body env) _ _ (K' := TK target it body env) (H' := TJ env) (fun f => by cases f <;> rfl) (fun e => by first | exact Sem.bind_eq_wrap _ _ | (show (do noteFrame e env; theTreesLotGoes e : Sem Unit).bind (fun _ => .raise e) = _; rw [Sem.bind_eq_wrap] <;> rfl))]
    exact h3
end
/-! ### stores, turns -/
def nuSet (ν : Nu) (x : Str) (v : V) : Nu := fun y => if y = x then some v else ν y
section
variable {L : LX} {ν : Nu} {H : Hp} {s : Shared} {A : Around}
theorem HOk.but {P : Program} {w : World} {h h' : Heap} {a : Addr} (ok : HOk P w H h) (n : H a = none) (k : ∀ b o, b ≠ a → h.get? b = some o → h'.get? b = some o) : HOk P w H h' := fun b u e => by
  refine (ok b u e).stay (fun c w' hc q => k c w' ?_ q) (fun _ q => q) fun _ _ q => q
  rintro rfl
  rcases hc with rfl | hc
  · rw [n] at e; cases e
  · rw [n] at hc; cases hc
theorem lt_store {x : Str} {v : V} {u : Value} {Q : Unit → Shared → Prop} {E : Value → Shared → Prop} {pos : Pos} (T : Lt L ν H s) (hk : L.env.kindOf x = some .local) (r : RelV v u)
    (h : ∀ h' t, Lt L (nuSet ν x v) H { s with heap := h', toks := t } → Heap.SameBut L.env.locals s.heap h' → Q () { s with heap := h', toks := t }) :
    wpAny (model L.prog L.w) A (assign (.Name x pos) L.env u) Q E s := by
  obtain ⟨m, hn, hl⟩ := id T.loc
  have hcls : (L.env.scope.kind == .class || (L.env.scope.kind == .module && L.env.locals != L.env.globals)) = false := by rw [T.ok.kind]; rfl
  refine wpAny_assign_Name (wpAny_storeName_local hk hn (fun h' hn' hs => ?_) hcls)
  refine h h' _ ⟨T.ok, fun b o e => ?_, HOk.but T.hok T.fr fun b o n e => (hs.2 b n).trans e, T.fr, _, hn', fun y w hy => ?_⟩ hs
  · refine (hs.2 b fun z => ?_).trans (T.bk b o e)
    rw [z, T.ok.bl] at e
    cases e
  · unfold nuSet at hy
    by_cases hyx : y = x
    · rw [if_pos hyx] at hy
      cases hy
      subst hyx
      exact ⟨hk, u, by simp, r⟩
    · rw [if_neg hyx] at hy
      obtain ⟨k1, u1, e1, r1⟩ := hl y w hy
      exact ⟨k1, u1, by simp [hyx, e1], r1⟩
/-- an iterator that is nobody's has turned -/
theorem Lt.turn {I : Addr} {h' : Heap} {t : Nat} (T : Lt L ν H s) (n : H I = none) (nl : I ≠ L.env.locals) (nb : L.base.get? I = none) (k : ∀ b o, b ≠ I → s.heap.get? b = some o → h'.get? b = some o) : Lt L ν H { s with heap := h', toks := t } := by
  obtain ⟨m, ⟨o, es, ep, ho, r⟩, hl⟩ := id T.loc
  refine ⟨T.ok, fun b o e => k b o (fun z => ?_) (T.bk b o e), HOk.but T.hok n k, T.fr, m, ⟨o, es, ep, k _ o (Ne.symm nl) ho, r⟩, hl⟩
  rw [z, nb] at e
  cases e
/-- the same, where more is known -/
theorem Lt.keep {O : Addr → Obj → Prop} {G : Nat → Prop} {s' : Shared} (T : Lt L ν H s) (k : Kp O G s s') (hb : ∀ b o, L.base.get? b = some o → ¬ O b o) (hh : ∀ b o u, H b = some u → s.heap.get? b = some o → ¬ O b o) (hl : ∀ o, ¬ O L.env.locals o) : Lt L ν H s' := by
  obtain ⟨m, ⟨o, es, ep, ho, r⟩, hl'⟩ := id T.loc
  refine ⟨T.ok, fun b o e => k.keep b o (T.bk b o e) (hb b o e), fun a u e => ?_, T.fr, m, ⟨o, es, ep, k.keep _ o ho (hl o), r⟩, hl'⟩
  refine (T.hok a u e).stay (fun c w hc q => ?_) (fun _ q => q) fun _ _ q => q
  rcases hc with rfl | hc
  · exact k.keep _ w q (hh _ w u e q)
  · exact k.keep c w q (hh c w _ hc q)
/-- the abstract heap of before is still held -/
theorem Lt.gr0 {H' : Hp} {s' : Shared} (T : Lt L ν H s) (g : Gr L.prog L.w H s H' s') : Lt L ν H s' := by
  obtain ⟨m, ⟨o, es, ep, ho, r⟩, hl⟩ := id T.loc
  exact ⟨T.ok, fun b o e => g.keep b o (T.bk b o e), T.hok.kept g.keep, T.fr, m, ⟨o, es, ep, g.keep _ _ ho, r⟩, hl⟩
end
end Ws
end
section
/-! Generators: a loop over a line's sides in another generator. -/
namespace Ws
open PySem PySem.Spec PyProof.Rows L2 GenW
theorem Kp.grow {O : Addr → Obj → Prop} {G : Nat → Prop} {s s1 : Shared} {h' : Heap} (k : Kp O G s s1) (q : ∀ b o, s1.heap.get? b = some o → h'.get? b = some o) (z : s.heap.objs.size ≤ h'.objs.size) : Kp O G s { s1 with heap := h' } :=
  ⟨k.os, k.bare, fun b o e n => q b o (k.keep b o e n), k.gens, z, k.gz⟩
theorem Lt.kept {L : LX} {ν : Nu} {H : Hp} {s s' : Shared} (T : Lt L ν H s) (k : ∀ b o, s.heap.get? b = some o → s'.heap.get? b = some o) : Lt L ν H s' := by
  obtain ⟨m, ⟨o, es, ep, ho, r⟩, hl⟩ := id T.loc
  exact ⟨T.ok, fun b o e => k b o (T.bk b o e), T.hok.kept k, T.fr, m, ⟨o, es, ep, k _ _ ho, r⟩, hl⟩
/-- the pair is handed out -/
def TO (its : List (Addr × List V)) : Nat → Value → Shared → Shared → Prop := fun n v s₀ s => ∃ l sd p q us, its[its.length - 1 - n]? = some (l, sd) ∧ v = .ref q ∧ s₀.heap.objs.size ≤ p ∧ s₀.heap.objs.size ≤ q ∧ p ≠ q ∧ IsTup s.heap p us ∧ Vals sd us.toList ∧ ∃ ws, IsTup s.heap q ws ∧ Vals [.ref l, .ref p] ws.toList
/-- while the inner one sleeps -/
def Sl (P : Program) (w : World) (Ai : Around) (Lil Bi Ni gi : Nat) (Ci : Addr → Prop) (T : Nat → Value → Shared → Shared → Prop) (m : Nat) (s : Shared) : Prop :=
  ∃ gs, s.gens[gi]? = some gs ∧ ∀ s', KC Ci (s.setGen gi .running) s' → gs.Goes (model P w) Ai (RP Lil Bi Ni) (YP Lil Bi Ci Ni T) m (.send .none) s'
theorem setGen_other {s : Shared} {g i : Nat} {x : GenState} (h : i ≠ g) : (s.setGen g x).gens[i]? = s.gens[i]? := by
  show (s.gens.setIfInBounds g x)[i]? = _
  rw [Array.getElem?_setIfInBounds_ne (Ne.symm h)]
theorem sl_step {P : Program} {w : World} {Ai : Around} {Lil Bi Ni gi : Nat} {Ci : Addr → Prop} {T : Nat → Value → Shared → Shared → Prop} {m : Nat} {s s2 : Shared} (h : Sl P w Ai Lil Bi Ni gi Ci T m s) (k : Kp (fun b _ => Ci b) G0 s s2) : Sl P w Ai Lil Bi Ni gi Ci T m s2 := by
  obtain ⟨gs, e, q⟩ := h
  refine ⟨gs, k.gens gi gs (fun z => z) e, fun s' kc => q s' ?_⟩
  have hg : gi < s.gens.size := (Array.getElem?_eq_some_iff.mp e).1
  refine ⟨kc.os.trans k.os, kc.bare, fun b o eb n => kc.keep b o (k.keep b o eb n) n, fun i x _ ex => kc.gens i x (fun z => z) ?_, Nat.le_trans k.sz kc.sz, ?_⟩
  · by_cases hi : i = gi
    · subst hi
      rw [setGen_at hg] at ex
      rw [setGen_at (Nat.lt_of_lt_of_le hg k.gz)]
      exact ex
    · rw [setGen_other hi] at ex ⊢
      exact k.gens i x (fun z => z) ex
  · have := kc.gz
    have := k.gz
    rw [setGen_size] at *
    omega
structure OC (L : LX) (A : Around) (c2 : Code) (fs : List Frame) (Co : Addr → Prop) (Lil Bo Bi : Nat) (No Ni gi : Nat) (H : Hp) (a : Nat) : Prop where
  sm : Sm (A.over c2 fs)
  hco : L.env.scope.isCoroutine = false
  sp : splitAtGen fs = none
  gd : fs.any Frame.guarded = false
  ks : L.env.kindOf "side" = some .local
  o1 : @LT.lt Nat _ L.env.locals Bo
  o2 : Bo ≤ Lil
  o3 : Lil < Bi
  tr : ∀ (b : Nat) u, H b = some u → b < Lil
  bs : ∀ (b : Nat) o, L.base.get? b = some o → b < Lil
  nc : NoC L Co Bo H
  a1 : Lil < a
  a2 : a < Bi
  g1 : No ≤ gi
  g2 : gi < Ni
/-- kept by an outer generator's turns in the inner loop -/
abbrev KS (L : LX) (Co : Addr → Prop) (Lil Bi : Addr) : Shared → Shared → Prop := Kp (fun b _ => b = L.env.locals ∨ b = Lil ∨ Bi ≤ b ∨ Co b) (fun _ => True)
def yieldSt : Stmt → Prop := fun _ => True
section
variable {L : LX} {A : Around} {fs : List Frame} {Co : Addr → Prop} {Lil Bo Bi : Nat} {No Ni gi : Nat} {H : Hp} {a : Nat} {l : Addr} {tp : Pos} {x1 : Nat} {p1 p2 p3 p4 p5 : Pos} {its : List (List V)} {itsO : List (Addr × List V)} {s6 : Shared}
theorem inner_loop {body : List Stmt} (hbody : body = [.Expr (.Yield (some (.Tuple [.Name "line" p1, .Name "side" p2] x1 p3)) p4) p5])
    (oc : OC L A (.forLoop (.Name "side" tp) (.ref a) body [] L.env) fs Co Lil Bo Bi No Ni gi H a) (tl : List (Addr × List V))
    (hend : ∀ (s₀ s : Shared) (ν : Nu), Lt L ν H s → Bo ≤ s₀.heap.objs.size → No ≤ s₀.gens.size → KG L.env.locals Bo No s₀ s → KS L Co Lil Bi s6 s →
      Seg (model L.prog L.w) A (RP L.env.locals Bo No) (YP L.env.locals Bo Co No (TO itsO)) tl.length s₀ (.block [] L.env) (.pure (.done .next)) fs s) :
    ∀ (rem : List (List V)) (prei : List (List V)) (preO : List (Addr × List V)) (s₀ s : Shared) (ν : Nu), its = prei ++ rem → itsO = preO ++ (rem.map (fun x => (l, x)) ++ tl) → ν "line" = some (.ref l) → Lt L ν H s → s.heap.IsGen a gi →
      Sl L.prog L.w (A.over (.forLoop (.Name "side" tp) (.ref a) body [] L.env) fs).in1 Lil Bi Ni gi (fun b => b = L.env.locals ∨ Co b) (TI its) rem.length s → FrD Lil s.heap → Bo ≤ s₀.heap.objs.size → No ≤ s₀.gens.size → Bi ≤ s.heap.objs.size → KG L.env.locals Bo No s₀ s → KS L Co Lil Bi s6 s →
      Seg (model L.prog L.w) A (RP L.env.locals Bo No) (YP L.env.locals Bo Co No (TO itsO)) (rem.length + tl.length) s₀ (.forLoop (.Name "side" tp) (.ref a) body [] L.env) ((model L.prog L.w).den (.forLoop (.Name "side" tp) (.ref a) body [] L.env)) fs s := by
  intro rem
  -- what the inner one's run keeps, seen from outside
  have lo : ∀ b o, L.base.get? b = some o → b ≠ L.env.locals → True := fun _ _ _ _ => True.intro
  have run1 : ∀ (s₀ s s1 : Shared) (ν : Nu) (x : GenState), Lt L ν H s → FrD Lil s.heap → KG L.env.locals Bo No s₀ s → KS L Co Lil Bi s6 s → x.bare = true → KG Lil Bi Ni (s.setGen gi .running) s1 →
      Lt L ν H (s1.setGen gi x) ∧ KG L.env.locals Bo No s₀ (s1.setGen gi x) ∧ KS L Co Lil Bi s6 (s1.setGen gi x) := by
    intro s₀ s s1 ν x T fd kg ks hx ki
    have k1 : Kp (fun b o => b = Lil ∨ (Bi ≤ b ∧ ¬ TupO o)) (fun i => i = gi ∨ Ni ≤ i) s (s1.setGen gi x) :=
      ((Kp.setGen (g := gi) (x := .running) kg.bare rfl).comp ki (O := fun b o => b = Lil ∨ (Bi ≤ b ∧ ¬ TupO o)) (G := fun i => i = gi ∨ Ni ≤ i) (fun _ _ _ z => z.elim) (fun _ _ _ z => z) (fun i z => .inl z) fun i z => .inr z).comp
        (Kp.setGen (g := gi) (x := x) ki.bare hx) (fun _ _ _ z => z) (fun _ _ _ z => z.elim) (fun _ z => z) fun i z => .inl z
    obtain ⟨fo, fe, fp, hfo, hfd⟩ := fd
    refine ⟨T.keep k1 (fun b o e z => ?_) (fun b o u e eo z => ?_) (fun o z => ?_), kg.comp k1 (fun _ _ _ z => z) (fun b o e z => ?_) (fun _ z => z) (fun i z => ?_), ks.comp k1 (fun _ _ _ z => z) (fun b o e z => ?_) (fun _ z => z) (fun i z => True.intro)⟩
    · have := oc.bs b o e
      have := oc.o3
      rcases z with z | z
      · have z' : @Eq Nat b Lil := z
        omega
      · have z' : @LE.le Nat _ Bi b := z.1
        omega
    · have := oc.tr b u e
      have := oc.o3
      rcases z with z | z
      · have z' : @Eq Nat b Lil := z
        omega
      · have z' : @LE.le Nat _ Bi b := z.1
        omega
    · have := oc.o1
      have := oc.o2
      have := oc.o3
      rcases z with z | z
      · have z' : @Eq Nat L.env.locals Lil := z
        omega
      · have z' : @LE.le Nat _ Bi L.env.locals := z.1
        omega
    · refine .inr ⟨?_, fun t => ?_⟩
      · have := oc.o2
        have := oc.o3
        rcases z with z | z
        · have z' : @Eq Nat b Lil := z
          show @LE.le Nat _ Bo b
          omega
        · have z' : @LE.le Nat _ Bi b := z.1
          show @LE.le Nat _ Bo b
          omega
      · rcases z with z | z
        · subst z
          rw [hfo] at e
          cases e
          obtain ⟨_, its', n, hd⟩ := t
          rw [hfd] at hd
          cases hd
        · exact z.2 t
    · have := oc.g1
      have := oc.g2
      rcases z with z | z <;> omega
    · rcases z with z | z
      · exact .inr (.inl z)
      · exact .inr (.inr (.inl z.1))
  induction rem with
  | nil =>
    intro prei preO s₀ s ν e1 e2 hline T hg sl fd hB0 hN0 hBi kg ks
    obtain ⟨gs, hgs, hgo⟩ := sl
    refine seg_forTurn ?_
    refine wpAny_hsz (next_genG (A := A.over (.forLoop (.Name "side" tp) (.ref a) body [] L.env) fs) (n := 0) (F := fun n s₀ s => n = 0 ∧ KG Lil Bi Ni s₀ s) (Er := fun _ _ => False) oc.sm.hd T.nl oc.sm.dp hg hgs (hgo _ (Kp.refl (allBare_setGen kg.bare rfl)))
      (fun v s₁ gs' hbare hv => ?_) (fun s₁ hp h' hk => ?_) fun e s₁ he => he.elim)
    · obtain ⟨_, kq, _, hc⟩ := hv
      exact (hc s₁ (Kp.refl kq.bare)).elim
    · obtain ⟨_, kq⟩ := hp
      intro hsz
      obtain ⟨T1, kg1, ks1⟩ := run1 s₀ s s₁ ν .finished T fd kg ks rfl kq
      have T2 : Lt L ν H { s₁.setGen gi .finished with heap := h' } := T1.kept hk
      have := kg.sz
      have := ks.sz
      show Seg _ _ _ _ (0 + tl.length) _ _ _ _ _
      rw [Nat.zero_add]
      have hsz' : s.heap.objs.size ≤ h'.objs.size := hsz
      exact hend s₀ _ ν T2 hB0 hN0 (kg1.grow hk (Nat.le_trans kg.sz hsz')) (ks1.grow hk (Nat.le_trans ks.sz hsz'))
  | cons sd rem ih =>
    intro prei preO s₀ s ν e1 e2 hline T hg sl fd hB0 hN0 hBi kg ks
    obtain ⟨gs, hgs, hgo⟩ := sl
    have hgl : gi < s.gens.size := (Array.getElem?_eq_some_iff.mp hgs).1
    refine seg_forTurn ?_
    refine next_genG (A := A.over (.forLoop (.Name "side" tp) (.ref a) body [] L.env) fs) (n := rem.length + 1) (F := fun n s₀ s => n = 0 ∧ KG Lil Bi Ni s₀ s) (Er := fun _ _ => False) oc.sm.hd T.nl oc.sm.dp hg hgs (hgo _ (Kp.refl (allBare_setGen kg.bare rfl)))
      (fun v s₁ gs' hbare hv => ?_) (fun s₁ hp h' hk => absurd hp.1 (Nat.succ_ne_zero _)) fun e s₁ he => he.elim
    obtain ⟨⟨it, p, us, hit, ev, hpz, htp, hvals⟩, kq, fd1, hc⟩ := hv
    subst ev
    have eit : it = sd := by
      have : its[its.length - 1 - (rem.length + 1 - 1)]? = some sd := by
        rw [e1, List.length_append, List.length_cons]
        rw [show prei.length + (rem.length + 1) - 1 - (rem.length + 1 - 1) = prei.length by omega]
        rw [List.getElem?_append_right (Nat.le_refl _), Nat.sub_self]
        rfl
      rw [this] at hit
      exact (Option.some.inj hit).symm
    subst eit
    obtain ⟨T1, kg1, ks1⟩ := run1 s₀ s s₁ ν gs' T fd kg ks hbare kq
    refine wpAny_pure ?_
    refine lt_store (v := .ref p) T1 oc.ks rfl fun h2 t2 T2 sb2 => ?_
    have hi : interactive L.env = false := by simp [interactive, T.ok.kind]
    have olt : @LT.lt Nat _ L.env.locals Bo := oc.o1
    have o2 := oc.o2
    have o3 := oc.o3
    have a1 := oc.a1
    have a2 := oc.a2
    have pz : @LE.le Nat _ s.heap.objs.size p := hpz
    have eline : nuSet ν "side" (.ref p) "line" = some (.ref l) := hline
    subst hbody
    have elen : (it :: rem).length + tl.length = (rem.length + tl.length) + 1 := by rw [List.length_cons]; omega
    rw [elen]
    refine seg_execs_cons (seg_Expr_Yield oc.sp rfl oc.gd (wpAny_mono ((pl_tup (pla_cons pl_v (pla_cons pl_v pla_nil))).run _ _ _ H (fun v H4 => ∃ q, v = .ref q ∧ H q = none ∧ H4 = upd H q (.tup [.ref l, .ref p])) oc.sm T2 ?_) (fun v s9 ⟨x, H4, g4, r4, q, ex, hq, e4⟩ => ?_) fun _ _ x => x.elim) oc.hco hi)
    · exact ⟨_, eline, _, rfl, by rw [sizeLine_eq]; show 2 ≤ 16777216; decide, fun q hq => ⟨q, rfl, hq, rfl⟩⟩
    subst ex e4
    obtain rfl : v = Value.ref q := r4
    have T9 := T2.gr0 g4
    -- what is kept till here
    have keep12 : ∀ (b : Nat) o, b ≠ (L.env.locals : Nat) → s₁.heap.get? b = some o → s9.heap.get? b = some o := fun b o n e => g4.keep b o ((sb2.2 b n).trans e)
    have kb : Kp (fun b _ => b = L.env.locals) G0 (s₁.setGen gi gs') s9 := ((Kp.but (t := t2) sb2 kg1.bare).gr g4)
    have tp9 : IsTup s9.heap p us := by
      obtain ⟨o, ho, r⟩ := htp
      exact ⟨o, keep12 p o (by omega) ho, r⟩
    have plt : @LT.lt Nat _ p h2.objs.size := by
      have q1 : @LT.lt Nat _ p s₁.heap.objs.size := htp.lt
      have q2 : h2.objs.size = s₁.heap.objs.size := sb2.1
      omega
    have qge : @LE.le Nat _ h2.objs.size q := by
      refine Nat.le_of_not_lt fun z => ?_
      have := g4.same q z
      rw [upd_same, hq] at this
      cases this
    obtain ⟨_, ws, rws, tpq⟩ := g4.hok q _ upd_same
    have s0s : s₀.heap.objs.size ≤ s.heap.objs.size := kg.sz
    have hrun : s₁.gens[gi]? = some .running := kq.gens gi _ (fun z => by have := oc.g2; omega) (setGen_at hgl)
    have hgl1 : gi < s₁.gens.size := (Array.getElem?_eq_some_iff.mp hrun).1
    intro kap hk
    refine ⟨⟨l, it, p, q, us, ?_, rfl, Nat.le_trans s0s pz, ?_, ?_, tp9, hvals, ws.toArray, tpq, by simpa using rws⟩, kg1.comp kb (fun _ _ _ z => z) (fun b o e z => .inl z) (fun _ z => z) (fun _ z => z.elim), T9.frd, fun s' kc => hk .none s' ?_⟩
    · rw [e2, List.length_append, List.length_append, List.length_map, List.length_cons]
      rw [show preO.length + (rem.length + 1 + tl.length) - 1 - (rem.length + tl.length) = preO.length by omega]
      rw [List.getElem?_append_right (Nat.le_refl _), Nat.sub_self]
      rfl
    · show @LE.le Nat _ s₀.heap.objs.size q
      omega
    · intro z
      have z' : @Eq Nat p q := z
      omega
    refine seg_execs_nil (seg_again rfl ?_)
    have nCo : ∀ b : Nat, Bo ≤ b → ¬ Co b := fun b hb z => by
      have : @LT.lt Nat _ b Bo := oc.nc.lt b z
      omega
    have keep13 : ∀ (b : Nat) o, Bo ≤ b → s₁.heap.get? b = some o → s'.heap.get? b = some o := fun b o hb e => kc.keep b o (keep12 b o (by omega) e) (nCo b hb)
    have szz : s.heap.objs.size ≤ s'.heap.objs.size := by
      have q1 : (s₁.setGen gi gs').heap.objs.size ≤ s9.heap.objs.size := kb.sz
      have q2 : (s.setGen gi .running).heap.objs.size ≤ s₁.heap.objs.size := kq.sz
      have q3 := kc.sz
      have q4 : s.heap.objs.size ≤ s₁.heap.objs.size := q2
      have q5 : s₁.heap.objs.size ≤ s9.heap.objs.size := q1
      omega
    refine ih (prei ++ [it]) (preO ++ [(l, it)]) s' s' _ (by rw [e1]; simp) (by rw [e2]; simp) eline (T9.wake oc.nc kc) ?_ ?_ ?_ ?_ ?_ ?_ (Kp.refl kc.bare) ?_
    · obtain ⟨o, nm, qn, ho, r⟩ := hg
      refine ⟨o, nm, qn, keep13 a o (by omega) (kq.keep a o ho fun z => ?_), r⟩
      rcases z with z | z
      · have z' : @Eq Nat a Lil := z
        omega
      · have z' : @LE.le Nat _ Bi a := z.1
        omega
    · refine sl_step (s := s₁.setGen gi gs') ?_ (kb.comp kc (fun b o _ z => .inl z) (fun b o _ z => .inr z) (fun _ z => z) (fun _ z => z))
      refine ⟨gs', setGen_at hgl1, fun s'' kc'' => hc s'' ?_⟩
      refine ⟨kc''.os, kc''.bare, kc''.keep, fun i x _ e => kc''.gens i x (fun z => z) ?_, kc''.sz, ?_⟩
      · by_cases hi : i = gi
        · subst hi
          rw [hrun] at e
          cases e
          exact setGen_at (by rw [setGen_size]; exact hgl1)
        · rw [setGen_other hi, setGen_other hi]
          exact e
      · have := kc''.gz
        rw [setGen_size, setGen_size] at this
        exact this
    · obtain ⟨o, es, ep, ho, hd⟩ := fd1
      exact ⟨o, es, ep, keep13 Lil o o2 ho, hd⟩
    · show @LE.le Nat _ Bo s'.heap.objs.size
      omega
    · have q1 := kg1.gz
      have q2 := kb.gz
      have q3 := kc.gz
      omega
    · show @LE.le Nat _ Bi s'.heap.objs.size
      omega
    · exact (ks1.comp kb (fun _ _ _ z => z) (fun b o _ z => .inl z) (fun _ z => z) (fun _ z => z.elim)).comp kc (fun _ _ _ z => z) (fun b o _ z => .inr (.inr (.inr z))) (fun _ z => z) (fun _ z => z.elim)
end
end Ws
end
section
/-! Generators: all lines' sides. -/
namespace Ws
open PySem PySem.Spec PyProof.Rows L2 GenW
theorem push_keep {α : Type} {a : Array α} {i : Nat} {x y : α} (e : a[i]? = some x) : (a.push y)[i]? = some x := by
  obtain ⟨h, q⟩ := Array.getElem?_eq_some_iff.mp e
  rw [Array.getElem?_push_lt h, q]
theorem Sm.ofRoom {k : Nat} {A : Around} (r : Room k A) : Sm A := ⟨r.hd, r.units, r.depth⟩
def flowBody : List Stmt := defBody (mth 34 2)
def refs (ls : List (Addr × Ln)) : List V := ls.map fun x => .ref x.1
def bare2 (d : Ln) : Bool := decide (d.t = none) && decide (d.h = none)
def itemsO : List (Addr × Ln) → List (Addr × List V)
  | [] => []
  | x :: r => (if bare2 x.2 = true then [] else (sidesL x.2).map fun y => (x.1, y)) ++ itemsO r
structure FlowCls (K : PySem.W.Frag) (C : Addr) : Prop where
  c : Cls K C
  l : NoAttr K C "lines"
  s : NoAttr K C "spare"
def LinesAt (CL CF : Addr) (H : Hp) (fl : Addr) (ls : List (Addr × Ln)) : Prop := ∃ dx fs l1 l2 a b, H fl = some (.ins CF dx fs) ∧ fs.lookup ("lines" : Str) = some (.ref l1) ∧ fs.lookup ("spare" : Str) = some (.ref l2) ∧ H l1 = some (.lst (refs a)) ∧ H l2 = some (.lst (refs b)) ∧ ls = a ++ b ∧ ls.length ≤ sizeLine ∧ fs.lookup ("sides" : Str) = none ∧
  ∀ x ∈ ls, LineAt CL H x.1 x.2 ∧ okN x.2.t ∧ okN x.2.h
section
variable {L : LX} {A : Around} {CL CF fl f1 : Addr} {cdv1 : Value} {Bo : Nat} {No : Nat} {Co : Addr → Prop} {ν : Nu} {H : Hp} {s : Shared} {ls : List (Addr × Ln)} {qual1 : Str}
theorem outer_loop {body1 : List Stmt} {a0 a1 a2 a3 a4 a5 a6 a7 a8 a9 a10 a11 a12 p1 p2 p3 p4 p5 : Pos} {j1 j2 : Nat} {x0 x1 : Nat} {pl : Sem Bool} {fs1 : List Frame} {I : Nat} {lst : Addr}
    (cl : LineCls L.K CL) (hm : Meth L.K CL "sides" f1) (G : GenM L.K "sides" qual1 (mth 33 1) f1 cdv1) (hco : L.env.scope.isCoroutine = false) (kl : L.env.kindOf "line" = some .local) (ks : L.env.kindOf "side" = some .local)
    (hbody : body1 = [.If (.Compare (.Attribute (.Name "line" a1) "ends" a2) [.NotEq] [.Tuple [.Constant .none j1 a3, .Constant .none j2 a4] x0 a5] a6)
      [.For (.Name "side" a7) (.Call (.Attribute (.Name "line" a8) "sides" a9) [] [] a10) [.Expr (.Yield (some (.Tuple [.Name "line" p1, .Name "side" p2] x1 p3)) p4) p5] [] a11] [] a12])
    (ht : eval (.Call (.Attribute (.Name "line" a8) "sides" a9) [] [] a10) L.env = (do
      let ov ← eval (.Name "line" a8) L.env
      standAt a9.atName
      let (f, first) ← holding [ov] (getMethod ov "sides" pl)
      callWith a10 f first (backTo a10 (starEach [] L.env)) (backToKw a10 (keywordEach [] L.env))))
    (sp : splitAtGen fs1 = none) (gd : fs1.any Frame.guarded = false) (rm : Room 4 (A.over (.forLoop (.Name "line" a0) (.ref I) body1 [] L.env) fs1)) (nc : NoC L Co Bo H) (hBl : @LT.lt Nat _ L.env.locals Bo)
    (hlines : ∀ x ∈ ls, LineAt CL H x.1 x.2 ∧ okN x.2.t ∧ okN x.2.h) (hl1 : H lst = some (.lst (refs ls))) (hI0 : H I = none) (hIl : I ≠ (L.env.locals : Nat)) (hIb : L.base.get? I = none) (hIB : Bo ≤ I)
    (hend : ∀ (s₀ s : Shared) (ν : Nu), KG L.env.locals Bo No s₀ s → Seg (model L.prog L.w) A (RP L.env.locals Bo No) (YP L.env.locals Bo Co No (TO (itemsO ls))) 0 s₀ (.block [] L.env) (.pure (.done .next)) fs1 s) :
    ∀ (rem pre : List (Addr × Ln)) (preO : List (Addr × List V)) (s₀ s : Shared) (ν : Nu), ls = pre ++ rem → itemsO ls = preO ++ itemsO rem → Lt L ν H s → s.heap.IsListIter I lst pre.length → Bo ≤ s₀.heap.objs.size → No ≤ s₀.gens.size → KG L.env.locals Bo No s₀ s →
      Seg (model L.prog L.w) A (RP L.env.locals Bo No) (YP L.env.locals Bo Co No (TO (itemsO ls))) (itemsO rem).length s₀ (.forLoop (.Name "line" a0) (.ref I) body1 [] L.env) ((model L.prog L.w).den (.forLoop (.Name "line" a0) (.ref I) body1 [] L.env)) fs1 s := by
  have sm := Sm.ofRoom rm
  have lstOf : ∀ {s : Shared} {ν : Nu}, Lt L ν H s → ∃ its : List Value, Vals (refs ls) its ∧ s.heap.IsList lst its.toArray := fun {s ν} T => by
    obtain ⟨zl, its, nn, rv, hlo⟩ := T.hok lst _ hl1
    exact ⟨its, rv, _, hlo, rfl, nn, rfl⟩
  have ltn : ∀ {s : Shared} {ν : Nu}, Lt L ν H s → (lst : Nat) ≠ I := fun {s ν} T e => by
    have e' : lst = I := e
    rw [e', hI0] at hl1
    cases hl1
  intro rem
  induction rem with
  | nil =>
    intro pre preO s₀ s ν e1 e2 T hit hB0 hN0 kg
    obtain ⟨its, rv, hL⟩ := lstOf T
    refine seg_forTurn ?_
    have hnone : its.toArray[pre.length]? = none := by
      have h1 := rv.length
      have h2 : (refs ls).length = pre.length := by rw [e1]; simp [refs]
      have : its[pre.length]? = none := List.getElem?_eq_none_iff.mpr (by omega)
      simpa using this
    refine wpAny_hsz (wpAny_pyNext_list_end sm.hd hit hL hnone fun h' hx hsz => ?_)
    refine hend s₀ _ ν (kg.comp (O2 := fun b _ => b = I) (G2 := G0) ⟨rfl, kg.bare, fun b o e n => hx b o n e, fun _ _ _ e => e, hsz, Nat.le_refl _⟩ (fun _ _ _ z => z) (fun b o e z => ?_) (fun _ z => z) fun _ z => z.elim)
    refine .inr ⟨by rw [show b = I from z]; exact hIB, fun t => ?_⟩
    obtain ⟨o', ho', hc', hd'⟩ := hit
    rw [show b = I from z, ho'] at e
    cases e
    obtain ⟨_, i2, n2, hd2⟩ := t
    rw [hd'] at hd2
    cases hd2
  | cons x rem ih =>
    intro pre preO s₀ s ν e1 e2 T hit hB0 hN0 kg
    obtain ⟨l, d⟩ := x
    obtain ⟨its, rv, hL⟩ := lstOf T
    obtain ⟨hline, hok1, hok2⟩ := hlines (l, d) (by rw [e1]; simp)
    have hx : (refs ls)[pre.length]? = some (.ref l) := by rw [e1]; simp [refs]
    obtain ⟨u, hu, ru⟩ := rv.get hx
    obtain rfl : u = Value.ref l := ru
    refine seg_forTurn (wpAny_pyNext_list_item hit hL (x := .ref l) (by simpa using hu) fun h1 hit1 sb1 => ?_)
    have kI : Kp (fun b _ => b = I) G0 s { s with heap := h1 } := Kp.but (t := s.toks) sb1 kg.bare
    have T1 : Lt L ν H { s with heap := h1 } := T.turn (t := s.toks) hI0 hIl hIb fun b o n e => (sb1.2 b n).trans e
    refine wpAny_pure ?_
    refine lt_store (v := .ref l) T1 kl rfl fun h2 t2 T2 sb2 => ?_
    have kF : Kp (fun b _ => b = L.env.locals) G0 { s with heap := h1 } { s with heap := h2, toks := t2 } := Kp.but (t := t2) sb2 kg.bare
    have hit2 : h2.IsListIter I lst (pre ++ [(l, d)]).length := by
      obtain ⟨o, ho, r⟩ := hit1
      rw [List.length_append]
      exact ⟨o, (sb2.2 I hIl).trans ho, r⟩
    have notTup : ∀ (b : Addr) (o : Obj), s.heap.get? b = some o → b = I → ¬ TupO o := fun b o e z t => by
      obtain ⟨o', ho', hc', hd'⟩ := hit
      rw [z, ho'] at e
      cases e
      obtain ⟨_, i2, n2, hd2⟩ := t
      rw [hd'] at hd2
      cases hd2
    have kg2 : KG L.env.locals Bo No s₀ { s with heap := h2, toks := t2 } :=
      (kg.comp kI (fun _ _ _ z => z) (fun b o e z => .inr ⟨by rw [show b = I from z]; exact hIB, notTup b o e z⟩) (fun _ z => z) fun _ z => z.elim).comp kF (fun _ _ _ z => z) (fun b o e z => .inl z) (fun _ z => z) fun _ z => z.elim
    generalize es2 : ({ s with heap := h2, toks := t2 } : Shared) = s2 at *
    have hh2 : s2.heap = h2 := by rw [← es2]
    have hit3 : s2.heap.IsListIter I lst (pre ++ [(l, d)]).length := by rw [hh2]; exact hit2
    have eline : nuSet ν "line" (.ref l) "line" = some (.ref l) := by unfold nuSet; rw [if_pos rfl]
    obtain ⟨dx, fs, e, r1, r2, r3, r4, r5, r6, r7⟩ := id hline
    subst hbody
    refine seg_execs_cons (seg_If (wpAny_mono ((plt_cmp (plc_neP (pl_fld pl_v) (pl_tup (pla_cons pl_non (pla_cons pl_non pla_nil))))).run _ _ s2 _ H (fun b H1 => b = !bare2 d) sm T2 ?_) (fun b s3 ⟨H3, g3, eb⟩ => ?_) fun _ _ x => x.elim))
    · refine ⟨_, eline, l, CL, dx, fs, _, rfl, r1, cl.c, cl.e, r2, by rw [sizeLine_eq]; show 2 ≤ 16777216; decide, fun p hp => ?_⟩
      exact ⟨e, p, d.t, d.h, none, none, rfl, rfl, by rw [upd_ne (ne_of_none r3 hp)]; exact r3, upd_same, hok1, hok2, rfl, rfl, rfl⟩
    subst eb
    have T3 := T2.gr0 g3
    have kg3 := kg2.gr g3
    have hit4 : s3.heap.IsListIter I lst (pre ++ [(l, d)]).length := by
      obtain ⟨o, ho, r⟩ := hit3
      exact ⟨o, g3.keep _ _ ho, r⟩
    have eit : itemsO ((l, d) :: rem) = (if bare2 d = true then [] else (sidesL d).map fun y => (l, y)) ++ itemsO rem := rfl
    cases hbr : bare2 d with
    | true =>
      rw [hbr, if_pos rfl, List.nil_append] at eit
      rw [eit] at e2 ⊢
      rw [if_neg (by decide)]
      refine seg_execs_nil (seg_execs_nil (seg_again rfl ?_))
      exact ih (pre ++ [(l, d)]) preO s₀ s3 _ (by rw [e1]; simp) e2 T3 hit4 hB0 hN0 kg3
    | false =>
      rw [hbr, if_neg (by decide)] at eit
      rw [eit] at e2 ⊢
      rw [if_pos (by decide)]
      refine seg_execs_cons (seg_For (lt_make (o := .Name "line" a8) (to := lv "line") G ⟨rfl, rfl, rfl, rfl⟩ cl.c hm sm T3 pl_v ⟨_, eline, rfl, r1, r7⟩ (fun H4 s4 v s5 g4 T4 hmade => ?_) ht))
      obtain ⟨a, tk, h5, ev, es5, hgen, k45, hla, hle, hlt, m, hns, hself⟩ := hmade.ex
      subst ev
      have T4' : Lt L (nuSet ν "line" (.ref l)) H s4 := T3.gr0 g4
      have kg4 := kg3.gr g4
      have hbare4 := kg4.bare
      have k45' : Kp O0 G0 s4 s5 := by
        rw [es5]
        refine ⟨rfl, AllBare.push hbare4 rfl, fun b o e _ => k45 b o e, fun i x _ e => ?_, ?_, ?_⟩
        · exact push_keep e
        · show @LE.le Nat _ s4.heap.objs.size h5.objs.size
          have h1 : @LT.lt Nat _ s4.heap.objs.size a := hla
          have h2 : @LT.lt Nat _ a h5.objs.size := hlt
          omega
        · show s4.gens.size ≤ (s4.gens.push _).size
          rw [Array.size_push]
          omega
      have T5 : Lt L (nuSet ν "line" (.ref l)) H s5 := T4'.kept fun b o e => k45'.keep b o e fun z => z
      have kg5 := kg4.comp k45' (fun _ _ _ z => z) (fun _ _ _ z => z.elim) (fun _ z => z) fun _ z => z.elim
      have hgen5 : s5.heap.IsGen a s4.gens.size := by rw [es5]; exact hgen
      refine wpAny_pyIter_gen hgen5 fun p => ?_
      have hg5 : s5.gens[s4.gens.size]? = some (.fresh (.func sidesBody (envOfC qual1 (defScope (mth 33 1)) s4.heap.objs.size f1 cdv1))) := by rw [es5]; exact Array.getElem?_push_size ..
      rw [List.length_append, List.length_map]
      have lle : @Eq Nat (envOfC qual1 (defScope (mth 33 1)) s4.heap.objs.size f1 cdv1).locals s4.heap.objs.size := rfl
      have sz0 : s₀.heap.objs.size ≤ s4.heap.objs.size := kg4.sz
      have s45 : @LT.lt Nat _ a s5.heap.objs.size := by rw [es5]; exact hlt
      have hla' : @LT.lt Nat _ s4.heap.objs.size a := hla
      have frlt : ∀ b o, L.base.get? b = some o → @LT.lt Nat _ b s4.heap.objs.size := fun b o e => Heap.lt_size (T4'.bk b o e)
      have trlt : ∀ (b : Nat) u, H b = some u → b < s4.heap.objs.size := fun b u e => T4'.hok.lt e
      have g0 : s₀.gens.size ≤ s4.gens.size := kg4.gz
      have g5 : s5.gens.size = s4.gens.size + 1 := by rw [es5]; exact Array.size_push ..
      refine inner_loop (its := sidesL d) (Lil := s4.heap.objs.size) (Bi := s5.heap.objs.size) (Ni := s5.gens.size) (gi := s4.gens.size) (s6 := s5) rfl
        ⟨by rw [over_loop rfl rfl]; exact sm, hco, by show (splitAtGen fs1).map _ = none; rw [sp]; rfl, by show (false || fs1.any Frame.guarded) = false; rw [gd]; rfl, ks, hBl, Nat.le_trans hB0 sz0, Nat.lt_trans hla' s45, trlt, frlt, nc, hla', s45, by omega, by omega⟩ (itemsO rem)
        (fun s₀' s' ν' T' hB' hN' kg' ks' => ?_) (sidesL d) [] preO s₀ s5 _ rfl (by rw [e2]) eline T5 hgen5 ⟨_, hg5, fun s' kc => ⟨rfl, ?_⟩⟩ ?_ hB0 hN0 (Nat.le_refl _) kg5 (Kp.refl kg5.bare)
      · refine seg_leaf (.ok .next) ?_
        refine seg_execs_nil (env := L.env) (seg_execs_nil (env := L.env) (seg_again rfl ?_))
        refine ih (pre ++ [(l, d)]) (preO ++ (sidesL d).map fun y => (l, y)) s₀' s' ν' (by rw [e1]; simp) (by rw [e2]; simp) T' ?_ hB' hN' kg'
        obtain ⟨o, ho, r⟩ := hit4
        have hI4 : @LT.lt Nat _ I s4.heap.objs.size := Heap.lt_size (g4.keep _ _ ho)
        refine ⟨o, ks'.keep I o (k45'.keep I o (g4.keep I o ho) fun z => z) fun z => ?_, r⟩
        rcases z with z | z | z | z
        · exact hIl z
        · have z' : @Eq Nat I s4.heap.objs.size := z
          omega
        · have z' : @LE.le Nat _ s5.heap.objs.size I := z
          omega
        · have z' : @LT.lt Nat _ I Bo := nc.lt I z
          omega
      · have T5i : Lt ({ L with env := envOfC qual1 (defScope (mth 33 1)) s4.heap.objs.size f1 cdv1 } : LX) (fun x => if x = "self" then some (.ref l) else none) H (s5.setGen s4.gens.size .running) := by
          refine ⟨⟨T.ok.kin, T.ok.nl, rfl, ?_⟩, T5.bk, T5.hok, T4'.hok.fresh (Nat.le_refl _), m, by show s5.heap.Ns _ m; rw [es5]; exact hns, fun x v hx => ?_⟩
          · cases e : L.base.get? s4.heap.objs.size with
            | none => exact e
            | some o => exact absurd (frlt _ o e) (Nat.lt_irrefl _)
          · have hx' : (if x = "self" then some (V.ref l) else none) = some v := hx
            by_cases q : x = "self"
            · rw [if_pos q] at hx'
              cases hx'
              subst q
              exact ⟨rfl, _, hself, rfl⟩
            · rw [if_neg q] at hx'
              cases hx'
        have nci : NoC ({ L with env := envOfC qual1 (defScope (mth 33 1)) s4.heap.objs.size f1 cdv1 } : LX) (fun b => b = L.env.locals ∨ Co b) s5.heap.objs.size H := by
          refine ⟨fun b z => ?_, fun b z => ?_, fun b z e => ?_, fun b o z e => ?_⟩
          · show @LT.lt Nat _ b s5.heap.objs.size
            rcases z with z | z
            · have z' : @Eq Nat b L.env.locals := z
              omega
            · have z' : @LT.lt Nat _ b Bo := nc.lt b z
              omega
          · rcases z with z | z
            · rw [z]; exact T5.fr
            · exact nc.h b z
          · have e' : @Eq Nat b s4.heap.objs.size := e
            rcases z with z | z
            · have z' : @Eq Nat b L.env.locals := z
              omega
            · have z' : @LT.lt Nat _ b Bo := nc.lt b z
              omega
          · rcases z with z | z
            · rw [z] at e
              have e2 : L.base.get? L.env.locals = some o := e
              rw [T5.ok.bl] at e2
              cases e2
            · exact nc.b b o z e
        have T5w := T5i.wake nci kc
        have rmi : Room 1 (((A.over (.forLoop (.Name "line" a0) (.ref I) [.If (.Compare (.Attribute (.Name "line" a1) "ends" a2) [.NotEq] [.Tuple [.Constant .none j1 a3, .Constant .none j2 a4] x0 a5] a6)
      [.For (.Name "side" a7) (.Call (.Attribute (.Name "line" a8) "sides" a9) [] [] a10) [.Expr (.Yield (some (.Tuple [.Name "line" p1, .Name "side" p2] x1 p3)) p4) p5] [] a11] [] a12] [] L.env) fs1).in1).deeper (envOfC qual1 (defScope (mth 33 1)) s4.heap.objs.size f1 cdv1)) := ((Room.in1 (rm.mono (by decide : 3 ≤ 4))).deeper _).mono (by decide)
        refine sides_seg (L := { L with env := envOfC qual1 (defScope (mth 33 1)) s4.heap.objs.size f1 cdv1 }) (H := H) cl rfl (by rw [over_func, over_loop rfl rfl]; exact Sm.ofRoom rmi) (by rw [if_pos rfl]) hline T5w nci ?_ kc.bare
        have := kc.sz
        exact this
      · obtain ⟨o, es, ep, ho, hd, _⟩ := hns
        exact ⟨o, es, ep, by rw [es5]; exact ho, hd⟩
theorem flow_seg (cl : LineCls L.K CL) (cf : FlowCls L.K CF) (hm : Meth L.K CL "sides" f1) (G : GenM L.K "sides" qual1 (mth 33 1) f1 cdv1) (hco : L.env.scope.isCoroutine = false) (kl : L.env.kindOf "line" = some .local) (ks : L.env.kindOf "side" = some .local)
    (rm : Room 4 (A.over (.func flowBody L.env) [])) (hs : ν "self" = some (.ref fl)) (hl : LinesAt CL CF H fl ls) (T : Lt L ν H s) (nc : NoC L Co Bo H) (hB : Bo ≤ s.heap.objs.size) (hBl : @LT.lt Nat _ L.env.locals Bo) (hN : No ≤ s.gens.size) (hb : AllBare s.gens) :
    Seg (model L.prog L.w) A (RP L.env.locals Bo No) (YP L.env.locals Bo Co No (TO (itemsO ls))) (itemsO ls).length s (.func flowBody L.env) ((model L.prog L.w).den (.func flowBody L.env)) [] s := by
  have hi : interactive L.env = false := by simp [interactive, T.ok.kind]
  obtain ⟨dx, fs, l1, l2, ga, gb, q1, q2, q3, q4, q5, q6, q7, _, q8⟩ := hl
  have sm := Sm.ofRoom rm
  refine seg_func ?_
  refine seg_execs_cons (seg_For ((pl_cat (pl_fld pl_v) (pl_fld pl_v)).thn' sm T (Q := fun v H1 => ∃ p, v = .ref p ∧ H p = none ∧ H1 = upd H p (.lst (refs ls))) ?_ (fun u v H1 s1 g1 T1 r1 ⟨lst, ev, hlst, eH⟩ => ?_)))
  · refine ⟨_, hs, fl, CF, dx, fs, _, rfl, q1, cf.c, cf.l, q2, ?_⟩
    refine ⟨_, hs, fl, CF, dx, fs, _, rfl, q1, cf.c, cf.s, q3, l1, l2, refs ga, refs gb, rfl, rfl, q4, q5, ?_, fun p hp => ⟨p, rfl, hp, ?_⟩⟩
    · have e1 : (refs ga).length = ga.length := by simp [refs]
      have e2 : (refs gb).length = gb.length := by simp [refs]
      rw [q6, List.length_append] at q7
      omega
    · rw [q6]; simp [refs]
  subst ev
  obtain rfl : u = Value.ref lst := r1
  obtain ⟨zl, its, nn, rv, hlo⟩ := T1.hok lst _ (by rw [eH]; exact upd_same)
  refine wpAny_pyIter_list (items := its.toArray) ⟨_, hlo, rfl, nn, rfl⟩ fun p => ?_
  have k2 : ∀ b o, s1.heap.get? b = some o → (s1.heap.push { cls := .type "list_iterator", data := .fields #[.ref lst, .int 0 0] }).get? b = some o := fun b o e => Heap.get?_push_of_some _ e
  have T2 : Lt L ν H1 { s1 with heap := s1.heap.push { cls := .type "list_iterator", data := .fields #[.ref lst, .int 0 0] } } := T1.kept k2
  have kg1 : KG L.env.locals Bo No s { s1 with heap := s1.heap.push { cls := .type "list_iterator", data := .fields #[.ref lst, .int 0 0] } } :=
    ((Kp.refl hb).gr g1).grow k2 (by rw [Heap.size_push]; exact Nat.le_trans g1.sz (Nat.le_succ _))
  have nc1 : NoC L Co Bo H1 := nc.gr g1 hB
  have hI0 : H1 s1.heap.objs.size = none := T1.hok.fresh (Nat.le_refl _)
  have hIl : (s1.heap.objs.size : Nat) ≠ L.env.locals := by
    obtain ⟨m, ⟨o, es, ep, ho, _⟩, _⟩ := T1.loc
    have : @LT.lt Nat _ L.env.locals s1.heap.objs.size := Heap.lt_size ho
    omega
  have hIb : L.base.get? s1.heap.objs.size = none := by
    cases e : L.base.get? s1.heap.objs.size with
    | none => rfl
    | some o => exact absurd (Heap.lt_size (T1.bk _ _ e)) (Nat.lt_irrefl _)
  have hIB : Bo ≤ s1.heap.objs.size := Nat.le_trans hB g1.sz
  have hlines : ∀ x ∈ ls, LineAt CL H1 x.1 x.2 ∧ okN x.2.t ∧ okN x.2.h := fun x hx => by
    obtain ⟨h1, h2⟩ := q8 x hx
    refine ⟨h1.same fun b u e => ?_, h2⟩
    exact g1.at' T.hok e
  have hl1 : H1 lst = some (.lst (refs ls)) := by rw [eH]; exact upd_same
  have hit0 : (s1.heap.push { cls := .type "list_iterator", data := .fields #[.ref lst, .int 0 0] }).IsListIter s1.heap.objs.size lst 0 := ⟨_, Heap.get?_push_size _ rfl, rfl, rfl⟩
  refine outer_loop cl hm G hco kl ks rfl rfl rfl rfl (by rw [over_loop rfl rfl]; exact rm) nc1 hBl hlines hl1 hI0 hIl hIb hIB (fun s₀ s' ν' hkg => ?_) ls [] [] s _ ν rfl rfl T2 hit0 hB hN kg1
  refine seg_leaf (.ok .next) ?_
  refine seg_execs_nil (env := L.env) ?_
  exact seg_end (.ok (.ret .none)) (.inl ⟨.inl rfl, rfl, hkg⟩)
end
end Ws
end
section
/-! Generators: the consumers. -/
namespace Ws
open PySem PySem.Spec PyProof.Rows L2 GenW
section
variable {P : Program} {w : World} {A : Around} {E : Value → Shared → Prop} {s : Shared} {a : Addr} {g : Nat} {Lo Bo : Nat} {No : Nat} {Co : Addr → Prop} {T : Nat → Value → Shared → Shared → Prop}
/-- what a generator's turn keeps, seen from its consumer -/
abbrev KT (Lo Bo No g : Nat) : Shared → Shared → Prop := Kp (fun b o => b = Lo ∨ (Bo ≤ b ∧ ¬ TupO o)) (fun i => i = g ∨ No ≤ i)
theorem pull {m : Nat} {Q : Option Value → Shared → Prop} (sm : Sm A) (hb : AllBare s.gens) (hl : s.heap.NoLimit) (hg : s.heap.IsGen a g) (hgN : g < No) (sl : Sl P w A.in1 Lo Bo No g Co T (m + 1) s)
    (h : ∀ v s1, (∃ s₁, T m v (s.setGen g .running) s₁ ∧ s1.heap = s₁.heap) → KT Lo Bo No g s s1 → Sl P w A.in1 Lo Bo No g Co T m s1 → Q (some v) s1) :
    wpAny (model P w) A (pyNext (.ref a)) Q E s := by
  obtain ⟨gs, hgs, hgo⟩ := sl
  have hgl : g < s.gens.size := (Array.getElem?_eq_some_iff.mp hgs).1
  refine next_genG (n := m + 1) (F := fun n s₀ s => n = 0 ∧ KG Lo Bo No s₀ s) (Er := fun _ _ => False) sm.hd hl sm.dp hg hgs (hgo _ (Kp.refl (allBare_setGen hb rfl)))
    (fun v s₁ gs' hbare hv => ?_) (fun s₁ hp h' hk => absurd hp.1 (Nat.succ_ne_zero _)) fun e s₁ he => he.elim
  obtain ⟨hT, kq, fd, hc⟩ := hv
  have hrun : s₁.gens[g]? = some .running := kq.gens g _ (fun z => by omega) (setGen_at hgl)
  have hgl1 : g < s₁.gens.size := (Array.getElem?_eq_some_iff.mp hrun).1
  refine h v _ ⟨s₁, hT, rfl⟩ ?_ ⟨gs', setGen_at hgl1, fun s'' kc'' => hc s'' ?_⟩
  · exact ((Kp.setGen (g := g) (x := .running) hb rfl).comp kq (fun _ _ _ z => z.elim) (fun _ _ _ z => z) (fun i z => .inl z) fun i z => .inr z).comp
        (Kp.setGen (g := g) (x := gs') kq.bare hbare) (fun _ _ _ z => z) (fun _ _ _ z => z.elim) (fun _ z => z) fun i z => .inl z
  · refine ⟨kc''.os, kc''.bare, kc''.keep, fun i x _ e => kc''.gens i x (fun z => z) ?_, kc''.sz, ?_⟩
    · by_cases hi : i = g
      · subst hi
        rw [hrun] at e
        cases e
        exact setGen_at (by rw [setGen_size]; exact hgl1)
      · rw [setGen_other hi, setGen_other hi]
        exact e
    · have := kc''.gz
      rw [setGen_size, setGen_size] at this
      exact this
theorem pull_end {Q : Option Value → Shared → Prop} (sm : Sm A) (hb : AllBare s.gens) (hl : s.heap.NoLimit) (hg : s.heap.IsGen a g) (sl : Sl P w A.in1 Lo Bo No g Co T 0 s)
    (h : ∀ s1, KT Lo Bo No g s s1 → Q none s1) :
    wpAny (model P w) A (pyNext (.ref a)) Q E s := by
  obtain ⟨gs, hgs, hgo⟩ := sl
  refine wpAny_hsz (next_genG (n := 0) (F := fun n s₀ s => n = 0 ∧ KG Lo Bo No s₀ s) (Er := fun _ _ => False) sm.hd hl sm.dp hg hgs (hgo _ (Kp.refl (allBare_setGen hb rfl)))
    (fun v s₁ gs' hbare hv => ?_) (fun s₁ hp h' hk => ?_) fun e s₁ he => he.elim)
  · obtain ⟨_, kq, _, hc⟩ := hv
    exact (hc s₁ (Kp.refl kq.bare)).elim
  · intro hsz
    obtain ⟨_, kq⟩ := hp
    refine h _ (Kp.grow (s1 := s₁.setGen g .finished) ?_ hk hsz)
    exact ((Kp.setGen (g := g) (x := .running) hb rfl).comp kq (fun _ _ _ z => z.elim) (fun _ _ _ z => z) (fun i z => .inl z) fun i z => .inr z).comp
        (Kp.setGen (g := g) (x := .finished) kq.bare rfl) (fun _ _ _ z => z) (fun _ _ _ z => z.elim) (fun _ z => z) fun i z => .inl z
end
/-! ### the heap behind it -/
theorem Inv.grown {X : Cx} {pins : List (Addr × Obj)} {σ : L2.St} {H H' : Hp} {s s' : Shared} (I : Inv X pins σ H s) (k : ∀ b o, s.heap.get? b = some o → s'.heap.get? b = some o) (os : s'.os = s.os) (hb : AllBare s'.gens) (hok : HOk X.prog X.w H' s'.heap) (same : ∀ b, b < s.heap.objs.size → H' b = H b) : Inv X pins σ H' s' := by
  refine I.call' (ch := []) os ⟨fun b o e _ _ _ => k b o e, fun b o e _ _ _ => ⟨o.slots, k b o e⟩, fun b o e n _ => by rw [same b (Heap.lt_size e)]; exact n, fun b o e _ => ⟨o, k b o e⟩, fun b xs e => by rw [same b (I.hok.lt e)]; exact e, fun b o u e => by rw [same b (I.hok.lt e)]; exact e,
    fun b ps e => ⟨#[], by rw [same b (I.hok.lt e), e]; simp⟩⟩ hok hb fun b hb => nomatch hb
theorem HOk.addT {P : Program} {w : World} {H : Hp} {h : Heap} {a : Addr} {xs : List V} {us : Array Value} (x : HOk P w H h) (n : H a = none) (z : xs.length ≤ sizeLine) (t : IsTup h a us) (r : Vals xs us.toList) : HOk P w (upd H a (.tup xs)) h := fun b u e => by
  by_cases hb : b = a
  · subst hb
    rw [upd_same] at e
    cases e
    exact ⟨z, us.toList, r, by simpa using t⟩
  · rw [upd_ne hb] at e
    exact (x b u e).stay (fun c v _ q => q) (fun c q => by rw [upd_ne (ne_of_none q n)]; exact q) fun c xs q => by rw [upd_ne (ne_of_none q n)]; exact q
theorem HOk.addL {P : Program} {w : World} {H : Hp} {h : Heap} {a : Addr} {xs : List V} {us : List Value} {c : Nat} (x : HOk P w H h) (n : H a = none) (z : xs.length ≤ sizeLine) (t : h.get? a = some { cls := .type "list", data := .seq us.toArray c }) (r : Vals xs us) : HOk P w (upd H a (.lst xs)) h := fun b u e => by
  by_cases hb : b = a
  · subst hb
    rw [upd_same] at e
    cases e
    exact ⟨z, us, c, r, t⟩
  · rw [upd_ne hb] at e
    exact (x b u e).stay (fun c v _ q => q) (fun c q => by rw [upd_ne (ne_of_none q n)]; exact q) fun c xs q => by rw [upd_ne (ne_of_none q n)]; exact q
/-- a pair that was handed out: its tuple, its side's tuple, its line, what the side holds -/
structure PR where
  q : Addr
  p : Addr
  l : Addr
  sd : List V
def PairsAt (H : Hp) (rs : List PR) : Prop := ∀ r ∈ rs, H r.q = some (.tup [.ref r.l, .ref r.p]) ∧ H r.p = some (.tup r.sd)
def keepS : List V → Bool
  | [a, b, _, _, .int sg] => decide (sg = 1) || !inV .non [a, b]
  | _ => false
def SideOk (sd : List V) : Prop := ∃ (a b : Nd) (p : Int) (r : Option Int) (sg : Int), sd = [ndV a, ndV b, .int p, oiV r, .int sg]
theorem side_ok {d : Ln} {sd : List V} (h : sd ∈ sidesL d) : SideOk sd := by
  unfold sidesL at h
  rcases List.mem_append.mp h with h | h
  · split at h
    · rw [List.mem_singleton.mp h]; exact ⟨d.t, d.h, d.p, roomL d, 1, rfl⟩
    · cases h
  · split at h
    · rw [List.mem_singleton.mp h]; exact ⟨d.h, d.t, -d.p, some d.a, -1, rfl⟩
    · cases h
theorem items_ok : ∀ {ls : List (Addr × Ln)} {x : Addr × List V}, x ∈ itemsO ls → SideOk x.2
  | [], _, h => nomatch h
  | y :: r, x, h => by
    unfold itemsO at h
    rcases List.mem_append.mp h with h | h
    · split at h
      · cases h
      · obtain ⟨z, hz, rfl⟩ := List.mem_map.mp h
        exact side_ok hz
    · exact items_ok h
end Ws
end
section
/-! Generators: what a consumer knows while it drains. -/
namespace Ws
open PySem PySem.Spec PyProof.Rows L2 GenW
/-- list.append, the object known -/
theorem append_exact {P : Program} {w : World} {A : Around} {E : Value → Shared → Prop} {s : Shared} {S : Addr} {acc : Array Value} {c : Nat} {x : Value} {Q : Value → Shared → Prop} (hS : s.heap.get? S = some (lstObj acc c))
    (hQ : ∀ h' c', h'.get? S = some (lstObj (acc.push x) c') → Heap.SameBut S s.heap h' → Q .none { s with heap := h' }) (hz : acc.size < sizeLine) :
    wpAny (model P w) A (call (.builtin "list.append") [.ref S, x]) Q E s := by
  have hT : s.TypeIs (.ref S) "list" := ⟨_, hS, rfl⟩
  refine wpAny_call_entry slot_list_append hT entry_list_append ?_ (args_list_append _ _)
  show wpAny _ _ (updateSeq S (·.push x) >>= fun _ => ret .none) _ _ s
  refine wpAny_bind ?_
  exact wpAny_updateSeq hS rfl (wpAny_pure ⟨.none, rfl, hQ _ _ (Heap.get?_update_self _ hS rfl) (Heap.SameBut.update ..)⟩) (Nat.le_of_lt hz) (by show (acc.push x).size ≤ sizeLine + 1; rw [Array.size_push]; omega)
/-- the consumer's fixed facts: Lo the generator's frame, a its object, S the list that is filled, s0 and H where the expression began -/
structure CX (P : Program) (w : World) (A : Around) (Lo Bo No g : Nat) (Co : Addr → Prop) (a S : Nat) (n : Nat) (s0 : Shared) (H : Hp) : Prop where
  sm : Sm A
  lo : Lo < Bo
  sB : S < Bo
  aB : a < Bo
  l0 : s0.heap.objs.size ≤ Lo
  S0 : s0.heap.objs.size ≤ S
  a0 : s0.heap.objs.size ≤ a
  aL : a ≠ Lo
  SL : S ≠ Lo
  cS : Co S
  ca : ¬ Co a
  cL : ¬ Co Lo
  c0 : ∀ b, Co b → @LE.le Nat _ s0.heap.objs.size b ∧ @LT.lt Nat _ b Bo
  gN : g < No
  len : n ≤ sizeLine
  nl : s0.heap.NoLimit
  h0 : HOk P w H s0.heap
/-- .. and its state -/
structure CT (P : Program) (w : World) (A : Around) (Lo Bo No g : Nat) (Co : Addr → Prop) (a S : Nat) (its : List (Addr × List V)) (s0 : Shared) (H : Hp) (m : Nat) (rs : List PR) (Hc : Hp) (s : Shared) : Prop where
  hok : HOk P w Hc s.heap
  k0 : ∀ b o, s0.heap.get? b = some o → s.heap.get? b = some o
  os : s.os = s0.os
  bare : AllBare s.gens
  sl : Sl P w A.in1 Lo Bo No g Co (TO its) m s
  gen : s.heap.IsGen a g
  hB : Bo ≤ s.heap.objs.size
  same : ∀ b : Nat, b < s0.heap.objs.size → Hc b = H b
  tr : ∀ (b : Nat) u, Hc b = some u → b < Bo ∨ ∃ xs, u = .tup xs
  fL : Hc Lo = none
  fC : ∀ b, Co b → Hc b = none
  ps : PairsAt Hc rs
  lst : ∃ acc c, s.heap.get? S = some (lstObj acc c) ∧ Vals (rs.map fun r => .ref r.q) acc.toList
  mn : rs.length + m ≤ its.length
section
variable {P : Program} {w : World} {A : Around} {Lo Bo No g : Nat} {Co : Addr → Prop} {a S : Nat} {its : List (Addr × List V)} {s0 : Shared} {H : Hp} {m : Nat} {rs : List PR} {Hc : Hp} {s : Shared} {E : Value → Shared → Prop}
theorem CT.nl (c : CX P w A Lo Bo No g Co a S its.length s0 H) (t : CT P w A Lo Bo No g Co a S its s0 H m rs Hc s) : s.heap.NoLimit := c.nl.keeps t.k0
theorem tupO_of {h : Heap} {b : Addr} {xs : List V} {o : Obj} (x : ObjOk P w Hc h b (.tup xs)) (e : h.get? b = some o) : TupO o := by
  obtain ⟨_, its, _, o', e', hc, n, hd⟩ := x
  rw [e] at e'
  cases e'
  exact ⟨hc, _, n, hd⟩
/-- a turn of the generator: what is kept of what we track -/
theorem CT.hokT (t : CT P w A Lo Bo No g Co a S its s0 H m rs Hc s) {s1 : Shared} (k : KT Lo Bo No g s s1) : HOk P w Hc s1.heap := fun b u e => by
  have key : ∀ c w', Hc c = some w' → ∀ o, s.heap.get? c = some o → s1.heap.get? c = some o := fun c w' hc o ho => by
    refine k.keep c o ho fun z => ?_
    rcases z with z | z
    · have z' : c = Lo := z
      rw [z', t.fL] at hc
      cases hc
    · rcases t.tr c w' hc with q | ⟨xs, q⟩
      · have z' : @LE.le Nat _ Bo c := z.1
        omega
      · subst q
        exact z.2 (tupO_of (t.hok c _ hc) ho)
  refine (t.hok b u e).stay (fun c o hb q => ?_) (fun _ q => q) fun _ _ q => q
  rcases hb with rfl | hb
  · exact key _ _ e o q
  · exact key _ _ hb o q
theorem CT.pull {Q : Option Value → Shared → Prop} (c : CX P w A Lo Bo No g Co a S its.length s0 H) (t : CT P w A Lo Bo No g Co a S its s0 H (m + 1) rs Hc s) {l : Addr} {sd : List V} (hit : its[its.length - 1 - m]? = some (l, sd))
    (h : ∀ r : PR, r.l = l → r.sd = sd → ∀ s1, KT Lo Bo No g s s1 → CT P w A Lo Bo No g Co a S its s0 H m rs (upd (upd Hc r.p (.tup sd)) r.q (.tup [.ref l, .ref r.p])) s1 → Hc r.p = none → Hc r.q = none → r.p ≠ r.q → HOk P w Hc s1.heap → Q (some (.ref r.q)) s1)
    (hsd : sd.length ≤ sizeLine) : wpAny (model P w) A (pyNext (.ref a)) Q E s := by
  refine Ws.pull c.sm t.bare (t.nl c) t.gen c.gN t.sl fun v s1 hT k sl => ?_
  obtain ⟨s₁, ⟨l', sd', p, q, us, hit', ev, hp, hq, hne, tp, rv, ws, tq, rw'⟩, eh⟩ := hT
  rw [hit] at hit'
  cases hit'
  subst ev
  have hp' : @LE.le Nat _ s.heap.objs.size p := hp
  have hq' : @LE.le Nat _ s.heap.objs.size q := hq
  have np : Hc p = none := t.hok.fresh hp
  have nq : Hc q = none := t.hok.fresh hq
  rw [← eh] at tp tq
  have ok1 := t.hokT k
  have ok2 := HOk.addT ok1 np hsd tp rv
  have ok3 := HOk.addT (a := q) (xs := [.ref l, .ref p]) ok2 (by rw [upd_ne (Ne.symm hne)]; exact nq) (by rw [sizeLine_eq]; show 2 ≤ 16777216; decide) tq rw'
  have pB : @LE.le Nat _ Bo p := Nat.le_trans t.hB hp'
  have qB : @LE.le Nat _ Bo q := Nat.le_trans t.hB hq'
  have un : ∀ b : Nat, b < Bo → upd (upd Hc p (.tup sd)) q (.tup [.ref l, .ref p]) b = Hc b := fun b hb => by
    have e1 : (b : Addr) ≠ q := fun z => by
      have z' : @Eq Nat b q := z
      omega
    have e2 : (b : Addr) ≠ p := fun z => by
      have z' : @Eq Nat b p := z
      omega
    rw [upd_ne e1, upd_ne e2]
  refine h ⟨q, p, l, sd⟩ rfl rfl s1 k ⟨ok3, fun b o e => k.keep b o (t.k0 b o e) fun z => ?_, k.os.trans t.os, k.bare, sl, ?_, Nat.le_trans t.hB k.sz, fun b hb => ?_, fun b u e => ?_, ?_, fun b hb => ?_, fun r hr => ?_, ?_, ?_⟩ np nq hne ok1
  · have hb : @LT.lt Nat _ b s0.heap.objs.size := Heap.lt_size e
    have h1 := c.l0
    have h2 := c.lo
    rcases z with z | z
    · have z' : @Eq Nat b Lo := z
      omega
    · have z' : @LE.le Nat _ Bo b := z.1
      omega
  · obtain ⟨o, nm, qn, ho, r⟩ := t.gen
    refine ⟨o, nm, qn, k.keep a o ho fun z => ?_, r⟩
    have h1 := c.aB
    rcases z with z | z
    · exact c.aL z
    · have z' : @LE.le Nat _ Bo a := z.1
      omega
  · have h1 := c.l0
    have h2 := c.lo
    rw [un b (by omega)]
    exact t.same b hb
  · by_cases hbq : b = q
    · subst hbq
      rw [upd_same] at e
      cases e
      exact .inr ⟨_, rfl⟩
    · rw [upd_ne hbq] at e
      by_cases hbp : b = p
      · subst hbp
        rw [upd_same] at e
        cases e
        exact .inr ⟨_, rfl⟩
      · rw [upd_ne hbp] at e
        exact t.tr b u e
  · rw [un Lo c.lo]; exact t.fL
  · rw [un b (c.c0 b hb).2]; exact t.fC b hb
  · obtain ⟨h1, h2⟩ := t.ps r hr
    have e1 : ∀ x u, Hc x = some u → upd (upd Hc p (.tup sd)) q (.tup [.ref l, .ref p]) x = some u := fun x u e => by
      rw [upd_ne (ne_of_none e nq), upd_ne (ne_of_none e np)]; exact e
    exact ⟨e1 _ _ h1, e1 _ _ h2⟩
  · obtain ⟨acc, cc, e, r⟩ := t.lst
    refine ⟨acc, cc, k.keep S _ e fun z => ?_, r⟩
    have h1 := c.sB
    rcases z with z | z
    · exact c.SL z
    · have z' : @LE.le Nat _ Bo S := z.1
      omega
  · have := t.mn
    omega
/-- one of the consumer's own records (not the list) has changed -/
theorem CT.own (c : CX P w A Lo Bo No g Co a S its.length s0 H) (t : CT P w A Lo Bo No g Co a S its s0 H m rs Hc s) {b : Addr} {h' : Heap} {tk : Nat} (hb : Co b) (hbS : b ≠ S) (k : Heap.SameBut b s.heap h') : CT P w A Lo Bo No g Co a S its s0 H m rs Hc { s with heap := h', toks := tk } := by
  have kk : Kp (fun x _ => x = b) G0 s { s with heap := h', toks := tk } := Kp.but (t := tk) k t.bare
  refine ⟨HOk.but t.hok (t.fC b hb) fun x o n e => (k.2 x n).trans e, fun x o e => (k.2 x fun z => ?_).trans (t.k0 x o e), t.os, t.bare, sl_step t.sl (kk.mono (fun x o _ z => by rw [show x = b from z]; exact hb) fun _ z => z), ?_, by rw [show h'.objs.size = s.heap.objs.size from k.1]; exact t.hB, t.same, t.tr, t.fL, t.fC, t.ps, ?_, t.mn⟩
  · have h1 : @LT.lt Nat _ x s0.heap.objs.size := Heap.lt_size e
    have h2 := (c.c0 b hb).1
    have z' : @Eq Nat x b := z
    omega
  · obtain ⟨o, nm, qn, ho, r⟩ := t.gen
    exact ⟨o, nm, qn, (k.2 a fun z => c.ca (by rw [show (a : Addr) = b from z]; exact hb)).trans ho, r⟩
  · obtain ⟨acc, cc, e, r⟩ := t.lst
    exact ⟨acc, cc, (k.2 S (Ne.symm hbS)).trans e, r⟩
/-- the heap has grown -/
theorem CT.gr (t : CT P w A Lo Bo No g Co a S its s0 H m rs Hc s) {H' : Hp} {s1 : Shared} (gr : Gr P w Hc s H' s1) : CT P w A Lo Bo No g Co a S its s0 H m rs Hc s1 := by
  have kk : Kp O0 G0 s s1 := Kp.ofGr gr t.bare
  refine ⟨t.hok.kept gr.keep, fun x o e => gr.keep x o (t.k0 x o e), gr.os.trans t.os, kk.bare, sl_step t.sl (kk.mono (fun x o _ z => z.elim) fun _ z => z), t.gen.keeps gr.keep, Nat.le_trans t.hB gr.sz, t.same, t.tr, t.fL, t.fC, t.ps, ?_, t.mn⟩
  obtain ⟨acc, cc, e, r⟩ := t.lst
  exact ⟨acc, cc, gr.keep _ _ e, r⟩
/-- a pair is put behind the list -/
theorem CT.pushed (c : CX P w A Lo Bo No g Co a S its.length s0 H) (t : CT P w A Lo Bo No g Co a S its s0 H m rs Hc s) {r : PR} (hr : Hc r.q = some (.tup [.ref r.l, .ref r.p]) ∧ Hc r.p = some (.tup r.sd)) (hn : rs.length + m < its.length) {acc : Array Value} {cc c' : Nat} {h' : Heap}
    (e : s.heap.get? S = some (lstObj acc cc)) (e' : h'.get? S = some (lstObj (acc.push (.ref r.q)) c')) (k : Heap.SameBut S s.heap h') : CT P w A Lo Bo No g Co a S its s0 H m (rs ++ [r]) Hc { s with heap := h' } := by
  obtain ⟨acc2, cc2, e2, rv⟩ := t.lst
  rw [e] at e2
  cases e2
  have kk : Kp (fun x _ => x = S) G0 s { s with heap := h' } := Kp.but (t := s.toks) k t.bare
  refine ⟨HOk.but t.hok (t.fC S c.cS) fun x o n e => (k.2 x n).trans e, fun x o e => (k.2 x fun z => ?_).trans (t.k0 x o e), t.os, t.bare, sl_step t.sl (kk.mono (fun x o _ z => by rw [show x = S from z]; exact c.cS) fun _ z => z), ?_, by rw [show h'.objs.size = s.heap.objs.size from k.1]; exact t.hB, t.same, t.tr, t.fL, t.fC, fun x hx => ?_, ⟨acc.push (.ref r.q), c', e', ?_⟩, ?_⟩
  · have h1 : @LT.lt Nat _ x s0.heap.objs.size := Heap.lt_size e
    have h2 := c.S0
    have z' : @Eq Nat x S := z
    omega
  · obtain ⟨o, nm, qn, ho, r⟩ := t.gen
    exact ⟨o, nm, qn, (k.2 a fun z => c.ca (by rw [show (a : Addr) = S from z]; exact c.cS)).trans ho, r⟩
  · rcases List.mem_append.mp hx with hx | hx
    · exact t.ps x hx
    · rw [List.mem_singleton.mp hx]; exact hr
  · rw [Array.toList_push, List.map_append]
    exact rv.append (.cons rfl .nil)
  · rw [List.length_append, List.length_singleton]; omega
theorem CT.small (c : CX P w A Lo Bo No g Co a S its.length s0 H) (t : CT P w A Lo Bo No g Co a S its s0 H m rs Hc s) (hn : rs.length + m < its.length) {acc : Array Value} {cc : Nat} (e : s.heap.get? S = some (lstObj acc cc)) : acc.size < sizeLine := by
  obtain ⟨acc2, cc2, e2, rv⟩ := t.lst
  rw [e] at e2
  cases e2
  have el := rv.length
  rw [List.length_map] at el
  have el2 : acc.toList.length = acc.size := by simp
  have := c.len
  omega
theorem CT.append {Q : Value → Shared → Prop} (c : CX P w A Lo Bo No g Co a S its.length s0 H) (t : CT P w A Lo Bo No g Co a S its s0 H m rs Hc s) {r : PR} (hr : Hc r.q = some (.tup [.ref r.l, .ref r.p]) ∧ Hc r.p = some (.tup r.sd)) (hn : rs.length + m < its.length)
    (h : ∀ h', Heap.SameBut S s.heap h' → CT P w A Lo Bo No g Co a S its s0 H m (rs ++ [r]) Hc { s with heap := h' } → Q .none { s with heap := h' }) : wpAny (model P w) A (call (.builtin "list.append") [.ref S, .ref r.q]) Q E s := by
  obtain ⟨acc, cc, e, rv⟩ := id t.lst
  exact append_exact e (fun h' c' e' k => h h' k (t.pushed c hr hn e e' k)) (t.small c hn e)
/-- the end: the list is tracked -/
structure CEnd (P : Program) (w : World) (S : Nat) (s0 : Shared) (H : Hp) (rs : List PR) (H' : Hp) (s : Shared) : Prop where
  hok : HOk P w H' s.heap
  k0 : ∀ b o, s0.heap.get? b = some o → s.heap.get? b = some o
  os : s.os = s0.os
  bare : AllBare s.gens
  same : ∀ b : Nat, b < s0.heap.objs.size → H' b = H b
  ps : PairsAt H' rs
  lst : H' S = some (.lst (rs.map fun r => .ref r.q))
theorem CT.fin {Q : Option Value → Shared → Prop} (c : CX P w A Lo Bo No g Co a S its.length s0 H) (t : CT P w A Lo Bo No g Co a S its s0 H 0 rs Hc s)
    (h : ∀ s1, KT Lo Bo No g s s1 → CEnd P w S s0 H rs (upd Hc S (.lst (rs.map fun r => .ref r.q))) s1 → Q none s1) : wpAny (model P w) A (pyNext (.ref a)) Q E s := by
  refine pull_end c.sm t.bare (t.nl c) t.gen t.sl fun s1 k => h s1 k ?_
  obtain ⟨acc, cc, e, rv⟩ := t.lst
  have e1 : s1.heap.get? S = some (lstObj acc cc) := k.keep S _ e fun z => by
    have h1 := c.sB
    rcases z with z | z
    · exact c.SL z
    · have z' : @LE.le Nat _ Bo S := z.1
      omega
  have nS : Hc S = none := t.fC S c.cS
  refine ⟨HOk.addL (us := acc.toList) (c := cc) (t.hokT k) nS ?_ (by simpa using e1) rv, fun b o eb => k.keep b o (t.k0 b o eb) fun z => ?_, k.os.trans t.os, k.bare, fun b hb => ?_, fun r hr => ?_, upd_same⟩
  · rw [List.length_map]
    have := t.mn
    have := c.len
    omega
  · have hb : @LT.lt Nat _ b s0.heap.objs.size := Heap.lt_size eb
    have h1 := c.l0
    have h2 := c.lo
    rcases z with z | z
    · have z' : @Eq Nat b Lo := z
      omega
    · have z' : @LE.le Nat _ Bo b := z.1
      omega
  · have h1 := c.S0
    have : (b : Addr) ≠ S := fun z => by
      have z' : @Eq Nat b S := z
      omega
    rw [upd_ne this]
    exact t.same b hb
  · obtain ⟨h1, h2⟩ := t.ps r hr
    exact ⟨by rw [upd_ne (ne_of_none h1 nS)]; exact h1, by rw [upd_ne (ne_of_none h2 nS)]; exact h2⟩
end
end Ws
end
section
/-! Generators: [pair for pair in self.sides() if ..], list(self.sides()). -/
namespace Ws
open PySem PySem.Spec PyProof.Rows L2 GenW
abbrev Same (H H' : Hp) : Prop := ∀ b u, H b = some u → H' b = some u
/-- what is known of the class's text -/
structure SidesCls (K : PySem.W.Frag) (CL CF : Addr) : Prop where
  cl : LineCls K CL
  cf : FlowCls K CF
  ex : ∃ (f1 f2 : Addr) (q1 q2 : Str) (c1 c2 : Value), Meth K CL "sides" f1 ∧ GenM K "sides" q1 (mth 33 1) f1 c1 ∧ Meth K CF "sides" f2 ∧ GenM K "sides" q2 (mth 34 2) f2 c2
def tPairs (CL CF : Addr) (i : Nat) (keep : List V → Bool) : TE := fun σ H Q => ∃ fl ls, σ[i]? = some (some (.ref fl)) ∧ LinesAt CL CF H fl ls ∧ (itemsO ls).length ≤ sizeLine ∧
  ∀ H' lst rs, Same H H' → H' lst = some (.lst (rs.map fun r => .ref r.q)) → H lst = none → PairsAt H' rs → rs.map (fun r => (r.l, r.sd)) = (itemsO ls).filter (fun x => keep x.2) → Q (.ref lst) H'
section
variable {X : Cx} {pins : List (Addr × Obj)} {σ : L2.St} {H : Hp} {s : Shared} {CL CF fl : Addr} {ls : List (Addr × Ln)}
/-- the generator stands, it has not begun -/
structure Born (X : Cx) (CL CF : Addr) (H : Hp) (ls : List (Addr × Ln)) (s : Shared) (a : Nat) (s2 : Shared) : Prop where
  ex : ∃ (env : Env) (m : Str → Option Value) (fl : Addr), env.locals = s.heap.objs.size ∧ s2.gens = s.gens.push (.fresh (.func flowBody env)) ∧ s2.os = s.os ∧ s2.heap.IsGen a s.gens.size ∧ (∀ b o, s.heap.get? b = some o → s2.heap.get? b = some o) ∧
    @LT.lt Nat _ s.heap.objs.size a ∧ @LT.lt Nat _ a s2.heap.objs.size ∧ s2.heap.Ns env.locals m ∧ m "self" = some (.ref fl) ∧ LinesAt CL CF H fl ls ∧
    env.scope.isCoroutine = false ∧ env.scope.kind = .function ∧ env.kindOf "line" = some .local ∧ env.kindOf "side" = some .local ∧ env.kindOf "self" = some .local
/-- self.sides() -/
theorem run_born {i : Nat} {o : Expr} {apos pos : Pos} {pl : Sem Bool} (cc : SidesCls X.K CL CF) (ho : PE X o (tVar i)) (hr : Room 6 X.A) (I : Inv X pins σ H s) (hi : σ[i]? = some (some (.ref fl))) (hl : LinesAt CL CF H fl ls) {Q' : Value → Shared → Prop}
    (h : ∀ s1 a s2, Inv X pins σ H s1 → Born X CL CF H ls s1 a s2 → Q' (.ref a) s2)
    (ht : eval (.Call (.Attribute o "sides" apos) [] [] pos) X.env = (do
      let ov ← eval o X.env
      standAt apos.atName
      let (f, first) ← holding [ov] (getMethod ov "sides" pl)
      callWith pos f first (backTo pos (starEach [] X.env)) (backToKw pos (keywordEach [] X.env))) := by rfl) :
    wpAny (model X.prog X.w) X.A (eval (.Call (.Attribute o "sides" apos) [] [] pos) X.env) Q' X.xe s := by
  obtain ⟨f1, f2, n1, n2, c1, c2, h1, h2, h3, h4⟩ := cc.ex
  obtain ⟨dx, fs, l1, l2, ga, gb, q1, q2, q3, q4, q5, q6, q7, q7', q8⟩ := id hl
  refine PySem.W.methodCall_KW (pl := pl) (thn (ho.run pins s σ H (fun v H1 => v = .ref fl ∧ H1 = H) I ⟨_, hi, rfl, rfl⟩) fun u s1 ⟨x, H1, I1, rx, ex, eH⟩ => ?_) ht
  subst ex eH
  obtain rfl : u = Value.ref fl := rx
  refine getmeth_ok I1 q1 cc.cf.c h3 q7' ?_
  refine PySem.W.callWith_K0 (first := [.ref fl]) I1.kIn h3.kp (wpAny_mono (make_raw h4 ⟨rfl, rfl, rfl, rfl⟩ I1.kIn I1.nolimit hr.depth) (fun v s' q => ?_) fun _ _ x => x)
  obtain ⟨a, tk, h', ev, es, hg, k, z1, z2, z3, m, hn, hm⟩ := q.ex
  subst ev es
  exact h s1 a _ I1 ⟨_, m, fl, z2, rfl, rfl, hg, k, z1, z3, hn, hm, hl, rfl, rfl, rfl, rfl, rfl⟩
/-- ready to be drained into S -/
theorem Born.ready {a S : Nat} {s2 s5 : Shared} {Co : Addr → Prop} (cc : SidesCls X.K CL CF) (I : Inv X pins σ H s) (b : Born X CL CF H ls s a s2) (hlen : (itemsO ls).length ≤ sizeLine) {A : Around} (rmA : Room 5 A.in1) (smA : Sm A)
    (k25 : ∀ b o, s2.heap.get? b = some o → s5.heap.get? b = some o) (os : s5.os = s2.os) (gens : s5.gens = s2.gens) (hS' : ∃ c, s5.heap.get? S = some (lstObj #[] c)) (hS2 : s2.heap.objs.size ≤ S) (hCo : ∀ b : Nat, Co b → s2.heap.objs.size ≤ b ∧ b < s5.heap.objs.size) (cS : Co S) (sz : s2.heap.objs.size ≤ s5.heap.objs.size) :
    CX X.prog X.w A s.heap.objs.size s5.heap.objs.size s5.gens.size s.gens.size Co a S (itemsO ls).length s H ∧ CT X.prog X.w A s.heap.objs.size s5.heap.objs.size s5.gens.size s.gens.size Co a S (itemsO ls) s H (itemsO ls).length [] H s5 := by
  obtain ⟨env, m, fl, eL, eg, eo, hg, k, z1, z2, hn, hm, hl, e1, e2, e3, e4, e5⟩ := b.ex
  obtain ⟨f1, f2, n1, n2, c1, c2, h1, h2, h3, h4⟩ := cc.ex
  obtain ⟨cS0, hS⟩ := hS'
  have k5 : ∀ b o, s.heap.get? b = some o → s5.heap.get? b = some o := fun b o e => k25 b o (k b o e)
  have lt5 : @LT.lt Nat _ S s5.heap.objs.size := Heap.lt_size hS
  have bare5 : AllBare s5.gens := by rw [gens, eg]; exact AllBare.push I.bare rfl
  have gz : s5.gens.size = s.gens.size + 1 := by rw [gens, eg]; exact Array.size_push ..
  have hgs : s5.gens[s.gens.size]? = some (.fresh (.func flowBody env)) := by rw [gens, eg]; exact Array.getElem?_push_size ..
  have hok5 : HOk X.prog X.w H s5.heap := I.hok.kept k5
  have frb : ∀ (b : Nat), s.heap.objs.size ≤ b → X.base.get? b = none := fun b hb => by
    cases e : X.base.get? b with
    | none => rfl
    | some o =>
      have : @LT.lt Nat _ b s.heap.objs.size := Heap.lt_size (I.bk b o e)
      omega
  have hS2' : @LE.le Nat _ s2.heap.objs.size S := hS2
  refine ⟨⟨smA, by show s.heap.objs.size < _; omega, lt5, by omega, Nat.le_refl _, by omega, by omega, by omega, by omega, cS, fun z => ?_, fun z => ?_, fun b hb => ?_, by omega, hlen, I.nolimit, I.hok⟩,
    ⟨hok5, k5, os.trans eo, bare5, ⟨_, hgs, fun s' kc => ⟨rfl, ?_⟩⟩, hg.keeps k25, Nat.le_refl _, fun _ _ => rfl, fun b u e => ?_, I.hok.fresh (Nat.le_refl _), fun b hb => ?_, fun r hr => (nomatch hr), ⟨#[], cS0, hS, .nil⟩, by simp⟩⟩
  · have := (hCo a z).1
    omega
  · have := (hCo s.heap.objs.size z).1
    omega
  · obtain ⟨y1, y2⟩ := hCo b hb
    exact ⟨by show s.heap.objs.size ≤ _; omega, y2⟩
  · have T5 : Lt (⟨X.prog, X.w, X.K, X.base, env⟩ : LX) (fun x => if x = "self" then some (.ref fl) else none) H (s5.setGen s.gens.size .running) := by
      refine ⟨⟨I.ok.mod.kin, I.ok.mod.nolimit, e2, ?_⟩, fun b o e => k5 b o (I.bk b o e), hok5, ?_, m, ?_, fun x v hx => ?_⟩
      · show X.base.get? env.locals = none
        rw [eL]; exact frb _ (Nat.le_refl _)
      · show H env.locals = none
        rw [eL]; exact I.hok.fresh (Nat.le_refl _)
      · exact hn.keeps k25
      · have hx' : (if x = "self" then some (V.ref fl) else none) = some v := hx
        by_cases q : x = "self"
        · rw [if_pos q] at hx'
          cases hx'
          subst q
          exact ⟨e5, _, hm, rfl⟩
        · rw [if_neg q] at hx'
          cases hx'
    have nc : NoC (⟨X.prog, X.w, X.K, X.base, env⟩ : LX) Co s5.heap.objs.size H := by
      refine ⟨fun b z => (hCo b z).2, fun b z => I.hok.fresh ?_, fun b z e => ?_, fun b o z e => ?_⟩
      · have := (hCo b z).1
        show s.heap.objs.size ≤ (b : Nat)
        omega
      · have := (hCo b z).1
        have e' : @Eq Nat b env.locals := e
        rw [eL] at e'
        omega
      · have := (hCo b z).1
        have q := frb b (by omega)
        have e' : X.base.get? b = some o := e
        rw [q] at e'
        cases e'
    have T' := T5.wake nc kc
    have hz : s5.heap.objs.size ≤ s'.heap.objs.size := kc.sz
    have hgz : s5.gens.size ≤ s'.gens.size := by
      have := kc.gz
      rw [setGen_size] at this
      exact this
    have rm : Room 4 (A.in1.over (.func flowBody env) []) := by
      rw [over_func]
      exact rmA.deeper env
    have := flow_seg (L := ⟨X.prog, X.w, X.K, X.base, env⟩) (A := A.in1) (Bo := s5.heap.objs.size) (No := s5.gens.size) (Co := Co) (s := s') cc.cl cc.cf h1 h2 e1 e3 e4 rm (by rw [if_pos rfl]) hl T' nc hz (by show @LT.lt Nat _ env.locals s5.heap.objs.size; rw [eL]; omega) hgz kc.bare
    have eLn : (⟨X.prog, X.w, X.K, X.base, env⟩ : LX).env.locals = s.heap.objs.size := eL
    rw [eLn] at this
    exact this
  · refine .inl ?_
    have : @LT.lt Nat _ b s.heap.objs.size := I.hok.lt e
    omega
  · have := (hCo b hb).1
    exact I.hok.fresh (by show s.heap.objs.size ≤ (b : Nat); omega)
end
end Ws
end
section
/-! Generators: the comprehension over all sides. -/
namespace Ws
open PySem PySem.Spec PyProof.Rows L2 GenW
theorem cut5 (a b c d e : V) : cutV [a, b, c, d, e] none (some 2) = [a, b] := by rfl
theorem Lt.reH {L : LX} {ν : Nu} {H H' : Hp} {s : Shared} (T : Lt L ν H s) (h : HOk L.prog L.w H' s.heap) (n : H' L.env.locals = none) : Lt L ν H' s := ⟨T.ok, T.bk, h, n, T.loc⟩
/-- which side is kept -/
theorem keep_test {L : LX} {ν : Nu} {A : Around} {H : Hp} {s : Shared} {r : PR} {b1 b2 b3 b4 b5 b6 b7 b8 b9 c1 c2 c3 c4 c5 c6 c7 : Pos} {j1 j2 j3 j4 j5 j6 : Nat} {whole : Sem Value}
    (sm : Sm A) (T : Lt L ν H s) (hp : ν "pair" = some (.ref r.q)) (hq : H r.q = some (.tup [.ref r.l, .ref r.p])) (hs : H r.p = some (.tup r.sd)) (ok : SideOk r.sd) :
    wpAny (model L.prog L.w) A (isTrue (.BoolOp .Or [.Compare (.Subscript (.Subscript (.Name "pair" b1) (.Constant (.int 1) j1 b2) b3) (.Constant (.int 4) j2 b4) b5) [.Eq] [.Constant (.int 1) j3 b6] b7,
      .Compare (.Constant .none j4 b8) [.NotIn] [.Subscript (.Subscript (.Name "pair" c1) (.Constant (.int 1) j5 c2) c3) (.Slice none (some (.Constant (.int 2) j6 c4)) none c5) c6] c7] b9) L.env whole)
      (fun b s' => b = keepS r.sd ∧ ∃ H', Gr L.prog L.w H s H' s') (fun _ _ => False) s := by
  obtain ⟨na, nb, p, rm, sg, esd⟩ := ok
  refine wpAny_mono ((plt_or (plt_cmp (plc_eq (pl_ix (pl_ix pl_v)) pl_int)) (plt_or1 (plt_cmp (plc_nn (pl_cut (pl_ix pl_v)))))).run _ _ s ν H (fun b H1 => b = keepS r.sd) sm T ?_) (fun b s' ⟨H', g, e⟩ => ⟨e, H', g⟩) fun _ _ x => x
  refine ⟨_, hp, r.q, _, _, rfl, hq, rfl, r.p, _, .int sg, rfl, hs, by rw [esd]; rfl, sg, 1, rfl, rfl, ?_⟩
  show if decide (sg = 1) = true then true = keepS r.sd else lnn (lcut 2 (lix 1 (lv (Str.ofString "pair")))) ν H fun b H1 => b = keepS r.sd
  by_cases h1 : sg = 1
  · rw [decide_eq_true h1, if_pos rfl]
    rw [esd, h1]
    simp [keepS]
  · rw [decide_eq_false h1, if_neg Bool.false_ne_true]
    refine ⟨_, hp, r.q, _, _, rfl, hq, rfl, r.p, r.sd, rfl, hs, by rw [esd]; show ¬ HT.sIx 5 5 (some 2) = 5; decide, fun p' hp' => ⟨p', [ndV na, ndV nb], rfl, ?_, ?_, ?_⟩⟩
    · rw [upd_same, esd, cut5]
    · cases na <;> cases nb <;> rfl
    · rw [esd]
      show (!inV .non [ndV na, ndV nb]) = (decide (sg = 1) || !inV .non [ndV na, ndV nb])
      rw [decide_eq_false h1]
      rfl
section
variable {X : Cx} {pins : List (Addr × Obj)} {σ : L2.St} {H : Hp} {s : Shared} {CL CF fl : Addr} {ls : List (Addr × Ln)}
theorem comp_core {i : Nat} {Q : VK} {o : Expr} {apos mpos pos pos' p1 p2 : Pos} {pl : Sem Bool} {scope : Scope} {use : Option (Value → Sem Unit)} {Qf : Value → Shared → Prop} {b1 b2 b3 b4 b5 b6 b7 b8 b9 c1 c2 c3 c4 c5 c6 c7 : Pos} {j1 j2 j3 j4 j5 j6 : Nat}
    (cc : SidesCls X.K CL CF) (ho : PE X o (tVar i)) (hr : Room 6 X.A) (I : Inv X pins σ H s) (h : tPairs CL CF i keepS σ H Q)
    (hfree : ∀ y ∈ scope.names, y.2 ≠ .free) (hkind : scope.kind = .function) (hnames : ∀ y ∈ scope.names, y.2 = .local → scope.names.lookup y.1 = some .local) (hpair : scope.names.lookup ("pair" : Str) = some .local)
    (hRR : ∀ D C s' m H', Inv X pins σ H' s' → Q (.ref D) H' → s'.heap.Ns C m → FpOk X pins H' C → compPost (model X.prog X.w) X.A X.xe use Qf (.ref D) C (.ok .next) s')
    (ht : eval (.Call (.Attribute o "sides" apos) [] [] mpos) X.env = (do
      let ov ← eval o X.env
      standAt apos.atName
      let (f, first) ← holding [ov] (getMethod ov "sides" pl)
      callWith mpos f first (backTo mpos (starEach [] X.env)) (backToKw mpos (keywordEach [] X.env)))) (hs : ∀ x, foldedSetIterable (.Call (.Attribute o "sides" apos) [] [] mpos) X.env x = pure x) :
    wpAny (model X.prog X.w) X.A (comprehension (.ListComp (.Name "pair" p1) [⟨.Name "pair" p2, .Call (.Attribute o "sides" apos) [] [] mpos, [.BoolOp .Or [.Compare (.Subscript (.Subscript (.Name "pair" b1) (.Constant (.int 1) j1 b2) b3) (.Constant (.int 4) j2 b4) b5) [.Eq] [.Constant (.int 1) j3 b6] b7,
      .Compare (.Constant .none j4 b8) [.NotIn] [.Subscript (.Subscript (.Name "pair" c1) (.Constant (.int 1) j5 c2) c3) (.Slice none (some (.Constant (.int 2) j6 c4)) none c5) c6] c7] b9], 0⟩] scope pos) scope X.env pos' (newList []) false (eval (.Call (.Attribute o "sides" apos) [] [] mpos) X.env) use) Qf X.xe s := by
  obtain ⟨fl, ls, hi, hl, hlen, hq⟩ := h
  have hfr : ∀ y ∈ scope.names, y.2 = .free → ∃ c, X.env.cells.lookup y.1 = some c := fun y hy e => absurd e (hfree y hy)
  refine wpAny_comprehension_free (use := use) rfl hs (closure_ok hfr) hkind hnames (run_born cc ho hr I hi hl (fun s1 a s2 I1 born => ?_) ht)
  have hgen : s2.heap.IsGen a s1.gens.size := by obtain ⟨_, _, _, _, _, _, hg, _⟩ := born.ex; exact hg
  refine wpAny_pyIter_gen hgen ?_
  refine wpAny_newObj_type (newEnv_comp ?_) (by show 0 ≤ sizeLine; decide)
  generalize hs3 : ({ s2 with heap := s2.heap.push { cls := .type "list", data := .seq ([] : List Value).toArray } } : Shared) = s3
  have h3 : s3.heap = s2.heap.push { cls := .type "list", data := .seq ([] : List Value).toArray } := by rw [← hs3]
  show codeAny _ _ (.compStart _ 0 (.ref a) (.ref s2.heap.objs.size) (compEnvC scope (cellsFrom (s3.heap.objs.size + 1) scope.names (cloFrom X.env.cells scope.names [])) s3.heap.objs.size X.env)) (compPost (model X.prog X.w) X.A X.xe use Qf (.ref s2.heap.objs.size) s3.heap.objs.size) { s3 with heap := pushCells (s3.heap.push { cls := .type "dict", data := .dict #[] }) scope.names }
  generalize hce : compEnvC scope (cellsFrom (s3.heap.objs.size + 1) scope.names (cloFrom X.env.cells scope.names [])) s3.heap.objs.size X.env = ce
  have cL : @Eq Nat ce.locals s3.heap.objs.size := by subst hce; rfl
  have ckind : ce.scope.kind = .function := by subst hce; exact hkind
  have cpair : ce.kindOf "pair" = some .local := by subst hce; exact lookup_relabel_local hpair
  have sz3 : @Eq Nat s3.heap.objs.size (s2.heap.objs.size + 1) := by rw [h3]; exact Heap.size_push ..
  generalize hs4 : ({ s3 with heap := pushCells (s3.heap.push { cls := .type "dict", data := .dict #[] }) scope.names } : Shared) = s4
  have h4 : s4.heap = pushCells (s3.heap.push { cls := .type "dict", data := .dict #[] }) scope.names := by rw [← hs4]
  have k34 : ∀ b o, s3.heap.get? b = some o → s4.heap.get? b = some o := fun b o e => by rw [h4]; exact pushCells_keeps _ _ _ _ (Heap.get?_push_of_some _ e)
  have k24 : ∀ b o, s2.heap.get? b = some o → s4.heap.get? b = some o := fun b o e => k34 b o (by rw [h3]; exact Heap.get?_push_of_some _ e)
  have sz4 : @LT.lt Nat _ s3.heap.objs.size s4.heap.objs.size := by
    rw [h4]
    have := pushCells_size scope.names (s3.heap.push { cls := .type "dict", data := .dict #[] })
    rw [Heap.size_push] at this
    exact this
  have hS4 : s4.heap.get? s2.heap.objs.size = some (lstObj #[] 0) := k34 _ _ (by rw [h3]; exact Heap.get?_push_size _ rfl)
  have hns4 : s4.heap.Ns ce.locals (fun _ => none) := by
    rw [show ce.locals = s3.heap.objs.size from cL, h4]
    exact (Heap.Ns.new s3.heap (.type "dict")).keeps (pushCells_keeps _ _)
  obtain ⟨cx, ct⟩ := Born.ready (S := s2.heap.objs.size) (s5 := s4) (Co := fun b => b = s2.heap.objs.size ∨ b = ce.locals) (A := X.A) cc I1 born hlen (Room.in1 hr) (Sm.ofRoom hr) k24 (by rw [← hs4, ← hs3]) (by rw [← hs4, ← hs3]) ⟨0, hS4⟩ (Nat.le_refl _)
    (fun b hb => by
      rcases hb with z | z
      · have z' : @Eq Nat b s2.heap.objs.size := z
        omega
      · have z' : @Eq Nat b ce.locals := z
        omega) (.inl rfl) (by omega)
  have hgen4 := ct.gen
  have l0 := cx.l0
  have lo := cx.lo
  have aB := cx.aB
  have sz12 : @LE.le Nat _ s1.heap.objs.size s2.heap.objs.size := cx.S0
  have frb : ∀ (b : Nat), s1.heap.objs.size ≤ b → X.base.get? b = none := fun b hb => by
    cases e : X.base.get? b with
    | none => rfl
    | some o =>
      have : @LT.lt Nat _ b s1.heap.objs.size := Heap.lt_size (I1.bk b o e)
      omega
  have aLt : @LT.lt Nat _ a s2.heap.objs.size := by obtain ⟨_, _, _, _, _, _, _, _, _, z, _⟩ := born.ex; exact z
  have loLt : @LT.lt Nat _ s1.heap.objs.size s2.heap.objs.size := by obtain ⟨_, _, _, _, _, _, _, _, z, _⟩ := born.ex; omega
  have T4 : Lt (⟨X.prog, X.w, X.K, X.base, ce⟩ : LX) (fun _ => none) H s4 := by
    refine ⟨⟨I1.ok.mod.kin, I1.ok.mod.nolimit, ckind, ?_⟩, fun b o e => ct.k0 b o (I1.bk b o e), ct.hok, ?_, _, hns4, fun x v hx => nomatch hx⟩
    · exact frb ce.locals (by omega)
    · exact ct.fC ce.locals (.inr rfl)
  -- the turns
  have loop : codeAny (model X.prog X.w) X.A (.compLoop (.ListComp (.Name "pair" p1) [⟨.Name "pair" p2, .Call (.Attribute o "sides" apos) [] [] mpos, [.BoolOp .Or [.Compare (.Subscript (.Subscript (.Name "pair" b1) (.Constant (.int 1) j1 b2) b3) (.Constant (.int 4) j2 b4) b5) [.Eq] [.Constant (.int 1) j3 b6] b7,
      .Compare (.Constant .none j4 b8) [.NotIn] [.Subscript (.Subscript (.Name "pair" c1) (.Constant (.int 1) j5 c2) c3) (.Slice none (some (.Constant (.int 2) j6 c4)) none c5) c6] c7] b9], 0⟩] scope pos) 0 (.ref a) (.ref s2.heap.objs.size) ce) (compPost (model X.prog X.w) X.A X.xe use Qf (.ref s2.heap.objs.size) s3.heap.objs.size) s4 := by
    refine codeAny_compLoop_tests (fun n s => ∃ (pre rem : List (Addr × List V)) (rs : List PR) (Hc : Hp) (ν : Nu), n = rem.length ∧ itemsO ls = pre ++ rem ∧ CT X.prog X.w X.A s1.heap.objs.size s4.heap.objs.size s4.gens.size s1.gens.size (fun b => b = s2.heap.objs.size ∨ b = ce.locals) a s2.heap.objs.size (itemsO ls) s1 H rem.length rs Hc s ∧
      Lt (⟨X.prog, X.w, X.K, X.base, ce⟩ : LX) ν Hc s ∧ rs.map (fun r => (r.l, r.sd)) = pre.filter (fun x => keepS x.2)) ?_ _ ⟨[], itemsO ls, [], H, _, rfl, rfl, ct, T4, rfl⟩
    rintro n s5 ⟨pre, rem, rs, Hc, ν, rfl, eits, ct5, T5, ers⟩
    cases rem with
    | nil =>
      refine CT.fin cx ct5 fun s6 k6 ce6 => ?_
      obtain ⟨m6, hn6, _⟩ := T5.loc
      have hn6' : s6.heap.Ns s3.heap.objs.size m6 := by
        obtain ⟨o, es, ep, ho, r⟩ := hn6
        have e1 : ce.locals = s3.heap.objs.size := cL
        have ho' : s5.heap.get? ce.locals = some o := ho
        rw [e1] at ho'
        refine ⟨o, es, ep, k6.keep _ o ho' fun z => ?_, r⟩
        rcases z with z | z
        · have z' : @Eq Nat s3.heap.objs.size s1.heap.objs.size := z
          omega
        · have z' : @LE.le Nat _ s4.heap.objs.size s3.heap.objs.size := z.1
          omega
      have I6 : Inv X pins σ (upd Hc s2.heap.objs.size (.lst (rs.map fun r => .ref r.q))) s6 := Ws.Inv.grown I1 ce6.k0 ce6.os ce6.bare ce6.hok ce6.same
      have sameH : Same H (upd Hc s2.heap.objs.size (.lst (rs.map fun r => .ref r.q))) := fun b u e => by rw [ce6.same b (I1.hok.lt e)]; exact e
      have nC : upd Hc s2.heap.objs.size (.lst (rs.map fun r => .ref r.q)) s3.heap.objs.size = none := by
        have : (s3.heap.objs.size : Addr) ≠ s2.heap.objs.size := fun z => by
          have z' : @Eq Nat s3.heap.objs.size s2.heap.objs.size := z
          omega
        rw [upd_ne this]
        exact ct5.fC _ (.inr cL.symm)
      refine hRR _ _ s6 m6 _ I6 (hq _ _ rs sameH ce6.lst (I1.hok.fresh cx.S0) ce6.ps ?_) hn6' (I1.fpOk (by show s1.heap.objs.size ≤ (s3.heap.objs.size : Nat); omega) nC)
      rw [eits, List.append_nil]
      exact ers
    | cons x rem =>
      obtain ⟨l, sd⟩ := x
      have hix : (itemsO ls)[(itemsO ls).length - 1 - rem.length]? = some (l, sd) := by
        rw [eits, List.length_append, List.length_cons]
        rw [show pre.length + (rem.length + 1) - 1 - rem.length = pre.length by omega]
        rw [List.getElem?_append_right (Nat.le_refl _), Nat.sub_self]
        rfl
      have sok : SideOk sd := items_ok (x := (l, sd)) (by rw [eits]; simp)
      have hsdl : sd.length ≤ sizeLine := by
        obtain ⟨_, _, _, _, _, e⟩ := sok
        rw [e, sizeLine_eq]
        show 5 ≤ 16777216
        decide
      have hmn := ct5.mn
      refine CT.pull cx ct5 hix (fun r el esd s6 k6 ct6 np nq hne ok6 => ?_) hsdl
      obtain ⟨q, p, l', sd'⟩ := r
      simp only at el esd ct6 np nq hne ⊢
      subst el esd
      have T6a : Lt (⟨X.prog, X.w, X.K, X.base, ce⟩ : LX) ν Hc s6 := by
        refine T5.keep k6 (fun b o e z => ?_) (fun b o u e eo z => ?_) fun o z => ?_
        · have q1 : @LT.lt Nat _ b s1.heap.objs.size := Heap.lt_size (I1.bk b o e)
          rcases z with z | z
          · have z' : @Eq Nat b s1.heap.objs.size := z
            omega
          · have z' : @LE.le Nat _ s4.heap.objs.size b := z.1
            omega
        · rcases z with z | z
          · have z' : b = s1.heap.objs.size := z
            rw [z', ct5.fL] at e
            cases e
          · rcases ct5.tr b u e with y | ⟨xs, y⟩
            · have z' : @LE.le Nat _ s4.heap.objs.size b := z.1
              omega
            · subst y
              exact z.2 (tupO_of (ct5.hok b _ e) eo)
        · rcases z with z | z
          · have z' : @Eq Nat ce.locals s1.heap.objs.size := z
            omega
          · have z' : @LE.le Nat _ s4.heap.objs.size ce.locals := z.1
            omega
      have T6 : Lt (⟨X.prog, X.w, X.K, X.base, ce⟩ : LX) ν (upd (upd Hc p (.tup sd')) q (.tup [.ref l', .ref p])) s6 := T6a.reH ct6.hok (ct6.fC _ (.inr rfl))
      refine lt_store (L := (⟨X.prog, X.w, X.K, X.base, ce⟩ : LX)) (v := .ref q) T6 cpair rfl fun h7 t7 T7 sb7 => ?_
      have nS : @Ne Nat ce.locals s2.heap.objs.size := by omega
      have ct7 := CT.own (tk := t7) cx ct6 (b := ce.locals) (.inr rfl) nS sb7
      have eq7 : upd (upd Hc p (.tup sd')) q (.tup [.ref l', .ref p]) q = some (.tup [.ref l', .ref p]) := upd_same
      have ep7 : upd (upd Hc p (.tup sd')) q (.tup [.ref l', .ref p]) p = some (.tup sd') := by rw [upd_ne hne, upd_same]
      have epair : nuSet ν "pair" (.ref q) "pair" = some (.ref q) := by unfold nuSet; rw [if_pos rfl]
      refine wpAny_tests_one (wpAny_mono (keep_test (L := (⟨X.prog, X.w, X.K, X.base, ce⟩ : LX)) (r := ⟨q, p, l', sd'⟩) cx.sm T7 epair eq7 ep7 sok) (fun ok s8 ⟨eok, H8, g8⟩ => ?_) fun _ _ x => x.elim)
      have ct8 := ct7.gr g8
      have T8 := T7.gr0 g8
      subst eok
      cases hk : keepS sd' with
      | true =>
        simp only [hk, if_true]
        refine PL.thn' (L := (⟨X.prog, X.w, X.K, X.base, ce⟩ : LX)) (Q := fun v H' => v = .ref q ∧ H' = upd (upd Hc p (.tup sd')) q (.tup [.ref l', .ref p])) pl_v cx.sm T8 ⟨_, epair, rfl, rfl⟩ fun u v H9 s9 g9 T9 r9 ⟨ev, eH⟩ => ?_
        subst ev eH
        obtain rfl : u = Value.ref q := r9
        have ct9 := ct8.gr g9
        refine CT.append (r := ⟨q, p, l', sd'⟩) cx ct9 ⟨eq7, ep7⟩ ?_ fun h10 sb10 ct10 => ?_
        · have := ct9.mn
          have e2 : (itemsO ls).length = pre.length + (rem.length + 1) := by rw [eits]; simp
          have e3 : rs.length ≤ pre.length := by
            have := congrArg List.length ers
            rw [List.length_map] at this
            rw [this]
            exact List.length_filter_le _ _
          omega
        · refine ⟨rem.length, by simp, pre ++ [(l', sd')], rem, rs ++ [⟨q, p, l', sd'⟩], _, _, rfl, by rw [eits]; simp, ct10, T9.turn (I := s2.heap.objs.size) (t := s9.toks) (ct9.fC _ (.inl rfl)) (Ne.symm nS) (frb _ sz12) fun b o n e => (sb10.2 b n).trans e, ?_⟩
          rw [List.map_append, ers, List.filter_append]
          simp [hk]
      | false =>
        simp only [hk, Bool.false_eq_true, if_false]
        refine ⟨rem.length, by simp, pre ++ [(l', sd')], rem, rs, _, _, rfl, by rw [eits]; simp, ct8, T8, ?_⟩
        rw [ers, List.filter_append]
        simp [hk]
  exact codeAny_compStart_list loop (wpAny_pyIter_gen hgen4 loop)
/-- name = [pair for pair in self.sides() if ..] -/
theorem ps_pairs {i k : Nat} {o : Expr} {y : Str} {apos mpos pos spos p1 p2 py : Pos} {pl : Sem Bool} {scope : Scope} {b1 b2 b3 b4 b5 b6 b7 b8 b9 c1 c2 c3 c4 c5 c6 c7 : Pos} {j1 j2 j3 j4 j5 j6 : Nat}
    (cc : SidesCls X.K CL CF) (ho : PE X o (tVar i)) (hr : Room 6 X.A) (hN : X.N.Nodup) (hy : X.N[k]? = some y) (hyl : X.env.scope.names.lookup y = some .local)
    (hsw : swapsWith (.ListComp (.Name "pair" p1) [⟨.Name "pair" p2, .Call (.Attribute o "sides" apos) [] [] mpos, [.BoolOp .Or [.Compare (.Subscript (.Subscript (.Name "pair" b1) (.Constant (.int 1) j1 b2) b3) (.Constant (.int 4) j2 b4) b5) [.Eq] [.Constant (.int 1) j3 b6] b7,
      .Compare (.Constant .none j4 b8) [.NotIn] [.Subscript (.Subscript (.Name "pair" c1) (.Constant (.int 1) j5 c2) c3) (.Slice none (some (.Constant (.int 2) j6 c4)) none c5) c6] c7] b9], 0⟩] scope pos) (some (.Name y py)) spos.line X.env = pure true)
    (hfree : ∀ y ∈ scope.names, y.2 ≠ .free) (hkind : scope.kind = .function) (hnames : ∀ y ∈ scope.names, y.2 = .local → scope.names.lookup y.1 = some .local) (hpair : scope.names.lookup ("pair" : Str) = some .local)
    (ht : eval (.Call (.Attribute o "sides" apos) [] [] mpos) X.env = (do
      let ov ← eval o X.env
      standAt apos.atName
      let (f, first) ← holding [ov] (getMethod ov "sides" pl)
      callWith mpos f first (backTo mpos (starEach [] X.env)) (backToKw mpos (keywordEach [] X.env))) := by rfl) (hs : ∀ x, foldedSetIterable (.Call (.Attribute o "sides" apos) [] [] mpos) X.env x = pure x := by intro _; rfl) :
    PS X (.Assign [.Name y py] (.ListComp (.Name "pair" p1) [⟨.Name "pair" p2, .Call (.Attribute o "sides" apos) [] [] mpos, [.BoolOp .Or [.Compare (.Subscript (.Subscript (.Name "pair" b1) (.Constant (.int 1) j1 b2) b3) (.Constant (.int 4) j2 b4) b5) [.Eq] [.Constant (.int 1) j3 b6] b7,
      .Compare (.Constant .none j4 b8) [.NotIn] [.Subscript (.Subscript (.Name "pair" c1) (.Constant (.int 1) j5 c2) c3) (.Slice none (some (.Constant (.int 2) j6 c4)) none c5) c6] c7] b9], 0⟩] scope pos) spos) (tAsg (tPairs CL CF i keepS) (gName k)) := by
  refine ⟨fun pins s σ H D I h => ?_⟩
  rw [exec_Assign_Name_used _ _ _ _ hsw]
  refine wpAny_bind (wpAny_standAt (wpAny_bind ?_))
  have h : tPairs CL CF i keepS σ H (fun x H1 => gName k x σ H1 D.nx) := h
  refine wpAny_bind (thn (comp_core (use := some (assign (.Name y py) X.env)) (Qf := fun _ s' => SP X pins D .next s') cc ho hr I h hfree hkind hnames hpair (fun L C s' m H' I' q hn f => ?_) ht hs) fun _ s' hq => wpAny_pure (wpAny_pure hq))
  show wpAny _ _ (assign (.Name y py) X.env (.ref L)) _ _ _
  refine wpAny_assign_Name (store_ok2 (v := V.ref L) I' hN hy (.inl hyl) rfl (fun s2 I2 ⟨a, sb, ha⟩ => ?_) (.inr hyl))
  obtain ⟨f0, f1, f2, f3, f4, f5⟩ := f
  have haC : C ≠ a := by
    rcases ha with z | z
    · rw [z]; exact f1
    · exact fun e => f4 y a z e.symm
  refine ⟨m, hn.sameBut sb haC, fun h3 sb3 => ?_⟩
  exact ⟨_, H', I2.turned (t' := s2.toks) (fun b o hb e => (sb3.2 b hb).trans e) f0 f1 f3 f4 f5, q⟩
end
end Ws
end
section
/-! Generators: list(self.sides()). -/
namespace Ws
open PySem PySem.Spec PyProof.Rows L2 GenW
section
variable {P : Program} {w : World} {A : Around} {Lo Bo No g : Nat} {Co : Addr → Prop} {a S : Nat} {its : List (Addr × List V)} {s0 : Shared} {H : Hp}
theorem drainT {R : Result → Shared → Prop} {res : Value} (hits : ∀ x ∈ its, SideOk x.2) (c : CX P w A.in1 Lo Bo No g Co a S its.length s0 H)
    (hend : ∀ s' rs H', CEnd P w S s0 H rs H' s' → rs.map (fun r => (r.l, r.sd)) = its → R (.ok (.ret res)) s') :
    ∀ (rem pre : List (Addr × List V)) (rs : List PR) (Hc : Hp) (s : Shared), its = pre ++ rem → rs.map (fun r => (r.l, r.sd)) = pre → CT P w A.in1 Lo Bo No g Co a S its s0 H rem.length rs Hc s →
      codeAny (model P w) A (.builtin "list.extend.loop" ⟨[.ref S, .ref a, res], []⟩) R s := by
  intro rem
  induction rem with
  | nil =>
    intro pre rs Hc s e1 e2 ct
    refine codeAny_builtin F.entry_extend_loop ?_
    rw [Around.under_plainId F.plain_extend_loop _]
    show wpAny _ A.in1 (pyNext (.ref a) >>= _) _ _ s
    refine wpAny_bind (CT.fin c ct fun s1 k ce => ?_)
    exact wpAny_pure (hend s1 rs _ ce (by rw [e2, e1, List.append_nil]))
  | cons x rem ih =>
    intro pre rs Hc s e1 e2 ct
    obtain ⟨l, sd⟩ := x
    have hix : its[its.length - 1 - rem.length]? = some (l, sd) := by
      rw [e1, List.length_append, List.length_cons]
      rw [show pre.length + (rem.length + 1) - 1 - rem.length = pre.length by omega]
      rw [List.getElem?_append_right (Nat.le_refl _), Nat.sub_self]
      rfl
    have hsdl : sd.length ≤ sizeLine := by
      obtain ⟨_, _, _, _, _, e⟩ := hits (l, sd) (by rw [e1]; simp)
      rw [show sd = _ from e, sizeLine_eq]
      show 5 ≤ 16777216
      decide
    refine codeAny_builtin F.entry_extend_loop ?_
    rw [Around.under_plainId F.plain_extend_loop _]
    show wpAny _ A.in1 (pyNext (.ref a) >>= _) _ _ s
    refine wpAny_bind (CT.pull c ct hix (fun r el esd s6 k6 ct6 np nq hne ok6 => ?_) hsdl)
    have hn : rs.length + rem.length < its.length := by
      have h1 := congrArg List.length e2
      rw [List.length_map] at h1
      rw [e1, List.length_append, List.length_cons, h1]
      omega
    obtain ⟨acc, cc, eS, rv⟩ := id ct6.lst
    have hz := ct6.small c hn eS
    show wpAny _ A.in1 (updateSeq S (·.push (.ref r.q)) >>= _) _ _ _
    refine wpAny_bind ?_
    refine wpAny_updateSeq eS rfl (wpAny_pure ⟨plainId_quiet F.plain_extend_loop _, ?_⟩) (Nat.le_of_lt hz) (by show (acc.push (.ref r.q)).size ≤ sizeLine + 1; rw [Array.size_push]; omega)
    refine ih (pre ++ [(l, sd)]) (rs ++ [r]) _ _ (by rw [e1]; simp) (by rw [List.map_append, e2]; simp [el, esd]) (ct6.pushed c ?_ hn eS (Heap.get?_update_self _ eS rfl) (Heap.SameBut.update ..))
    subst el esd
    exact ⟨upd_same, by rw [upd_ne hne, upd_same]⟩
end
section
variable {X : Cx} {CL CF : Addr}
theorem pe_listSides {i : Nat} {o : Expr} {apos mpos pos p : Pos} {pl : Sem Bool} {nm : Str} (cc : SidesCls X.K CL CF) (ho : PE X o (tVar i)) (hr : Room 9 X.A) (hg : Gl X nm) (hmg : X.mg nm = none) (hv : bootBuiltins nm = some (.type "list")) (hnm : nm ≠ "__name__" := by decide) (hdb : (nm == ("__debug__" : Str)) = false := by decide)
    (he : starEach [.Call (.Attribute o "sides" apos) [] [] mpos] X.env = (false, eval (.Call (.Attribute o "sides" apos) [] [] mpos) X.env) :: starEach [] X.env := by rfl)
    (ht : eval (.Call (.Attribute o "sides" apos) [] [] mpos) X.env = (do
      let ov ← eval o X.env
      standAt apos.atName
      let (f, first) ← holding [ov] (getMethod ov "sides" pl)
      callWith mpos f first (backTo mpos (starEach [] X.env)) (backToKw mpos (keywordEach [] X.env))) := by rfl) :
    PE X (.Call (.Name nm p) [.Call (.Attribute o "sides" apos) [] [] mpos] [] pos) (tPairs CL CF i fun _ => true) := by
  refine ⟨fun pins s σ H Q I h => ?_⟩
  obtain ⟨fl, ls, hi, hl, hlen, hq⟩ := h
  refine wpAny_Call_Name_kw (ld_blt I hg hmg hv ?_ hnm hdb)
  refine PyProof.Rows.callWith_type1 ?_ he rfl
  rw [he]
  show wpAny _ _ (spliced ((false, eval _ X.env) :: backTo pos (starEach [] X.env))) _ _ s
  refine Calls.spliced_cons (run_born cc ho (hr.mono (by decide)) I hi hl (fun s1 a s2 I1 born => ?_) ht)
  refine Calls.spliced_nil ?_
  have hgen : s2.heap.IsGen a s1.gens.size := by obtain ⟨_, _, _, _, _, _, hg, _⟩ := born.ex; exact hg
  have k12 : ∀ b o, s1.heap.get? b = some o → s2.heap.get? b = some o := by obtain ⟨_, _, _, _, _, _, _, k, _⟩ := born.ex; exact k
  have aLt : @LT.lt Nat _ a s2.heap.objs.size := by obtain ⟨_, _, _, _, _, _, _, _, _, z, _⟩ := born.ex; exact z
  have lim2 : s2.heap.NoLimit := I1.nolimit.keeps k12
  refine callType_codes (Q₁ := fun obj s₁ => obj = .ref s2.heap.objs.size ∧ s₁ = { s2 with heap := s2.heap.push { cls := .type "list", data := .seq #[] } }) F.called_list (F.typeCall_list_1 _) F.entry_list_init
    (code_list_new _ ⟨rfl, rfl⟩) fun obj s₁ h₁ => ?_
  obtain ⟨rfl, rfl⟩ := h₁
  have hS : (s2.heap.push { cls := .type "list", data := .seq #[] }).get? s2.heap.objs.size = some { cls := .type "list", data := .seq #[] } := Heap.get?_push_size _ rfl
  refine ⟨⟨_, hS, rfl⟩, F.args_list_init_2 _ _, ?_⟩
  show wpAny _ X.A.in1.in1 (do let old ← Builtin.List.listItems (.ref s2.heap.objs.size); Builtin.List.listUpdate (.ref s2.heap.objs.size) (fun _ => #[]); letGo old.toList.reverse; Builtin.List.listExtendWith (.ref s2.heap.objs.size) (.ref a) .none) _ _ _
  refine wpAny_bind ?_
  unfold Builtin.List.listItems
  refine wpAny_bind (wpAny_seqItems hS rfl (wpAny_pure ?_))
  show wpAny _ X.A.in1.in1 (updateSeq s2.heap.objs.size (fun _ => #[]) >>= fun _ => letGo (#[] : Array Value).toList.reverse >>= fun _ => Builtin.List.listExtendWith (.ref s2.heap.objs.size) (.ref a) .none) _ _ _
  refine wpAny_bind (wpAny_updateSeq hS rfl ?_)
  have hS2 := Heap.get?_update_self (Obj.mapSeq (fun _ => (#[] : Array Value))) hS rfl
  refine wpAny_bind (wpAny_letGo ?_)
  unfold Builtin.List.listExtendWith
  have up : ∀ (h : Heap) (f : Obj → Obj), (∀ b o, s2.heap.get? b = some o → h.get? b = some o) → ∀ b o, s2.heap.get? b = some o → (h.update s2.heap.objs.size f).get? b = some o := fun h f q b o e =>
    (Heap.get?_update_other _ _ (Ne.symm (Nat.ne_of_lt (Heap.lt_size e)))).trans (q b o e)
  have k1 : ∀ b o, s2.heap.get? b = some o → (s2.heap.push { cls := .type "list", data := .seq #[] }).get? b = some o := fun b o e => Heap.get?_push_of_some _ e
  have k2 := up _ (Obj.mapSeq (fun _ => (#[] : Array Value))) k1
  have gty : ∀ {h : Heap}, (∀ b o, s2.heap.get? b = some o → h.get? b = some o) → h.IsGen a s1.gens.size := fun {h} q => hgen.keeps q
  have hSa : @Ne Nat s2.heap.objs.size a := by omega
  refine wpAny_bind (wpAny_typeOf (Heap.IsGen.typeIs (s := { s2 with heap := _ }) (gty k2)) ?_)
  have h1 : Builtin.List.listSameRef (.ref s2.heap.objs.size) (.ref a) = false := by simp [Builtin.List.listSameRef]; exact hSa
  have h2 : (Value.type "generator" == Value.type "list") = false := by decide
  have h3 : (Value.type "generator" == Value.type "tuple") = false := by decide
  simp only [h1, h2, h3, Bool.or_false, Bool.false_eq_true, if_false]
  refine wpAny_bind (wpAny_pyIter_gen (s := { s2 with heap := _ }) (gty k2) ?_)
  refine wpAny_bind (wpAny_holding ?_)
  unfold Builtin.List.listLengthHint
  refine wpAny_bind (wpAny_specialOf (Heap.IsGen.typeIs (s := { s2 with heap := _ }) (gty k2)) F.gen_no_len ?_)
  show wpAny _ X.A.in1.in1 (specialOf (Value.ref a) (Str.ofString "__length_hint__") >>= _) _ _ _
  refine wpAny_bind (wpAny_specialOf (Heap.IsGen.typeIs (s := { s2 with heap := _ }) (gty k2)) F.gen_no_hint ?_)
  refine wpAny_pure ?_
  show wpAny _ X.A.in1.in1 (rule "list.extend.makes-room" >>= fun _ => Builtin.List.listTouch (.ref s2.heap.objs.size) >>= fun _ =>
    again (.builtin "list.extend.loop" ⟨[.ref s2.heap.objs.size, .ref a, .none], []⟩)) _ _ _
  refine wpAny_bind (wpAny_rule ?_)
  refine wpAny_bind ?_
  show wpAny _ X.A.in1.in1 (updateSeq s2.heap.objs.size (·.push .none) >>= fun _ => updateSeq s2.heap.objs.size (·.pop)) _ _ _
  refine wpAny_bind (wpAny_updateSeq hS2 rfl ?_)
  have hS3 := Heap.get?_update_self (Obj.mapSeq (·.push Value.none)) hS2 rfl
  refine wpAny_updateSeq (hz := by seq_fits) hS3 rfl ?_
  have hS4 := Heap.get?_update_self (Obj.mapSeq (·.pop)) hS3 rfl
  have k4 := up _ (Obj.mapSeq (·.pop)) (up _ (Obj.mapSeq (·.push Value.none)) k2)
  refine wpAny_pure ⟨plainId_quiet F.plain_extend_loop _, ?_⟩
  have szz : ∀ (h : Heap) (f : Obj → Obj), (h.update s2.heap.objs.size f).objs.size = h.objs.size := fun h f => upd_size h _ f
  obtain ⟨cx, ct⟩ := Born.ready (S := s2.heap.objs.size) (s5 := { s2 with heap := (((s2.heap.push { cls := .type "list", data := .seq #[] }).update s2.heap.objs.size (Obj.mapSeq (fun _ => (#[] : Array Value)))).update s2.heap.objs.size (Obj.mapSeq (·.push Value.none))).update s2.heap.objs.size (Obj.mapSeq (·.pop)) }) (Co := fun b => b = s2.heap.objs.size) (A := X.A.in1.in1) cc I1 born hlen
    ((hr.in1).in1.in1.mono (by decide)) (Sm.ofRoom ((hr.in1).in1)) k4 rfl rfl ⟨_, hS4⟩ (Nat.le_refl _)
    (fun b hb => by
      have hb' : @Eq Nat b s2.heap.objs.size := hb
      refine ⟨Nat.le_of_eq hb'.symm, ?_⟩
      show b < Array.size _
      rw [szz, szz, szz, Heap.size_push, hb']
      exact Nat.lt_succ_self _) rfl (by
      show @LE.le Nat _ s2.heap.objs.size (Array.size _)
      rw [szz, szz, szz, Heap.size_push]
      exact Nat.le_succ _)
  refine drainT (A := X.A.in1) (fun x hx => items_ok hx) cx (fun s' rs H' ce ers => ⟨rfl, ?_⟩) (itemsO ls) [] [] H _ rfl rfl ct
  have I6 : Inv X pins σ H' s' := Ws.Inv.grown I1 ce.k0 ce.os ce.bare ce.hok ce.same
  refine ⟨.ref s2.heap.objs.size, H', I6, rfl, hq _ _ rs (fun b u e => by rw [ce.same b (I1.hok.lt e)]; exact e) ce.lst (I1.hok.fresh cx.S0) ce.ps (by rw [ers]; exact (List.filter_eq_self.mpr fun _ _ => rfl).symm)⟩
end
end Ws
end
section
/-! len(set(names)) of different texts. -/
namespace Ws
open PySem PySem.Spec PyProof.Rows L2
theorem bump_set {prog : Program} {w : World} {h' : Heap} {S : Addr} {xs : List Str} {i : Nat} (hi : i < xs.length) (hn : xs.Nodup)
    (q : h'.SetOf (PySem.strKind prog w) S (fun k' => (xs.take i).any (· == k') || decide (k' = xs.getD i Str.empty)) (if (xs.take i).any (· == xs.getD i Str.empty) = true then i else i + 1)) :
    h'.SetOf (PySem.strKind prog w) S (fun k' => (xs.take (i + 1)).any (· == k')) (i + 1) := by
  have eg : xs.getD i Str.empty = xs[i] := by simp [List.getD, hi]
  refine SetOf_congr q (fun k' => ?_) ?_
  · rw [eg, List.take_add_one, List.getElem?_eq_getElem hi, List.any_append]
    by_cases e : k' = xs[i]
    · subst e; simp
    · have hb : (xs[i] == k') = false := beq_eq_false_iff_ne.mpr fun h => e h.symm
      simp [hb, e]
  · rw [eg, if_neg]
    rw [List.any_eq_true]
    rintro ⟨y, hy, hyx⟩
    rw [beq_iff_eq.mp hyx] at hy
    obtain ⟨k, hk, e⟩ := List.mem_iff_getElem.mp hy
    have hk' : k < i := by rw [List.length_take] at hk; omega
    rw [List.getElem_take] at e
    have := (List.getElem_inj hn).mp e
    omega
section
variable {prog : Program} {w : World} {A : Around} {R : Result → Shared → Prop} {I : Addr} {fp wr : List Addr} {G : Array GenState → Array GenState → Prop} {n : Nat} {P : Nat → Value → Prop} {St : Nat → Shared → Prop}
theorem set_turns (W : WalksS prog w A.in1 I fp wr G n P St) {S : Addr} (ns : S ∉ fp) (nw : S ∉ wr) {xs : List Str} (hn : n = xs.length) (nd : xs.Nodup) (hb : n + 1 < scanBound) (hv : ∀ i v, P i v → ∃ t, v = .str (xs.getD i Str.empty) t) :
    ∀ (k i : Nat) (s : Shared), i + k = n → St i s → s.heap.SetOf (PySem.strKind prog w) S (fun k' => (xs.take i).any (· == k')) i →
      (∀ s', Moved (S :: wr) G s s' → s'.heap.SetOf (PySem.strKind prog w) S (fun k' => (xs.take n).any (· == k')) n → R (.ok (.ret .none)) s') → codeAny (model prog w) A (.builtin "set.update.loop" ⟨[.ref S, .ref I], []⟩) R s := by
  have more : ∀ b ∈ wr, b ∈ S :: wr := fun b hb => List.mem_cons_of_mem _ hb
  have mv : ∀ {s s' : Shared} {Q : Str → Bool} {m : Nat}, Moved wr G s s' → s.heap.SetOf (PySem.strKind prog w) S Q m → s'.heap.SetOf (PySem.strKind prog w) S Q m := fun hm ⟨o, es, ep, tb, ho, r⟩ => ⟨o, es, ep, tb, hm.heap S _ nw ho, r⟩
  intro k
  induction k with
  | zero =>
    intro i s hk st hS hR
    obtain rfl : i = n := by omega
    refine codeAny_builtin PyProof.Rows.F.entry_set_update_loop ?_
    rw [Around.under_plainId PyProof.Rows.F.plain_set_update_loop _]
    exact wpAny_bind (m := pyNext (.ref I)) (W.done s _ _ st fun s' hm => wpAny_pure (hR s' (hm.mono more) (mv hm hS)))
  | succ k ih =>
    intro i s hk st hS hR
    refine codeAny_builtin PyProof.Rows.F.entry_set_update_loop ?_
    rw [Around.under_plainId PyProof.Rows.F.plain_set_update_loop _]
    refine wpAny_bind (m := pyNext (.ref I)) (W.item i s _ _ (by omega) st fun v s' hP st' hm => ?_)
    obtain ⟨t, rfl⟩ := hv i v hP
    refine wpAny_bind (m := holding _ (setAdd S _)) (wpAny_holding ?_)
    unfold setAdd
    refine wpAny_holding (wpAny_bind ((PySem.strKind prog w).pyHash (k := xs.getD i Str.empty) (strKind_is _ _ _ _) ?_))
    refine wpAny_setAddHashed_of (knd := PySem.strKind prog w) (s := { s' with toks := s'.toks + 1 }) (strKind_is _ _ _ _) rfl (mv (s' := s') hm hS) (by omega) fun h' sb q => ?_
    refine wpAny_pure ⟨plainId_quiet PyProof.Rows.F.plain_set_update_loop _, ih (i + 1) _ (by omega) (W.frame _ s' _ _ st' (Nat.le_succ _) fun b hb o e => (sb.2 b fun z : b = S => ns (by rw [← z]; exact hb)).trans e) (bump_set (by omega) nd q) fun s2 hm2 hS2 => ?_⟩
    exact hR s2 (Moved.trans W.gtrans ((hm.mono more).then_heap (Nat.le_succ _) fun b o hb e => (sb.2 b fun z : b = S => hb (by rw [z]; exact List.mem_cons_self)).trans e) hm2) hS2
end
section
variable {prog : Program} {w : World} {A : Around} {E : Value → Shared → Prop} {s : Shared}
theorem call_setD {l : Addr} {items : Array Value} {xs : List Str} {Q : Value → Shared → Prop} (hh : A.handled = none) (hl : s.heap.IsList l items) (hi : PyProof.Rows.StrsAre items.toList xs) (nd : xs.Nodup) (hb : xs.length + 1 < scanBound)
    (h : ∀ (h' : Heap) (tk : Nat), h'.SetOf (PySem.strKind prog w) s.heap.objs.size (fun k' => (xs.take items.size).any (· == k')) items.size → (∀ b o, b < s.heap.objs.size → s.heap.get? b = some o → h'.get? b = some o) → Q (.ref s.heap.objs.size) { s with heap := h', toks := tk }) :
    wpAny (model prog w) A (call (.type "set") [.ref l]) Q E s := by
  have hsz : items.size = xs.length := by have := StrsAre.len_eq hi; rw [Array.length_toList] at this; exact this
  obtain ⟨c, tl, hmro⟩ := PySem.F.called_set.mro
  have q1 := PySem.F.called_set.made
  have q2 := PySem.F.called_set.sub
  have q3 := PySem.F.called_set.notType
  have q4 := PySem.F.called_set.canCreate
  have q5 := PySem.F.typeCall_set_1 (.ref l)
  refine wpAny_call (codeAny_of_tree (wpAny_pure (show _ ∧ _ from ⟨Code.quiet_builtin _ (by decide +kernel), codeAny_builtin PySem.F.entry_type_call ?_⟩)))
  rw [Around.under_plain (weight_type_call_type "set" [.ref l] []) rfl]
  repeat (any_goals (first | assumption | wp_step))
  refine codeAny_mono (code_set_new_1 (.ref l) (E := E) (Q₁ := fun obj s₁ => ∃ led : Bool, obj = .ref s.heap.objs.size ∧ s₁ = { s with heap := s.heap.push { cls := .type "set", dict := none, data := .set #[] 0 (.fresh 0 0 led) } }) fun led => ⟨led, rfl, rfl⟩) fun r s₁ hr => ?_
  cases r with
  | error e => exact hr
  | ok fl =>
    cases fl with
    | next => exact hr.elim
    | brk => exact hr.elim
    | cont => exact hr.elim
    | ret obj =>
      obtain ⟨led, rfl, rfl⟩ := hr
      generalize ob : ({ cls := .type "set", dict := none, data := .set #[] 0 (.fresh 0 0 led) } : Obj) = O
      have gS : (s.heap.push O).get? s.heap.objs.size = some O := Heap.get?_push_size _ (by rw [← ob]; rfl)
      have hT : Shared.TypeIs { s with heap := s.heap.push O } (.ref s.heap.objs.size) "set" := ⟨_, gS, by rw [← ob]⟩
      have q6 := PySem.F.called_set.init.lookup
      have q7 := PySem.F.called_set.init.bind (.ref s.heap.objs.size)
      repeat (any_goals (first | assumption | wp_step))
      refine codeAny_mono (codeAny_call_builtin (R := wants (fun r s₂ => r = .none ∧ ∃ h' tk, s₂ = { s with heap := h', toks := tk } ∧ h'.SetOf (PySem.strKind prog w) s.heap.objs.size (fun k' => (xs.take items.size).any (· == k')) items.size ∧ ∀ b o, b < s.heap.objs.size → s.heap.get? b = some o → h'.get? b = some o) E)
        PySem.F.called_set.init.plain PySem.F.entry_set_init (check_set_init_1 hT ?_)) fun r2 s2 hr2 => ?_
      · obtain ⟨⟨oc, od, odt, osl⟩, hol, hcl, nl, hdl⟩ := hl
        simp only at hcl hdl
        subst hcl hdl
        have lS : l < s.heap.objs.size := Heap.lt_size hol
        have ho' : (s.heap.push O).get? l = some { cls := .type "list", dict := od, data := .seq items nl, slots := osl } := Heap.get?_push_of_some _ hol
        have e1 := PySem.F.sub_list_set
        have e2 := PySem.F.sub_list_frozenset
        have e3 : (Value.type "list" == Value.type "dict") = false := by decide
        have hl1 : (s.heap.push O).IsList l items := ⟨_, ho', rfl, nl, rfl⟩
        subst ob
        unfold Builtin.«set.__init__» noKeywords Builtin.Frozenset.updateFrom
        generalize hPI : pyIter = PI
        wp_walk
        subst hPI
        refine wpAny_pyIter_list hl1 ?_
        refine wpAny_bind (wpAny_runValue ?_)
        have hh3 : A.in1.in1.in1.handled = none := hh
        have sz1 : (s.heap.push { cls := .type "set", dict := none, data := .set #[] 0 (.fresh 0 0 led) }).objs.size = s.heap.objs.size + 1 := Heap.size_push _ _
        have neI : l ≠ (s.heap.push { cls := .type "set", dict := none, data := .set #[] 0 (.fresh 0 0 led) }).objs.size := by rw [sz1]; exact Nat.ne_of_lt (Nat.lt_succ_of_lt lS)
        have nI : s.heap.objs.size ≠ (s.heap.push { cls := .type "set", dict := none, data := .set #[] 0 (.fresh 0 0 led) }).objs.size := by rw [sz1]; exact Nat.ne_of_lt (Nat.lt_succ_self _)
        have nl' : s.heap.objs.size ≠ l := Nat.ne_of_gt lS
        refine set_turns ((Walks.list hh3 _ l neI items).toS) (xs := xs) (S := s.heap.objs.size) (by simp [nI, nl']) (by simp [nI]) hsz nd (by omega) (fun i v hv => SS.strs_at hi i v (by rw [Array.getElem?_toList]; exact hv)) items.size 0 _ (by omega)
          ⟨⟨_, Heap.get?_push_size _ rfl, rfl, rfl⟩, hl1.push _⟩ ?_ fun s' hm hS' => ?_
        · refine SetOf_congr ((PyProof.Rows.setObjOf_fresh (knd := PySem.strKind prog w) led).setOf ?_ (by unfold scanBound; omega)) (fun _ => rfl) rfl
          exact Heap.get?_push_of_some _ gS
        · obtain ⟨h', g', d', tk', os'⟩ := s'
          obtain rfl : g' = s.gens := hm.gens
          obtain rfl : d' = s.drawn := hm.drawn
          obtain rfl : os' = s.os := hm.os
          have keep : ∀ b o, b < s.heap.objs.size → s.heap.get? b = some o → h'.get? b = some o := fun b o hb e => by
            refine hm.heap b o ?_ (Heap.get?_push_of_some _ (Heap.get?_push_of_some _ e))
            have hb1 : b ≠ s.heap.objs.size := Nat.ne_of_lt hb
            have hb2 : b ≠ s.heap.objs.size + 1 := Nat.ne_of_lt (Nat.lt_succ_of_lt hb)
            simp only [sz1, List.mem_cons, List.mem_singleton, List.not_mem_nil, or_false, not_or]
            exact ⟨hb1, hb2⟩
          show wpAny _ _ _ _ _ _
          refine wpAny_pure ?_
          show wpAny _ _ (ret Value.none) _ _ _
          exact wpAny_pure ⟨rfl, h', tk', rfl, hS', keep⟩
      · cases r2 with
        | error e => exact hr2
        | ok fl2 =>
          cases fl2 with
          | next => exact hr2.elim
          | brk => exact hr2.elim
          | cont => exact hr2.elim
          | ret r =>
            obtain ⟨rfl, h', tk, rfl, hS', hk'⟩ := hr2
            repeat (any_goals (first | assumption | wp_step))
            exact h _ _ hS' hk'
end
/-- len(set(xs)) of a list of different texts -/
def tLenSetD (K : PySem.W.Frag) (ta : TE) : TE := fun σ H Q => ta σ H fun x H1 => ∃ l, ∃ xs : List Str, x = .ref l ∧ SqL K H1 l (xs.map V.str) ∧ xs.Nodup ∧ xs.length < 60 ∧ Q (.int xs.length) H1
section
variable {X : Cx}
theorem pe_lenSetD {a : Expr} {ta : TE} {p p2 q pos : Pos} (hc : X.calm = true) (hg : Gl X "len") (hm : X.mg "len" = none) (hg2 : Gl X "set") (hm2 : X.mg "set" = none) (ha : PE X a ta)
    (na : starEach [a] X.env = (false, eval a X.env) :: starEach [] X.env := by rfl) : PE X (.Call (.Name "len" p) [.Call (.Name "set" p2) [a] [] q] [] pos) (tLenSetD X.K ta) := by
  refine ⟨fun pins s σ H Q I h => ?_⟩
  refine Call_ (ld_blt I hg hm boot_len (PyProof.Rows.callWith_builtin1 (PyProof.Rows.args_cons ?_ rfl) rfl rfl))
  refine Call_ (ld_blt I hg2 hm2 boot_set (PyProof.Rows.callWith_type1 (PyProof.Rows.args_cons (thn (ha.run pins s σ H _ I h) fun v s1 ⟨x, H1, I1, r1, l, xs, ex, hq, nd, h1, q1⟩ => PyProof.Rows.args_nil ?_) na) na rfl))
  subst ex
  obtain rfl : v = Value.ref l := r1
  obtain ⟨its, r, pl, hz⟩ := I1.list hq
  have hl : its.toArray.size = xs.length := by rw [List.size_toArray, ← r.length, List.length_map]
  refine call_setD (I1.ok.hd hc) pl.isList (by simpa using L2.strsAre_of r) nd (by unfold scanBound; omega) fun h' tk hS hk => PyProof.Rows.args_nil ?_
  rw [hl] at hS
  obtain ⟨o, es, ep, t, ho, hex, hd, _, _, _, hf, hn⟩ := hS
  have I2 : Inv X pins σ H1 { s1 with heap := h', toks := tk } := I1.kept fun b o e => hk b o (Heap.lt_size e) e
  exact call_len_set ho hex hd hf (by rw [hn]; omega) ⟨.int xs.length, H1, I2.tok _, ⟨_, by rw [hn]⟩, q1⟩
end
end Ws
end
section
/-! {x: c for x in list}, whatever the keys are. -/
namespace Ws
open PySem PySem.Spec PyProof.Rows L2
theorem pl_bl {L : LX} {b : Bool} {j} {pos : Pos} : PL L (.Constant (.bool b) j pos) (lc (.bl b)) := ⟨fun A s ν H Q sm T q => Constant_bool (LP.mk1 (v := .bl b) T rfl q)⟩
/-- the dict at D so far, behind i of xs; put: one more -/
structure DSelf (X : Cx) (xs : List V) (c : V) (H : Hp) (Dp : Nat → Heap → Addr → Prop) : Prop where
  zero : ∀ h D, (D == sysModules) = false → h.get? D = some { cls := .type "dict", dict := none, data := .dict #[] } → Dp 0 h D
  keep : ∀ i h h' D, Dp i h D → (∀ b o, (b = D ∨ H b ≠ none) → h.get? b = some o → h'.get? b = some o) → Dp i h' D
  put : ∀ (A : Around) (s : Shared) (i : Nat) (x : V) (u w : Value) (D : Addr) (Q : Unit → Shared → Prop) (E : Value → Shared → Prop), Sm A → xs[i]? = some x → RelV x u → RelV c w → HOk X.prog X.w H s.heap → Dp i s.heap D →
    (∀ h' tk, Dp (i + 1) h' D → (∃ o, h'.get? D = some o) → Heap.SameBut D s.heap h' → Q () { s with heap := h', toks := tk }) → wpAny (model X.prog X.w) A (dictSet D u w) Q E s
section
variable {X : Cx} {pins : List (Addr × Obj)} {σ : L2.St} {H : Hp} {s : Shared}
theorem dcs_core {x : Str} {vx iter : Expr} {scope : Scope} {pos pos' p1 p2 : Pos} {te : TE} {c : V} {use : Option (Value → Sem Unit)} {Qf : Value → Shared → Prop} {R : List V → Hp → Prop} {Dp : List V → Hp → Nat → Heap → Addr → Prop}
    (hit : PE X iter te) (hv : ∀ L : LX, PL L vx (lc c)) (sm : Sm X.A) (I : Inv X pins σ H s) (h : te σ H fun v H1 => ∃ a xs, v = .ref a ∧ SqL X.K H1 a xs ∧ R xs H1) (ds : ∀ xs H1, R xs H1 → DSelf X xs c H1 (Dp xs H1))
    (hfree : ∀ y ∈ scope.names, y.2 ≠ .free) (hcell : ∀ y ∈ scope.names, y.2 ≠ .cell) (hkind : scope.kind = .function) (hnames : ∀ y ∈ scope.names, y.2 = .local → scope.names.lookup y.1 = some .local) (hx : scope.names.lookup x = some .local) (hdb : (x == ("__debug__" : Str)) = false)
    (hRR : ∀ xs H1 D ce m s', R xs H1 → Inv X pins σ H1 s' → Dp xs H1 xs.length s'.heap D → H1 D = none → s'.heap.Ns ce.locals m → FpOk X pins H1 ce.locals → FpOk X pins H1 D → ce.locals ≠ D → (∃ o, s'.heap.get? D = some o) → compEnds (model X.prog X.w) X.A X.xe use Qf (.ref D) ce (.ok .next) s')
    (hs : ∀ x, foldedSetIterable iter X.env x = pure x) :
    wpAny (model X.prog X.w) X.A (comprehension (.DictComp (.Name x p1) vx [⟨.Name x p2, iter, [], 0⟩] scope pos) scope X.env pos' newDict false (eval iter X.env) use) Qf X.xe s := by
  have hfr : ∀ y ∈ scope.names, y.2 = .free → ∃ c, X.env.cells.lookup y.1 = some c := fun y hy e => absurd e (hfree y hy)
  refine comprehension_at (use := use) rfl hs (closure_ok hfr) hkind hnames (thn (hit.run pins s σ H _ I h) fun v s1 ⟨y, H1, I1, ry, a, xs, ey, hq, hR⟩ => ?_)
  subst ey
  obtain rfl : v = Value.ref a := ry
  obtain ⟨its, rv, pl, hz⟩ := I1.list hq
  have hL := pl.isList
  have aLt : a < s1.heap.objs.size := let ⟨_, ho, _⟩ := hL; Heap.lt_size ho
  have dsx := ds xs H1 hR
  refine wpAny_pyIter_list hL (compBlock_dict hcell hkind ?_)
  refine ⟨s1.heap.objs.size, _, _, _, _, _, rfl, Goes.list sm.hd s1.heap.objs.size a (Nat.ne_of_lt aLt) its.toArray, ⟨⟨_, Heap.get?_push_size _ rfl, rfl, rfl⟩, hL.push _⟩, fun D C s3 hB hD => ?_⟩
  obtain ⟨⟨h3, tk3, es3⟩, old, nD, nC, hDC, hns⟩ := hB
  subst es3
  have sz1 : (s1.heap.push { cls := .type "list_iterator", data := .fields #[.ref a, .int 0 0] }).objs.size = s1.heap.objs.size + 1 := Heap.size_push ..
  have nD' : @LE.le Nat _ (s1.heap.objs.size + 1) D := by rw [← sz1]; exact nD
  have nC' : @LE.le Nat _ (s1.heap.objs.size + 1) C := by rw [← sz1]; exact nC
  have old1 : ∀ b o, s1.heap.get? b = some o → h3.get? b = some o := fun b o e => old b o (Heap.get?_push_of_some _ e)
  have ne1 : ∀ (b : Nat) o, s1.heap.get? b = some o → b < s1.heap.objs.size := fun b o e => Heap.lt_size e
  have fr1 : ∀ b : Nat, s1.heap.objs.size ≤ b → H1 b = none := fun b hb => I1.hok.fresh hb
  have hk3 : HOk X.prog X.w H1 h3 := I1.hok.kept old1
  have hT0 : Lt (⟨X.prog, X.w, X.K, X.base, compEnvC scope (cloFrom X.env.cells scope.names []) C X.env⟩ : LX) (fun _ => none) H1 { s1 with heap := h3, toks := tk3 } := by
    refine ⟨⟨I1.ok.mod.kin, I1.ok.mod.nolimit, hkind, ?_⟩, fun b o e => old1 b o (I1.bk b o e), hk3, fr1 C (by omega), _, hns, fun y v hy => nomatch hy⟩
    cases e : X.base.get? C with
    | none => exact e
    | some o =>
      have q := ne1 C o (I1.bk C o e)
      omega
  have ckx : (compEnvC scope (cloFrom X.env.cells scope.names []) C X.env).kindOf x = some .local := lookup_relabel_local hx
  have sysD : (D == sysModules) = false := beq_eq_false_iff_ne.mpr fun z => by
    have hb : @LT.lt Nat _ sysModules s1.heap.objs.size := I1.big
    have z' : @Eq Nat D sysModules := z
    omega
  refine ⟨fun i s' => ∃ ν, Lt (⟨X.prog, X.w, X.K, X.base, compEnvC scope (cloFrom X.env.cells scope.names []) C X.env⟩ : LX) ν H1 s' ∧ Dp xs H1 i s'.heap D ∧ (∃ o, s'.heap.get? D = some o) ∧ (∀ b o, s1.heap.get? b = some o → s'.heap.get? b = some o) ∧ s'.gens = s1.gens ∧ s'.os = s1.os ∧ D < s'.heap.objs.size,
    ⟨_, hT0, dsx.zero h3 D sysD hD, ⟨_, hD⟩, old1, rfl, rfl, Heap.lt_size hD⟩, ?_, ?_, ?_⟩
  · rintro i s4 h' tk ⟨ν, T, dp, ⟨oD, hoD⟩, k, g, os, lt⟩ kk _
    have nI : ∀ (b : Nat) o, b ≠ s1.heap.objs.size → s4.heap.get? b = some o → h'.get? b = some o := fun b o n e => kk b o (by simpa using n) e
    have hI : H1 s1.heap.objs.size = none := fr1 _ (Nat.le_refl _)
    refine ⟨ν, T.turn (I := s1.heap.objs.size) hI (by show (s1.heap.objs.size : Nat) ≠ C; omega) ?_ (fun b o n e => nI b o n e), dsx.keep i _ _ D dp fun b o hb e => nI b o (fun z => ?_) e, ⟨oD, nI D oD (by omega) hoD⟩, fun b o e => nI b o (by have := ne1 b o e; omega) (k b o e), g, os, Heap.lt_size (nI D oD (by omega) hoD)⟩
    · cases e : X.base.get? s1.heap.objs.size with
      | none => rfl
      | some o =>
        have q := ne1 _ o (I1.bk _ o e)
        omega
    · rcases hb with hb | hb
      · have hb' : @Eq Nat b D := hb
        omega
      · rw [show b = s1.heap.objs.size from z] at hb
        exact hb hI
  · rintro i v s4 hi hy st ⟨ν, T, dp, ⟨oD, hoD⟩, k, g, os, lt⟩
    have hy' : its[i]? = some v := by simpa using hy
    obtain ⟨x', hx', rx'⟩ : ∃ x', xs[i]? = some x' ∧ RelV x' v := by
      have hlt : i < xs.length := by rw [rv.length]; exact (List.getElem?_eq_some_iff.mp hy').1
      obtain ⟨u, hu, ru⟩ := rv.get (List.getElem?_eq_getElem hlt)
      rw [hy'] at hu
      cases hu
      exact ⟨_, List.getElem?_eq_getElem hlt, ru⟩
    refine lt_store (L := (⟨X.prog, X.w, X.K, X.base, compEnvC scope (cloFrom X.env.cells scope.names []) C X.env⟩ : LX)) (v := x') T ckx rx' fun h5 t5 T5 sb5 => ?_
    refine wpAny_tests_nil ?_
    rw [if_pos rfl]
    have ev : nuSet ν x x' x = some x' := by unfold nuSet; rw [if_pos rfl]
    refine (PL.thn' (L := (⟨X.prog, X.w, X.K, X.base, compEnvC scope (cloFrom X.env.cells scope.names []) C X.env⟩ : LX)) (Q := fun v H' => v = x' ∧ H' = H1) (pl_v hdb) sm T5 ⟨_, ev, rfl, rfl⟩ fun u v6 H6 s6 g6 T6 r6 ⟨ev6, eH6⟩ => ?_)
    subst ev6 eH6
    refine ((hv (⟨X.prog, X.w, X.K, X.base, compEnvC scope (cloFrom X.env.cells scope.names []) C X.env⟩ : LX)).thn' (Q := fun v H' => v = c ∧ H' = H6) sm T6 ⟨rfl, rfl⟩ fun u2 v7 H7 s7 g7 T7 r7 ⟨ev7, eH7⟩ => ?_)
    subst ev7 eH7
    have keep57 : ∀ b o, h5.get? b = some o → s7.heap.get? b = some o := fun b o e => g7.keep b o (g6.keep b o e)
    have k47 : ∀ (b : Nat) o, b ≠ C → s4.heap.get? b = some o → s7.heap.get? b = some o := fun b o n e => keep57 b o ((sb5.2 b n).trans e)
    have dp7 : Dp xs H7 i s7.heap D := dsx.keep i _ _ D dp fun b o hb e => k47 b o (fun z => by
      rcases hb with hb | hb
      · exact hDC (by rw [← hb, show b = C from z])
      · rw [show b = C from z] at hb
        exact hb (fr1 C (by omega))) e
    refine dsx.put X.A s7 i v6 u u2 D _ _ sm hx' r6 r7 T7.hok dp7 fun h8 t8 dp8 hoD8 sb8 => ?_
    have hoD7 := k47 D oD hDC hoD
    have k78 : ∀ (b : Nat) o, b ≠ D → s7.heap.get? b = some o → h8.get? b = some o := fun b o n e => (sb8.2 b n).trans e
    refine ⟨⟨_, T7.turn (I := D) (t := t8) (fr1 D (by omega)) (by show D ≠ C; exact hDC) ?_ (fun b o n e => k78 b o n e), dp8, hoD8, fun b o e => k78 b o (by have := ne1 b o e; omega) (k47 b o (by have := ne1 b o e; omega) (k b o e)), g7.gens.trans (g6.gens.trans g), g7.os.trans (g6.os.trans os), ?_⟩, ?_⟩
    · cases e : X.base.get? D with
      | none => rfl
      | some o =>
        have q := ne1 D o (I1.bk D o e)
        omega
    · rw [show h8.objs.size = s7.heap.objs.size from sb8.1]; exact Heap.lt_size hoD7
    · obtain ⟨⟨oi, hoi, ri⟩, ol, hol, rl⟩ := st
      refine ⟨⟨oi, k78 _ oi (by omega) (k47 _ oi (by omega) hoi), ri⟩, ol, k78 a ol ?_ (k47 a ol ?_ hol), rl⟩
      · have : @LT.lt Nat _ a s1.heap.objs.size := aLt
        omega
      · have : @LT.lt Nat _ a s1.heap.objs.size := aLt
        omega
  · rintro s4 ⟨ν, T, dp, hoD, k, g, os, lt⟩
    obtain ⟨m, hn, _⟩ := T.loc
    have hlen : its.toArray.size = xs.length := by rw [List.size_toArray]; exact rv.length.symm
    rw [hlen] at dp
    have I4 : Inv X pins σ H1 s4 := I1.call' (ch := []) os (Un.kept k) T.hok (by rw [g]; exact I1.bare) fun b hb => nomatch hb
    exact hRR xs H1 D _ m s4 hR I4 dp (fr1 D (by omega)) hn (I1.fpOk (by show s1.heap.objs.size ≤ C; omega) (fr1 C (by omega))) (I1.fpOk (by show s1.heap.objs.size ≤ D; omega) (fr1 D (by omega))) (Ne.symm hDC) hoD
end
end Ws
end
section
/-! {thing: c for thing in [None, *names]}. -/
namespace Ws
open PySem PySem.Spec PyProof.Rows L2
def foldN (ks : List Nd) (c : V) (i : Nat) : List (Nd × V) := (ks.take i).map fun k => (k, c)
theorem valV_map_none {ks : List Nd} {c : V} {k : Nd} (h : k ∉ ks) : valV (ks.map fun k => (k, c)) k = none := by
  unfold valV
  rw [Option.map_eq_none_iff, List.find?_eq_none]
  intro x hx
  obtain ⟨j, hj, rfl⟩ := List.mem_map.mp hx
  simp only [decide_eq_true_eq]
  exact fun e => h (e ▸ hj)
theorem foldN_succ {ks : List Nd} {c : V} {i : Nat} (hi : i < ks.length) (nd : ks.Nodup) : putK (foldN ks c i) ks[i] c = foldN ks c (i + 1) := by
  unfold foldN
  have hno : ks[i] ∉ ks.take i := fun hm => by
    obtain ⟨k, hk, e⟩ := List.mem_iff_getElem.mp hm
    rw [List.length_take] at hk
    rw [List.getElem_take] at e
    have := (List.getElem_inj nd).mp e
    omega
  rw [putK_new _ (valV_map_none hno), List.take_add_one, List.getElem?_eq_getElem hi, List.map_append]
  rfl
theorem foldN_all (ks : List Nd) (c : V) : foldN ks c ks.length = ks.map fun k => (k, c) := by unfold foldN; rw [List.take_length]
def DpN (P : Program) (w : World) (ks : List Nd) (c : V) (i : Nat) (h : Heap) (D : Addr) : Prop := (D == sysModules) = false ∧ ∃ vs, KV (foldN ks c i) vs ∧ h.DictOf (ndKind P w) D vs
theorem dself_nd {X : Cx} {ks : List Nd} {c : V} {H : Hp} (nd : ks.Nodup) (hl : ks.length ≤ 60) : DSelf X (ks.map ndV) c H (DpN X.prog X.w ks c) := by
  refine ⟨fun h D hs e => ⟨hs, [], .nil, ⟨_, #[], 0, e, ⟨rfl, rfl, rfl⟩, rfl, fun x hx => absurd hx (by simp), .nil, by simp⟩⟩, fun i h h' D ⟨hs, vs, r, o, es, ep, e, q⟩ k => ⟨hs, vs, r, o, es, ep, k D o (.inl rfl) e, q⟩, ?_⟩
  intro A s i x u w D Q E sm hx ru rw' hok ⟨hs, vs, r, dd⟩ hQ
  have hi : i < ks.length := by
    have := (List.getElem?_eq_some_iff.mp hx).1
    rwa [List.length_map] at this
  obtain rfl : x = ndV ks[i] := by
    rw [List.getElem?_map, List.getElem?_eq_getElem hi] at hx
    exact (Option.some.inj hx).symm
  have hvs : vs.length ≤ sizeLine := by
    rw [← r.length]
    unfold foldN
    rw [List.length_map, List.length_take, sizeLine_eq]
    omega
  refine wpAny_dictSet_pairs (hsz := hvs) (nd_is ru) dd fun h' dd' sb => hQ h' _ ⟨hs, _, ?_, dd'⟩ (let ⟨q, _, _, hq, _⟩ := dd'; ⟨q, hq⟩) sb
  rw [← foldN_succ hi nd]
  exact r.put _ rw'
theorem HOk.add1 {P : Program} {w : World} {H : Hp} {h : Heap} {a : Addr} {o : HO} (x : HOk P w H h) (n : H a = none) (new : ObjOk P w (upd H a o) h a o) : HOk P w (upd H a o) h := fun b u e => by
  by_cases hb : b = a
  · subst hb
    rw [upd_same] at e
    cases e
    exact new
  · rw [upd_ne hb] at e
    exact (x b u e).stay (fun c v _ q => q) (fun c q => by rw [upd_ne (ne_of_none q n)]; exact q) fun c xs q => by rw [upd_ne (ne_of_none q n)]; exact q
theorem Inv.track {X : Cx} {pins : List (Addr × Obj)} {σ : L2.St} {H : Hp} {s : Shared} {D : Addr} {o : HO} (I : Inv X pins σ H s) (f : FpOk X pins H D) (new : ObjOk X.prog X.w (upd H D o) s.heap D o) : Inv X pins σ (upd H D o) s := by
  obtain ⟨f0, f1, f2, f3, f4, f5⟩ := f
  have nit : ∀ b u, H b = some u → b ≠ D := fun b u e z => by rw [z, f0] at e; cases e
  refine I.step (g' := s.gens) (d' := s.drawn) (t' := s.toks) (ch := [D]) (fun b hb => ?_) (fun b o _ _ _ e _ => e) (fun b o _ _ _ e _ => ⟨o.slots, e⟩) (fun b o hc _ n => ?_) (fun b o _ e => ⟨o, e⟩) (fun b xs e => by rw [upd_ne (nit b _ e)]; exact e) (fun b o u e => by rw [upd_ne (nit b _ e)]; exact e)
    (fun b ps e => ⟨#[], by rw [upd_ne (nit b _ e), e]; simp⟩) (fun m hm => hm) (HOk.add1 I.hok f0 new) I.bare
  · rw [List.mem_singleton.mp hb]
    exact ⟨f3, f1, f4, f5⟩
  · rw [upd_ne fun z => hc (by rw [z]; exact List.mem_singleton.mpr rfl)]
    exact n
theorem FpOk.upd {X : Cx} {pins : List (Addr × Obj)} {H : Hp} {b D : Addr} {o : HO} (f : FpOk X pins H b) (n : b ≠ D) : FpOk X pins (L2.upd H D o) b := ⟨by rw [upd_ne n]; exact f.1, f.2⟩
section
variable {X : Cx} {pins : List (Addr × Obj)} {σ : L2.St} {H : Hp} {s : Shared}
def tNSelf (P : Program) (w : World) (K : PySem.W.Frag) (te : TE) (c : V) : TE := fun σ H Q => te σ H fun v H1 => ∃ a xs, v = .ref a ∧ SqL K H1 a xs ∧ ∃ ks : List Nd, xs = ks.map ndV ∧ ks.Nodup ∧ ks.length ≤ 60 ∧ ∀ p, H1 p = none → Q (.ref p) (upd H1 p (dN P w p (ks.map fun k => (k, c))))
theorem nself_core {x : Str} {vx iter : Expr} {scope : Scope} {pos pos' p1 p2 : Pos} {te : TE} {c : V} {use : Option (Value → Sem Unit)} {Qf : Value → Shared → Prop} {Q : VK}
    (hit : PE X iter te) (hv : ∀ L : LX, PL L vx (lc c)) (sm : Sm X.A) (I : Inv X pins σ H s) (h : tNSelf X.prog X.w X.K te c σ H Q)
    (hfree : ∀ y ∈ scope.names, y.2 ≠ .free) (hcell : ∀ y ∈ scope.names, y.2 ≠ .cell) (hkind : scope.kind = .function) (hnames : ∀ y ∈ scope.names, y.2 = .local → scope.names.lookup y.1 = some .local) (hx : scope.names.lookup x = some .local) (hdb : (x == ("__debug__" : Str)) = false)
    (hRR : ∀ D ce m s' H', Inv X pins σ H' s' → Q (.ref D) H' → s'.heap.Ns ce.locals m → FpOk X pins H' ce.locals → compEnds (model X.prog X.w) X.A X.xe use Qf (.ref D) ce (.ok .next) s')
    (hs : ∀ x, foldedSetIterable iter X.env x = pure x) :
    wpAny (model X.prog X.w) X.A (comprehension (.DictComp (.Name x p1) vx [⟨.Name x p2, iter, [], 0⟩] scope pos) scope X.env pos' newDict false (eval iter X.env) use) Qf X.xe s := by
  refine dcs_core (R := fun xs H1 => ∃ ks : List Nd, xs = ks.map ndV ∧ ks.Nodup ∧ ks.length ≤ 60 ∧ ∀ p, H1 p = none → Q (.ref p) (upd H1 p (dN X.prog X.w p (ks.map fun k => (k, c))))) (Dp := fun xs H1 i h D => ∀ ks : List Nd, xs = ks.map ndV → DpN X.prog X.w ks c i h D) hit hv sm I h (fun xs H1 ⟨ks, e, nd, hl, q⟩ => ?_) hfree hcell hkind hnames hx hdb (fun xs H1 D ce m s' ⟨ks, e, nd, hl, q⟩ I' dp hD hn fC fD ne hex => ?_) hs
  · have inj : ∀ {a b : List Nd}, a.map ndV = b.map ndV → a = b := fun {a b} e => (List.map_inj_right fun x y => ndV_inj).mp e
    have d := dself_nd (X := X) (c := c) (H := H1) nd hl
    subst e
    refine ⟨fun h D hs e ks' e' => by rw [← inj e']; exact d.zero h D hs e, fun i h h' D z k ks' e' => by rw [← inj e']; exact d.keep i h h' D (z ks rfl) k, fun A s i x u w D Q E sm hx ru rw' hok z hQ => d.put A s i x u w D Q E sm hx ru rw' hok (z ks rfl) fun h' tk dp' ex sb => hQ h' tk (fun ks' e' => by rw [← inj e']; exact dp') ex sb⟩
  · subst e
    obtain ⟨hsys, vs, r, dd⟩ := dp ks rfl
    rw [List.length_map, foldN_all] at r
    have hz : (ks.map fun k => (k, c)).length ≤ sizeLine := by rw [List.length_map, sizeLine_eq]; omega
    exact hRR D ce m s' _ (Inv.track I' fD (dn_ok hz hsys r dd)) (q D hD) hn (Ws.FpOk.upd fC ne)
def dcScope (scope : Scope) (x : Str) : Prop := (∀ y ∈ scope.names, y.2 ≠ .free) ∧ (∀ y ∈ scope.names, y.2 ≠ .cell) ∧ scope.kind = .function ∧ (∀ y ∈ scope.names, y.2 = .local → scope.names.lookup y.1 = some .local) ∧ scope.names.lookup x = some .local
theorem pe_nself {x : Str} {vx iter : Expr} {scope : Scope} {pos p1 p2 : Pos} {te : TE} {c : V} (hit : PE X iter te) (hv : ∀ L : LX, PL L vx (lc c)) (sm : Sm X.A) (sc : dcScope scope x) (hdb : (x == ("__debug__" : Str)) = false := by decide) (hs : ∀ x, foldedSetIterable iter X.env x = pure x := by intro _; rfl) :
    PE X (.DictComp (.Name x p1) vx [⟨.Name x p2, iter, [], 0⟩] scope pos) (tNSelf X.prog X.w X.K te c) := by
  refine ⟨fun pins s σ H Q I h => ?_⟩
  rw [arm_eval_DictComp]
  refine nself_core (use := none) hit hv sm I h sc.1 sc.2.1 sc.2.2.1 sc.2.2.2.1 sc.2.2.2.2 hdb (fun D ce m s' H' I' q hn f => ⟨m, hn, fun h'' sb => ?_⟩) hs
  obtain ⟨f0, f1, f2, f3, f4, f5⟩ := f
  exact ⟨.ref D, H', I'.turned (t' := s'.toks) (fun b o hb e => (sb.2 b hb).trans e) f0 f1 f3 f4 f5, rfl, q⟩
/-- name = {..} on one line -/
theorem ps_setNself {i : Nat} {x y : Str} {vx iter : Expr} {scope : Scope} {pos spos p1 p2 py : Pos} {te : TE} {c : V} (hit : PE X iter te) (hv : ∀ L : LX, PL L vx (lc c)) (sm : Sm X.A) (sc : dcScope scope x) (hN : X.N.Nodup) (hy : X.N[i]? = some y) (hyl : X.env.scope.names.lookup y = some .local)
    (hsw : swapsWith (.DictComp (.Name x p1) vx [⟨.Name x p2, iter, [], 0⟩] scope pos) (some (.Name y py)) spos.line X.env = pure true) (hdb : (x == ("__debug__" : Str)) = false := by decide) (hs : ∀ x, foldedSetIterable iter X.env x = pure x := by intro _; rfl) :
    PS X (.Assign [.Name y py] (.DictComp (.Name x p1) vx [⟨.Name x p2, iter, [], 0⟩] scope pos) spos) (tAsg (tNSelf X.prog X.w X.K te c) (gName i)) := by
  refine ⟨fun pins s σ H D I h => ?_⟩
  rw [exec_Assign_Name_used _ _ _ _ hsw]
  refine wpAny_bind (wpAny_standAt (wpAny_bind ?_))
  have h : tNSelf X.prog X.w X.K te c σ H (fun x H1 => gName i x σ H1 D.nx) := h
  refine wpAny_bind (thn (nself_core (use := some (assign (.Name y py) X.env)) (Qf := fun _ s' => SP X pins D .next s') hit hv sm I h sc.1 sc.2.1 sc.2.2.1 sc.2.2.2.1 sc.2.2.2.2 hdb (fun L ce m s' H' I' q hn f => ?_) hs) fun _ s' hq => wpAny_pure (wpAny_pure hq))
  show wpAny _ _ (assign (.Name y py) X.env (.ref L)) _ _ _
  refine wpAny_assign_Name (store_ok2 (v := V.ref L) I' hN hy (.inl hyl) rfl (fun s2 I2 ⟨a, sb, ha⟩ => ?_) (.inr hyl))
  obtain ⟨f0, f1, f2, f3, f4, f5⟩ := f
  have haC : ce.locals ≠ a := by
    rcases ha with z | z
    · rw [z]; exact f1
    · exact fun e => f4 y a z e.symm
  refine ⟨m, hn.sameBut sb haC, fun h3 sb3 => ?_⟩
  exact ⟨_, H', I2.turned (t' := s2.toks) (fun b o hb e => (sb3.2 b hb).trans e) f0 f1 f3 f4 f5, q⟩
end
end Ws
end
section
/-! sorted({rule: True for rule in rules}, key=rule_key). -/
namespace Ws
open PySem PySem.Spec PyProof.Rows L2
abbrev Rule := Nd × Nd × Int
def ruleVs (r : Rule) : List V := [ndV r.1, ndV r.2.1, .int r.2.2]
def txt : Nd → Str
  | none => ""
  | some x => x
def keyD (r : Rule) : PyData := .tuple [.str (txt r.1), .str (txt r.2.1), .int r.2.2]
theorem keyD_alike (r r' : Rule) : PySem.W.alike (keyD r) (keyD r') = true := by simp [keyD, PySem.W.alike, PySem.W.alikeAll]
theorem Sm.ofRoom' {k : Nat} {A : Around} (r : Room k A) : Sm A := ⟨r.hd, r.units, r.depth⟩
theorem Fun.lk {K : PySem.W.Frag} {x q : Str} {st : Stmt} {f : Addr} {fd : FuncData} (F : L2.Fun K x q st f fd) : ∃ (oc : Value) (od : Option Addr) (kV doc pm : Value) (an : Option Addr) (cdv ct : Value) (osl : Array (Option Value)),
    fd = PySem.W.fnOf x q (defArgs st) (defBody st) (defScope st) .none kV doc pm an cdv ct ∧ K.lookup f = some ⟨oc, od, .func fd, osl⟩ ∧ PySem.W.codeIn K cdv q = true := F.ex
/-- rule_key(rule) -/
theorem key_call {P : Program} {w : World} {K : PySem.W.Frag} {base : Heap} {f : Addr} {fd : FuncData} (F : L2.Fun K "rule_key" "rule_key" (top 15) f fd) (kin : K.In base) (nl : base.NoLimit) {A : Around} (rm : Room 1 A) {s : Shared} {H : Hp} (bk : ∀ b o, base.get? b = some o → s.heap.get? b = some o)
    (hok : HOk P w H s.heap) {r : Rule} {a : Addr} (ha : H a = some (.tup (ruleVs r))) : wpAny (model P w) A (call (.ref f) [.ref a]) (PySem.W.KeyPure (keyD r) s) (fun _ _ => False) s := by
  obtain ⟨oc, od, kV, doc, pm, an, cdv, ct, osl, efd, lk, hcd⟩ := Fun.lk F
  have kins : K.In s.heap := kin.keeps bk
  have lim : s.heap.NoLimit := nl.keeps bk
  subst efd
  refine wpAny_call (codeAny_mono (R := fun r' s' => match r' with | .ok (.ret v) => PySem.W.KeyPure (keyD r) s v s' | _ => False) ?_ fun r' s' hq => ?_)
  · refine codeAny_call_cells rm.depth (kins _ _ lk) rfl lim (PySem.W.codeRec_of kins hcd) rfl (binds := [("rule", .ref a)]) rfl rfl (fun x hx => ?_) (fun s1 x => ?_)
    · rw [List.mem_singleton.mp hx]
      exact .inl rfl
    · obtain ⟨h1, tk, es1, hk1⟩ := x.done
      have hns := x.toInCall.ns
      subst es1
      obtain ⟨mm, hns, hm⟩ : ∃ mm, h1.Ns s.heap.objs.size mm ∧ mm "rule" = some (.ref a) := ⟨_, hns, bindL_get (P := ["rule"]) (vs := [.ref a]) (i := 0) (by simp) rfl rfl rfl⟩
      have T : Lt (⟨P, w, K, base, callEnvC (PySem.W.fnOf "rule_key" "rule_key" (defArgs (top 15)) (defBody (top 15)) (defScope (top 15)) .none kV doc pm an cdv ct) s.heap.objs.size f⟩ : LX) (fun x => if x = "rule" then some (.ref a) else none) H { s with heap := h1, toks := tk } := by
        refine ⟨⟨kin, nl, rfl, ?_⟩, fun b o e => hk1 b o (bk b o e), hok.kept hk1, hok.fresh (Nat.le_refl _), mm, hns, fun x v hx => ?_⟩
        · cases e : base.get? s.heap.objs.size with
          | none => exact e
          | some o => exact absurd (Heap.lt_size (bk _ o e)) (Nat.lt_irrefl _)
        · have hx' : (if x = "rule" then some (V.ref a) else none) = some v := hx
          by_cases q : x = "rule"
          · rw [if_pos q] at hx'
            cases hx'
            subst q
            exact ⟨rfl, _, hm, rfl⟩
          · rw [if_neg q] at hx'
            cases hx'
      refine wpAny_execs_cons (wpAny_Return_some ((pl_tup (pla_cons (pl_if (plt_cmp (plc_isN (pl_ix pl_v))) pl_str (pl_ix pl_v)) (pla_cons (pl_if (plt_cmp (plc_isN (pl_ix pl_v))) pl_str (pl_ix pl_v)) (pla_cons (pl_ix pl_v) pla_nil)))).thn' (L := (⟨P, w, K, base, callEnvC (PySem.W.fnOf "rule_key" "rule_key" (defArgs (top 15)) (defBody (top 15)) (defScope (top 15)) .none kV doc pm an cdv ct) s.heap.objs.size f⟩ : LX))
        (Q := fun v H' => ∃ p, v = .ref p ∧ H' p = some (.tup [.str (txt r.1), .str (txt r.2.1), .int r.2.2])) (Sm.ofRoom' (rm.deeper _)) T ?_ fun u v H2 s2 g2 T2 r2 ⟨p, ev, hp⟩ => ?_))
      · have hr : (fun x : Str => if x = "rule" then some (V.ref a) else none) "rule" = some (.ref a) := by simp
        obtain ⟨lo, hi, gp⟩ := r
        have fin : ∀ p, H p = none → ∃ p_1, V.ref p = .ref p_1 ∧ upd H p (.tup [.str (txt lo), .str (txt hi), .int gp]) p_1 = some (.tup [.str (txt lo), .str (txt hi), .int gp]) := fun p _ => ⟨p, rfl, upd_same⟩
        have sz : ([.str (txt lo), .str (txt hi), .int gp] : List V).length ≤ sizeLine := by rw [sizeLine_eq]; show 3 ≤ 16777216; decide
        refine ⟨_, hr, a, _, ndV lo, rfl, ha, rfl, ?_⟩
        cases lo with
        | none =>
          refine iteT ?_
          refine ⟨_, hr, a, _, ndV hi, rfl, ha, rfl, ?_⟩
          cases hi with
          | none => exact iteT ⟨_, hr, a, _, .int gp, rfl, ha, rfl, sz, fin⟩
          | some y => exact iteF ⟨_, hr, a, _, _, rfl, ha, rfl, _, hr, a, _, .int gp, rfl, ha, rfl, sz, fin⟩
        | some z =>
          refine iteF ⟨_, hr, a, _, _, rfl, ha, rfl, ?_⟩
          refine ⟨_, hr, a, _, ndV hi, rfl, ha, rfl, ?_⟩
          cases hi with
          | none => exact iteT ⟨_, hr, a, _, .int gp, rfl, ha, rfl, sz, fin⟩
          | some y => exact iteF ⟨_, hr, a, _, _, rfl, ha, rfl, _, hr, a, _, .int gp, rfl, ha, rfl, sz, fin⟩
      · subst ev
        obtain rfl : u = Value.ref p := r2
        obtain ⟨_, its, rv, o, ho, hc, n, hdt⟩ := T2.hok p _ hp
        refine ⟨s2.heap, s2.toks, ?_, fun b o e => g2.keep b o (hk1 b o e), ?_⟩
        · obtain ⟨sh, sg, sd, st, so⟩ := s2
          have e1 : so = s.os := g2.os
          have e2 : sg = s.gens := g2.gens
          have e3 : sd = s.drawn := g2.dr
          subst e1 e2 e3
          rfl
        · cases rv with
          | cons r1 rv =>
            cases rv with
            | cons r2 rv =>
              cases rv with
              | cons r3 rv =>
                cases rv
                obtain ⟨t1, rfl⟩ := r1
                obtain ⟨t2, rfl⟩ := r2
                obtain ⟨t3, rfl⟩ := r3
                exact Reads.tuple ho hc hdt (.cons (.str _ _) (.cons (.str _ _) (.cons (.int _ _) .nil)))
  · cases r' with
    | error e => exact hq.elim
    | ok fl =>
      cases fl with
      | ret v => exact hq
      | next => exact hq.elim
      | brk => exact hq.elim
      | cont => exact hq.elim
end Ws
namespace Ws
open PySem PySem.Spec PyProof.Rows L2
def ndK : Nd → Option Key
  | none => none
  | some x => some (.inr x)
theorem ndK_inj {a b : Nd} (h : ndK a = ndK b) : a = b := by
  cases a <;> cases b <;> first | rfl | (simp [ndK] at h; try rw [h])
def ruleK (r : Rule) : List (Option Key) := [ndK r.1, ndK r.2.1, some (.inl r.2.2)]
theorem ruleK_inj {a b : Rule} (h : ruleK a = ruleK b) : a = b := by
  obtain ⟨a1, a2, a3⟩ := a
  obtain ⟨b1, b2, b3⟩ := b
  simp only [ruleK, List.cons.injEq, Option.some.injEq, Sum.inl.injEq, and_true] at h
  obtain ⟨h1, h2, h3⟩ := h
  rw [ndK_inj h1, ndK_inj h2, h3]
theorem nd_nk {P : Program} {w : World} {k : Nd} {u : Value} (r : RelV (ndV k) u) : (noneKind P w).is (ndK k) u = true := by
  cases k with
  | none =>
    obtain rfl : u = Value.none := r
    rfl
  | some x =>
    obtain ⟨t, rfl⟩ : ∃ t, u = Value.str x t := r
    exact keyIs_str x t
theorem rule_isKey {P : Program} {w : World} {H : Hp} {h : Heap} {a : Addr} {r : Rule} (hok : HOk P w H h) (ha : H a = some (.tup (ruleVs r))) : IsTupleKey (noneKind P w) h (ruleK r) a := by
  obtain ⟨_, its, rv, o, ho, hc, n, hd⟩ := hok a _ ha
  refine ⟨o, its.toArray, n, ho, hc, hd, ?_⟩
  cases rv with
  | cons r1 rv =>
    cases rv with
    | cons r2 rv =>
      cases rv with
      | cons r3 rv =>
        cases rv
        obtain ⟨t3, rfl⟩ := r3
        exact .cons (nd_nk r1) (.cons (nd_nk r2) (.cons (keyIs_int r.2.2 t3) .nil))
/-- the rules so far, each once -/
structure RlD (rl : List (Addr × Rule)) (i : Nat) (es : List (List (Option Key) × Addr × Value)) : Prop where
  sub : ∀ e ∈ es, ∃ r, (e.2.1, r) ∈ rl ∧ e.1 = ruleK r
  all : ∀ j x, j < i → rl[j]? = some x → ∃ e ∈ es, e.1 = ruleK x.2
  len : es.length ≤ i
def DpR (P : Program) (w : World) (rl : List (Addr × Rule)) (i : Nat) (h : Heap) (D : Addr) : Prop := (D == sysModules) = false ∧ ∃ es, h.DictOfH (tupleKind (noneKind P w)) D es ∧ RlD rl i es
theorem RlD.put {rl : List (Addr × Rule)} {i : Nat} {es : List (List (Option Key) × Addr × Value)} {a : Addr} {r : Rule} {v : Value} (d : RlD rl i es) (hx : rl[i]? = some (a, r)) (nd : (es.map (·.1)).Nodup) : RlD rl (i + 1) (storedH es (ruleK r) a v) := by
  unfold storedH
  by_cases hs : (atKey es (ruleK r)).isSome = true
  · rw [if_pos hs]
    have keys : ∀ e : List (Option Key) × Addr × Value, (putAt (ruleK r) v e).1 = e.1 ∧ (putAt (ruleK r) v e).2.1 = e.2.1 := fun e => by unfold putAt; split <;> exact ⟨rfl, rfl⟩
    refine ⟨fun e he => ?_, fun j x hj hx' => ?_, by rw [List.length_map]; have := d.len; omega⟩
    · obtain ⟨e0, h0, rfl⟩ := List.mem_map.mp he
      rw [(keys e0).1, (keys e0).2]
      exact d.sub e0 h0
    · by_cases q : j = i
      · subst q
        rw [hx] at hx'
        cases hx'
        obtain ⟨p, hp⟩ := Option.isSome_iff_exists.mp hs
        unfold atKey at hp
        obtain ⟨e0, h0, _⟩ := Option.map_eq_some_iff.mp hp
        have h1 := List.find?_some h0
        simp only [decide_eq_true_eq] at h1
        exact ⟨_, List.mem_map.mpr ⟨e0, List.mem_of_find?_eq_some h0, rfl⟩, by rw [(keys e0).1]; exact h1⟩
      · obtain ⟨e0, h0, e1⟩ := d.all j x (by omega) hx'
        exact ⟨_, List.mem_map.mpr ⟨e0, h0, rfl⟩, by rw [(keys e0).1]; exact e1⟩
  · rw [if_neg hs]
    refine ⟨fun e he => ?_, fun j x hj hx' => ?_, by rw [List.length_append, List.length_singleton]; have := d.len; omega⟩
    · rcases List.mem_append.mp he with he | he
      · exact d.sub e he
      · rw [List.mem_singleton.mp he]
        exact ⟨r, List.mem_of_getElem? hx, rfl⟩
    · by_cases q : j = i
      · subst q
        rw [hx] at hx'
        cases hx'
        exact ⟨(ruleK r, a, v), by simp, rfl⟩
      · obtain ⟨e0, h0, e1⟩ := d.all j x (by omega) hx'
        exact ⟨e0, List.mem_append_left _ h0, e1⟩
def refsR (rl : List (Addr × Rule)) : List V := rl.map fun x => .ref x.1
theorem dself_rule {X : Cx} {rl : List (Addr × Rule)} {H : Hp} (hr : ∀ x ∈ rl, H x.1 = some (.tup (ruleVs x.2))) (hl : rl.length ≤ 60000) : DSelf X (refsR rl) (.bl true) H (DpR X.prog X.w rl) := by
  refine ⟨fun h D hs e => ⟨hs, [], ⟨_, #[], 0, e, ⟨rfl, rfl, rfl⟩, rfl, rfl, fun x hx => absurd hx (by simp), by simp⟩, ⟨fun e he => absurd he (by simp), fun j x hj => absurd hj (Nat.not_lt_zero _), Nat.le_refl _⟩⟩, fun i h h' D ⟨hs, es, ⟨o, ar, ep, e, q1, q2, q3, q4, q5⟩, d⟩ k => ⟨hs, es, ⟨o, ar, ep, k D o (.inl rfl) e, q1, q2, q3, fun x hx => ?_, q5⟩, d⟩, ?_⟩
  · obtain ⟨r, hm, _⟩ := d.sub x hx
    obtain ⟨ob, its, n, ho, q⟩ := q4 x hx
    exact ⟨ob, its, n, k _ ob (.inr (by rw [hr _ hm]; exact fun z => nomatch z)) ho, q⟩
  · intro A s i x u w D Q E sm hx ru rw' hok ⟨hs, es, dd, d⟩ hQ
    obtain ⟨y, hy, rfl⟩ : ∃ y, rl[i]? = some y ∧ x = V.ref y.1 := by
      unfold refsR at hx
      rw [List.getElem?_map] at hx
      obtain ⟨y, h1, h2⟩ := Option.map_eq_some_iff.mp hx
      exact ⟨y, h1, h2.symm⟩
    obtain ⟨a, r⟩ := y
    obtain rfl : u = Value.ref a := ru
    have hi : i < rl.length := (List.getElem?_eq_some_iff.mp hy).1
    have nd : (es.map (·.1)).Nodup := by obtain ⟨_, _, _, _, _, _, _, _, q⟩ := dd; exact q
    refine wpAny_dictSet_heap (knd := tupleKind (noneKind X.prog X.w)) (k := ruleK r) (hsz := by have := d.len; rw [sizeLine_eq]; omega) (show A.units < cLine by have := sm.un; omega) (rule_isKey hok (hr _ (List.mem_of_getElem? hy))) dd fun h' dd' sb => ?_
    exact hQ h' _ ⟨hs, _, dd', d.put hy nd⟩ (let ⟨q, _, _, hq, _⟩ := dd'; ⟨q, hq⟩) sb
def rawD (D : Addr) (es : Array DictEntry) (ep : Nat) : HO := .ext fun h => h.DictRaw D es ep
theorem rawD_ok {P : Program} {w : World} {H : Hp} {h : Heap} {D : Addr} {es : Array DictEntry} {ep : Nat} (r : h.DictRaw D es ep) : ObjOk P w H h D (rawD D es ep) :=
  ⟨r, let ⟨o, e, _⟩ := r; ⟨o, e⟩, fun h1 h2 q k => q.at k⟩
end Ws
namespace Ws
open PySem PySem.Spec PyProof.Rows L2
section
variable {X : Cx} {pins : List (Addr × Obj)} {σ : L2.St} {H : Hp} {s : Shared}
/-- {rule: True for rule in rules} -/
def tRuleD (K : PySem.W.Frag) (te : TE) : TE := fun σ H Q => te σ H fun v H1 => ∃ a xs, v = .ref a ∧ SqL K H1 a xs ∧ ∃ rl : List (Addr × Rule), xs = refsR rl ∧ (∀ x ∈ rl, H1 x.1 = some (.tup (ruleVs x.2))) ∧ rl.length ≤ 60000 ∧
  ∀ (p : Addr) (es : Array DictEntry) (ep : Nat) (out : List (Addr × Rule)), H1 p = none → (p == sysModules) = false → es.toList.map (·.key) = out.map (fun x => Value.ref x.1) → (∀ x ∈ out, x ∈ rl) → (∀ x ∈ rl, ∃ y ∈ out, y.2 = x.2) → (out.map Prod.snd).Nodup → out.length ≤ rl.length → Q (.ref p) (upd H1 p (rawD p es ep))
theorem refsR_inj : ∀ {a b : List (Addr × Rule)} {H : Hp}, refsR a = refsR b → (∀ x ∈ a, H x.1 = some (.tup (ruleVs x.2))) → (∀ x ∈ b, H x.1 = some (.tup (ruleVs x.2))) → a = b
  | [], [], _, _, _, _ => rfl
  | [], _ :: _, _, e, _, _ => by simp [refsR] at e
  | _ :: _, [], _, e, _, _ => by simp [refsR] at e
  | x :: xs, y :: ys, H, e, ha, hb => by
    simp only [refsR, List.map_cons, List.cons.injEq, V.ref.injEq] at e
    obtain ⟨e1, e2⟩ := e
    have h1 := ha x List.mem_cons_self
    have h2 := hb y List.mem_cons_self
    rw [e1, h2] at h1
    obtain ⟨xa, x1, x2, x3⟩ := x
    obtain ⟨ya, y1, y2, y3⟩ := y
    simp only [ruleVs, Option.some.injEq, HO.tup.injEq, List.cons.injEq, V.int.injEq, and_true] at h1
    obtain ⟨q1, q2, q3⟩ := h1
    simp only at e1
    rw [refsR_inj (H := H) (show refsR xs = refsR ys from e2) (fun z hz => ha z (List.mem_cons_of_mem _ hz)) fun z hz => hb z (List.mem_cons_of_mem _ hz), e1, ndV_inj q1, ndV_inj q2, q3]
theorem pe_ruleD {x : Str} {iter : Expr} {scope : Scope} {pos p1 p2 p3 : Pos} {j : Nat} {te : TE} (hit : PE X iter te) (sm : Sm X.A) (sc : dcScope scope x) (hdb : (x == ("__debug__" : Str)) = false := by decide) (hs : ∀ x, foldedSetIterable iter X.env x = pure x := by intro _; rfl) :
    PE X (.DictComp (.Name x p1) (.Constant (.bool true) j p3) [⟨.Name x p2, iter, [], 0⟩] scope pos) (tRuleD X.K te) := by
  refine ⟨fun pins s σ H Q I h => ?_⟩
  rw [arm_eval_DictComp]
  refine dcs_core (use := none) (c := .bl true) (R := fun xs H1 => ∃ rl : List (Addr × Rule), xs = refsR rl ∧ (∀ x ∈ rl, H1 x.1 = some (.tup (ruleVs x.2))) ∧ rl.length ≤ 60000 ∧ ∀ (p : Addr) (es : Array DictEntry) (ep : Nat) (out : List (Addr × Rule)), H1 p = none → (p == sysModules) = false → es.toList.map (·.key) = out.map (fun x => Value.ref x.1) → (∀ x ∈ out, x ∈ rl) → (∀ x ∈ rl, ∃ y ∈ out, y.2 = x.2) → (out.map Prod.snd).Nodup → out.length ≤ rl.length → Q (.ref p) (upd H1 p (rawD p es ep)))
    (Dp := fun xs H1 i h D => ∀ rl : List (Addr × Rule), xs = refsR rl → (∀ x ∈ rl, H1 x.1 = some (.tup (ruleVs x.2))) → DpR X.prog X.w rl i h D) hit (fun L => pl_bl) sm I h (fun xs H1 ⟨rl, e, hr, hl, q⟩ => ?_) sc.1 sc.2.1 sc.2.2.1 sc.2.2.2.1 sc.2.2.2.2 hdb (fun xs H1 D ce m s' ⟨rl, e, hr, hl, q⟩ I' dp hD hn fC fD ne hex => ?_) hs
  · have d := dself_rule (X := X) hr hl
    subst e
    refine ⟨fun h D hs e rl' e' hr' => by rw [← refsR_inj e' hr hr']; exact d.zero h D hs e, fun i h h' D z k rl' e' hr' => by rw [← refsR_inj e' hr hr']; exact d.keep i h h' D (z rl rfl hr) k,
      fun A s i x u w D Q E sm hx ru rw' hok z hQ => d.put A s i x u w D Q E sm hx ru rw' hok (z rl rfl hr) fun h' tk dp' ex sb => hQ h' tk (fun rl' e' hr' => by rw [← refsR_inj e' hr hr']; exact dp') ex sb⟩
  · subst e
    obtain ⟨hsys, es, ⟨o, ar, ep, ho, hc, hd, hes, his, hnd⟩, d⟩ := dp rl rfl hr
    have raw : s'.heap.DictRaw D ar ep := ⟨o, ho, hc, hd⟩
    -- the rules that stand in the dict
    have pick : ∀ l : List (List (Option Key) × Addr × Value), (∀ e ∈ l, e ∈ es) → ∃ out : List (Addr × Rule), l.map (fun e => e.2.1) = out.map (·.1) ∧ l.map (·.1) = out.map (fun x => ruleK x.2) ∧ ∀ x ∈ out, x ∈ rl := by
      intro l
      induction l with
      | nil => intro _; exact ⟨[], rfl, rfl, fun x hx => nomatch hx⟩
      | cons e l ih =>
        intro hl'
        obtain ⟨out, q1, q2, q3⟩ := ih fun e he => hl' e (List.mem_cons_of_mem _ he)
        obtain ⟨r, hm, ek⟩ := d.sub e (hl' e List.mem_cons_self)
        refine ⟨(e.2.1, r) :: out, by simp [q1], by simp [q2, ek], fun x hx => ?_⟩
        rcases List.mem_cons.mp hx with rfl | hx
        · exact hm
        · exact q3 x hx
    obtain ⟨out, q1, q2, q3⟩ := pick es fun _ h => h
    have hkey : ar.toList.map (·.key) = out.map (fun x => Value.ref x.1) := by
      rw [hes, List.map_map]
      have : (es.map fun e => e.2.1).map Value.ref = (out.map (·.1)).map Value.ref := by rw [q1]
      rw [List.map_map, List.map_map] at this
      exact this
    have hndo : (out.map Prod.snd).Nodup := by
      rw [q2] at hnd
      have e : out.map (fun x => ruleK x.2) = (out.map Prod.snd).map ruleK := by rw [List.map_map]; rfl
      rw [e] at hnd
      exact (List.pairwise_map.mp hnd).imp fun h e => h (congrArg ruleK e)
    have hall : ∀ x ∈ rl, ∃ y ∈ out, y.2 = x.2 := fun x hx => by
      obtain ⟨j, hj, ej⟩ := List.mem_iff_getElem.mp hx
      have hlen : (refsR rl).length = rl.length := by simp [refsR]
      obtain ⟨e, he, ek⟩ := d.all j x (by rw [hlen]; exact hj) (by rw [List.getElem?_eq_getElem hj, ej])
      have hm : e.1 ∈ es.map (·.1) := List.mem_map.mpr ⟨e, he, rfl⟩
      rw [q2] at hm
      obtain ⟨y, hy, ey⟩ := List.mem_map.mp hm
      exact ⟨y, hy, ruleK_inj (by rw [ey]; exact ek)⟩
    have hlo : out.length ≤ rl.length := by
      have h1 := congrArg List.length q1
      rw [List.length_map, List.length_map] at h1
      have h2 := d.len
      have hlen : (refsR rl).length = rl.length := by simp [refsR]
      omega
    obtain ⟨f0, f1, f2, f3, f4, f5⟩ := Ws.FpOk.upd (o := rawD D ar ep) fC ne
    have I2 := Inv.track I' fD (rawD_ok (P := X.prog) (w := X.w) (H := upd H1 D (rawD D ar ep)) raw)
    exact ⟨m, hn, fun h'' sb => ⟨.ref D, _, I2.turned (t' := s'.toks) (fun b o hb e => (sb.2 b hb).trans e) f0 f1 f3 f4 f5, rfl, q D ar ep out hD hsys hkey q3 hall hndo hlo⟩⟩
/-- the keys of a dict, collected -/
theorem KdlSrc.rawDict {prog : Program} {w : World} {d : Addr} {es : Array DictEntry} {ep : Nat} (lo : (d == sysModules) = false) : PySem.W.KdlSrc prog w "dict" d d es.size (fun i v => ∃ hi : i < es.size, v = es[i].key) (fun h => h.DictRaw d es ep) where
  type := fun _ hm => hm.typeIs
  there := fun _ hm => ⟨hm.lt_size, hm.lt_size⟩
  keep := fun _ _ hm hk => hm.at fun o e => hk d (.inl rfl) o e
  notList := by decide
  notTuple := by decide
  hint := fun _ _ _ _ hm hq => PySem.W.kdl_hint_dict hm.typeIs hq
  iter := fun _ _ hh hm => ⟨_, _, (fun _ _ hq => wpAny_pyIter_dict_raw lo hm hq), Walks.rawKeys hh _ d (Nat.ne_of_lt hm.lt_size) es ep, ⟨⟨_, Heap.get?_push_size _ rfl, rfl, rfl⟩, hm.push _⟩⟩
/-- sorted(d, key=rule_key) -/
def rSortR (f : Addr) : List V → List V → Hp → VK → Prop := fun vs zs H Q => ∃ (p : Addr) (es : Array DictEntry) (ep : Nat) (out : List (Addr × Rule)), vs = [.ref p] ∧ zs = [.ref f] ∧ H p = some (rawD p es ep) ∧ (p == sysModules) = false ∧ es.toList.map (·.key) = out.map (fun x => Value.ref x.1) ∧
  (∀ x ∈ out, H x.1 = some (.tup (ruleVs x.2))) ∧ out.length ≤ 60000 ∧ ∀ (ys : List (Addr × Rule)) (q : Addr), ys.Perm out → H q = none → Q (.ref q) (upd H q (.lst (refsR ys)))
theorem crk_sortR {f : Addr} {fd : FuncData} (F : L2.Fun X.K "rule_key" "rule_key" (top 15) f fd) (rm : Room 4 X.A) : CallRK X (.builtin "sorted") ["key"] (rSortR f) := by
  intro pins s σ H xs zs us ws Q I rx rz h
  obtain ⟨p, es, ep, out, rfl, rfl, hp, hsys, hkey, hout, hlen, hq⟩ := h
  obtain ⟨u, rfl, ru⟩ := vals1 rx
  obtain rfl : u = Value.ref p := ru
  obtain ⟨u2, rfl, ru2⟩ := vals1 rz
  obtain rfl : u2 = Value.ref f := ru2
  have raw : s.heap.DictRaw p es ep := (I.hok p _ hp).1
  have hes : es.size = out.length := by
    have := congrArg List.length hkey
    rw [List.length_map, List.length_map, Array.length_toList] at this
    exact this
  refine PyProof.Rows.call_function_entry_kw PyProof.Rows.kind_sorted PyProof.Rows.plain_sorted PyProof.Rows.entry_sorted (PyProof.Rows.ksk_s1 _ _) ?_
  unfold Builtin.«sorted»
  refine wpAny_bind (m := checkCount "sorted" 1 1 _) (wpAny_pure ?_)
  refine wpAny_bind (wpAny_hsz (PySem.W.kdu_collect (A := X.A.in1) (KdlSrc.rawDict hsys) rm.hd raw (by rw [hes, sizeLine_eq]; omega) fun h' tk acc hk hacc hszz => ?_))
  have hal : acc.toList.length = out.length := by rw [Array.length_toList, hacc.1, hes]
  have hacc2 : acc.toList = out.map fun x => Value.ref x.1 := by
    refine List.ext_getElem? fun i => ?_
    rw [← hkey]
    by_cases hi : i < acc.toList.length
    · obtain ⟨hi2, ev⟩ := hacc.2 i acc.toList[i] (by rw [← Array.getElem?_toList]; exact List.getElem?_eq_getElem hi)
      rw [List.getElem?_eq_getElem hi, ev, List.getElem?_map, Array.getElem?_toList, Array.getElem?_eq_getElem hi2]
      rfl
    · rw [List.getElem?_eq_none (by omega), List.getElem?_eq_none (by rw [List.length_map, Array.length_toList, hes]; omega)]
  have I1 : Inv X pins σ H { s with heap := h', toks := tk } := I.kept hk
  refine wpAny_bind (wpAny_newList ?_ (by rw [hal, sizeLine_eq]; omega))
  have hoL : (h'.push (seqObj "list" acc.toList.toArray 0)).get? h'.objs.size = some (seqObj "list" acc.toList.toArray 0) := Heap.get?_push_size _ rfl
  show wpAny _ _ _ _ _ { s with heap := h'.push (seqObj "list" acc.toList.toArray 0), toks := tk }
  refine wpAny_bind (wpAny_holding (wpAny_call_entry_kw PyProof.Rows.slot_list_sort ⟨_, hoL, rfl⟩ PyProof.Rows.entry_list_sort ?_ (PyProof.Rows.ksk_l1 _ _)))
  show wpAny (model X.prog X.w) X.A.in1.in1 (Builtin.«list.sort» ⟨[.ref h'.objs.size], [(Str.ofString "key", .ref f)]⟩) _ _ _
  rw [PyProof.Rows.ksk_t1]
  have hsz : (h'.push (seqObj "list" acc.toList.toArray 0)).objs.size = h'.objs.size + 1 := Heap.size_push ..
  have aGe : @LE.le Nat _ s.heap.objs.size h'.objs.size := hszz
  have fr : ∀ (b : Nat), h'.objs.size ≤ b → H b = none := fun b hb => I1.hok.fresh hb
  have ltA : ∀ b u, H b = some u → b ≠ h'.objs.size := fun b u e z => by rw [z, fr _ (Nat.le_refl _)] at e; cases e
  have bsA : ∀ b o, X.base.get? b = some o → b ≠ h'.objs.size := fun b o e z => by
    have := Heap.lt_size (I1.bk b o e)
    rw [z] at this
    exact Nat.lt_irrefl _ this
  have okPush : HOk X.prog X.w H (h'.push (seqObj "list" acc.toList.toArray 0)) := I1.hok.kept fun b u e => Heap.get?_push_of_some _ e
  refine PySem.W.keyH_tree (kz := out.map fun x => keyD x.2) (vs := acc.toList) (s := { s with heap := h'.push (seqObj "list" acc.toList.toArray 0), toks := tk }) hoL (by rw [List.length_map]; exact hal.symm) (by rw [hal, sizeLine_eq]; omega) (fun d hd d' hd' => ?_) (.inl fun d hd => ?_) (fun d hd => ?_) (fun i v k hv hk' h2 tk2 kb => ?_) fun h2 tk2 outv c kb hS ko => ?_
  · obtain ⟨x, _, rfl⟩ := List.mem_map.mp hd
    obtain ⟨y, _, rfl⟩ := List.mem_map.mp hd'
    exact keyD_alike _ _
  · obtain ⟨x, _, rfl⟩ := List.mem_map.mp hd
    exact ⟨_, _, rfl⟩
  · obtain ⟨x, _, rfl⟩ := List.mem_map.mp hd
    have h1 : X.A.in1.in1.units + 64 < cLine := (Sm.ofRoom' ((rm.in1).in1)).un
    have h2 : (keyD x.2).depth = 1 := by simp [keyD, PyData.depth, PyData.depthAll]
    omega
  · rw [hacc2, List.getElem?_map] at hv
    rw [List.getElem?_map] at hk'
    obtain ⟨x, hx, rfl⟩ := Option.map_eq_some_iff.mp hv
    rw [hx] at hk'
    obtain rfl : keyD x.2 = k := Option.some.inj hk'
    refine key_call F I.ok.mod.kin I.ok.mod.nolimit (((rm.in1).in1).mono (by decide)) (fun b o e => kb b o (bsA b o e) (Heap.get?_push_of_some _ (I1.bk b o e))) ?_ (hout x (List.mem_of_getElem? hx))
    exact HOk.but okPush (fr _ (Nat.le_refl _)) fun b o n e => kb b o n e
  · have each : PySem.W.EachIs (fun (v : Value) (x : Addr × Rule) => v = .ref x.1) acc.toList out := by
      rw [hacc2]
      clear hq hout hlen hkey hes hal hacc hacc2 ko
      induction out with
      | nil => exact .nil
      | cons x xs ih => exact .cons rfl ih
    have ho := PySem.W.keyedOut_each (fun x : Addr × Rule => keyD x.2) ko each
    have hov : ∀ {vs : List Value} {bs : List (Addr × Rule)}, PySem.W.EachIs (fun (v : Value) (x : Addr × Rule) => v = .ref x.1) vs bs → Vals (refsR bs) vs := fun {vs bs} e => by
      induction e with
      | nil => exact .nil
      | cons h _ ih => exact .cons h ih
    have rv := hov ho
    refine ⟨_, rfl, wpAny_pure ⟨_, rfl, ?_⟩⟩
    have nA : H h'.objs.size = none := fr _ (Nat.le_refl _)
    have keepAll : ∀ b o, s.heap.get? b = some o → h2.get? b = some o := fun b o e => kb b o (fun z => by
      have h1 := Heap.lt_size (hk b o e)
      rw [z] at h1
      exact Nat.lt_irrefl _ h1) (Heap.get?_push_of_some _ (hk b o e))
    have hlen2 : (refsR (out.mergeSort (PySem.W.dataLe false fun x => keyD x.2))).length ≤ sizeLine := by
      unfold refsR
      rw [List.length_map, List.length_mergeSort, sizeLine_eq]
      omega
    have okEnd : HOk X.prog X.w (upd H h'.objs.size (.lst (refsR (out.mergeSort (PySem.W.dataLe false fun x => keyD x.2))))) h2 := HOk.addL (us := outv) (c := c) (HOk.but okPush nA fun b o n e => kb b o n e) nA hlen2 hS rv
    refine ⟨.ref h'.objs.size, _, Ws.Inv.grown I (s' := { s with heap := h2, toks := tk2 }) keepAll rfl I.bare okEnd (fun b hb => upd_ne ?_), rfl, hq _ _ (List.mergeSort_perm _ _) nA⟩
    intro z
    rw [z] at hb
    exact Nat.lt_irrefl _ (Nat.lt_of_lt_of_le hb aGe)
end
end Ws
end
section
/-! x in a list of tuples that hold dicts. -/
namespace Ws
open PySem PySem.Spec PyProof.Rows L2
open PySem.AutoSeq1 (wpAny_loadPart')
open PySem.MeetsSeq PySem.SeqRoads2
section
variable {prog : Program} {w : World}
theorem has_loop {A : Around} {l : Addr} {items : Array Value} {n : Nat} {x : Value} {e : Value → Bool} {R : Result → Shared → Prop} : ∀ (k i : Nat) (s : Shared), i + k = items.size → s.heap.get? l = some { cls := .type "list", data := .seq items n } → (∀ y, y ∈ items → PySem.SeqAt.EqIn prog w A.in1 s y x (e y)) →
    R (.ok (.ret (.bool ((items.toList.drop i).any e)))) s → codeAny (model prog w) A (.builtin "list.__contains__.loop" ⟨[.ref l, x, rawInt i], []⟩) R s := by
  intro k
  induction k with
  | zero =>
    intro i s hk hl he h
    refine codeAny_builtin entry_contains_loop ?_
    rw [Around.under_plainId plain_contains_loop _]
    have hi : items[((i : Nat) : Int).toNat]? = none := by simp; omega
    have hd : items.toList.drop i = [] := by simp; omega
    rw [hd] at h
    obtain ⟨hp, g, d, tk, os⟩ := s
    wp_walk using wpAny_loadPart' hl
    rw [hi]
    wp_walk
    exact h
  | succ k ih =>
    intro i s hk hl he h
    refine codeAny_builtin entry_contains_loop ?_
    rw [Around.under_plainId plain_contains_loop _]
    have hlt : i < items.size := by omega
    have hi : items[((i : Nat) : Int).toNat]? = some items[i] := by simp [hlt]
    have hd : items.toList.drop i = items[i] :: items.toList.drop (i + 1) := by simp [List.drop_eq_getElem_cons, hlt]
    rw [hd, List.any_cons] at h
    obtain ⟨hp, g, d, tk, os⟩ := s
    wp_walk using wpAny_loadPart' hl
    rw [hi]
    refine wpAny_bind (he _ (Array.getElem_mem hlt) _ _ ?_)
    cases hb : e items[i] with
    | true =>
      rw [hb] at h
      wp_walk
      exact h
    | false =>
      rw [hb] at h
      have hc : ((i : Int) + 1) = ((i + 1 : Nat) : Int) := by push_cast; rfl
      wp_walk
      rw [hc]
      exact ⟨plainId_quiet plain_contains_loop _, ih (i + 1) _ (by omega) hl he (by simpa using h)⟩
theorem in_listIn {A : Around} {E : Value → Shared → Prop} {s : Shared} {l : Addr} {items : Array Value} {n : Nat} {x : Value} {e : Value → Bool} {Q : Value → Shared → Prop} (hl : s.heap.get? l = some { cls := .type "list", data := .seq items n }) (he : ∀ y, y ∈ items → PySem.SeqAt.EqIn prog w A.in1 s y x (e y)) (h : Q (.bool (items.any e)) s) :
    wpAny (model prog w) A (compareOp .In x (.ref l)) Q E s := by
  have hT : s.TypeIs (.ref l) "list" := ⟨_, hl, rfl⟩
  show wpAny _ A (do return .bool (← contains (.ref l) x)) Q E s
  refine wpAny_bind (wpAny_contains_slot hT PySem.F.slot_list_contains (wpAny_mono (Q := fun v s' => ∃ b, v = .bool b ∧ Q (.bool b) s') (wpAny_call (codeAny_call_builtin (R := wants (fun v s' => ∃ b, v = .bool b ∧ Q (.bool b) s') E) PySem.F.slot_list_contains.plain PySem.F.entry_list_contains (PySem.F.slot_list_contains.check _ _ _ _ _ _ _ _ hT (PySem.F.args_list_contains_2 _ _) ?_))) (fun v s' hv => ?_) fun _ _ e => e))
  · obtain ⟨hp, g, d, tk, os⟩ := s
    wp_walk using wpAny_loadPart' hl
    exact ⟨plainId_quiet plain_contains_loop _, has_loop (e := e) items.size 0 _ (Nat.zero_add _) hl he ⟨_, rfl, by simpa using h⟩⟩
  · obtain ⟨b, rfl, hq⟩ := hv
    exact wpAny_truthy_bool (wpAny_pure hq)
end
/-- all values are ints -/
def allI (kd : List (Key × V)) : Prop := ∀ p ∈ kd, ∃ i : Int, p.2 = .int i
def sameD (ka kb : List (Key × V)) : Bool := ka.length == kb.length && ka.all fun p => decide (valV kb p.1 = some p.2)
def eqP (H : Hp) (t : Int) (kd : List (Key × V)) (q : Addr) : Bool := match H q with
  | some (.tup [.int t', .ref d']) => (match H d' with
    | some (.dK kd') => t' == t && sameD kd' kd
    | _ => false)
  | _ => false
def rInP : R2 := fun x y H Q => ∃ p t d kd a, ∃ xs : List Addr, x = .ref p ∧ H p = some (.tup [.int t, .ref d]) ∧ H d = some (.dK kd) ∧ allI kd ∧ y = .ref a ∧ H a = some (.lst (xs.map V.ref)) ∧
  (∀ q ∈ xs, q ≠ p ∧ ∃ t' d' kd', H q = some (.tup [.int t', .ref d']) ∧ d' ≠ d ∧ H d' = some (.dK kd') ∧ allI kd' ∧ (kd'.map (·.1)).Nodup) ∧ Q (.bl (xs.any (eqP H t kd))) H
theorem valV_mem {κ : Type} [DecidableEq κ] : ∀ {kvs : List (κ × V)} {p : κ × V}, (kvs.map (·.1)).Nodup → p ∈ kvs → valV kvs p.1 = some p.2
  | q :: r, p, hn, hm => by
    rw [List.map_cons, List.nodup_cons] at hn
    rcases List.mem_cons.mp hm with rfl | hm
    · exact valV_pos rfl
    · rw [valV_neg fun e => hn.1 (by rw [e]; exact List.mem_map.mpr ⟨p, hm, rfl⟩)]
      exact valV_mem hn.2 hm
theorem valV_in {κ : Type} [DecidableEq κ] {kvs : List (κ × V)} {k : κ} {v : V} (h : valV kvs k = some v) : (k, v) ∈ kvs := by
  unfold valV at h
  obtain ⟨p, hp, e⟩ := Option.map_eq_some_iff.mp h
  have h1 := List.find?_some hp
  simp only [decide_eq_true_eq] at h1
  have := List.mem_of_find?_eq_some hp
  rw [← h1, ← e]
  exact this
theorem KV.mem {κ : Type} : ∀ {kvs : List (κ × V)} {vs : List (κ × Value)} {q : κ × Value}, KV kvs vs → q ∈ vs → ∃ p ∈ kvs, p.1 = q.1 ∧ RelV p.2 q.2
  | _, _, q, .cons h t, hm => by
    rcases List.mem_cons.mp hm with rfl | hm
    · exact ⟨_, List.mem_cons_self, h⟩
    · obtain ⟨p, h1, h2⟩ := KV.mem t hm
      exact ⟨p, List.mem_cons_of_mem _ h1, h2⟩
section
variable {X : Cx}
theorem dictTree {s : Shared} {H : Hp} {a b : Addr} {ka kb : List (Key × V)} (hok : HOk X.prog X.w H s.heap) (hne : a ≠ b) (ha : H a = some (.dK ka)) (hb : H b = some (.dK kb)) (ia : allI ka) (ib : allI kb) (nd : (ka.map (·.1)).Nodup) :
    PySem.W.EqTree X.prog X.w s 2 (.ref a) (.ref b) (sameD ka kb) := by
  obtain ⟨_, ya, va, ra, da⟩ := (show ObjOk X.prog X.w H s.heap a (.dK ka) from hok a _ ha)
  obtain ⟨_, yb, vb, rb, db⟩ := (show ObjOk X.prog X.w H s.heap b (.dK kb) from hok b _ hb)
  have tree := PySem.W.EqTree.dicts (prog := X.prog) (w := X.w) (s := s) (n := 1) (knd := mixKind X.prog X.w) (e := fun k => decide (valV ka k = valV kb k)) hne ya yb da db (fun k v y hm hv => ?_)
  · have el : va.length = ka.length := ra.length.symm
    have el2 : vb.length = kb.length := rb.length.symm
    have : (va.length == vb.length && va.all fun p => (valueAt vb p.1).isSome && decide (valV ka p.1 = valV kb p.1)) = sameD ka kb := by
      unfold sameD
      rw [el, el2]
      congr 1
      have key : ∀ (vs : List (Key × Value)) (ks : List (Key × V)), KV ks vs → (∀ p ∈ ks, p ∈ ka) → (vs.all fun p => (valueAt vb p.1).isSome && decide (valV ka p.1 = valV kb p.1)) = ks.all fun p => decide (valV kb p.1 = some p.2) := by
        intro vs ks r
        unfold KV at r
        induction r with
        | nil => intro _; rfl
        | @cons p q ps qs h t ih =>
          intro hp
          rw [List.all_cons, List.all_cons, ih fun z hz => hp z (List.mem_cons_of_mem _ hz)]
          congr 1
          obtain ⟨h1, h2⟩ := h
          rw [← h1]
          have hmem := hp p List.mem_cons_self
          have e1 : valV ka p.1 = some p.2 := valV_mem nd hmem
          have e2 : (valueAt vb p.1).isSome = (valV kb p.1).isSome := ((rb.val p.1).isSome_eq).symm
          rw [e2, e1]
          cases hz : valV kb p.1 with
          | none => simp
          | some z => simp [eq_comm]
      exact key va ka ra fun p hp => hp
    rw [this] at tree
    exact tree
  · obtain ⟨p, hp, e1, r1⟩ := KV.mem ra hm
    obtain ⟨i, ei⟩ := ia p hp
    simp only at e1 r1
    obtain ⟨z, hz, r2⟩ : ∃ z, valV kb k = some z ∧ RelV z y := by
      have := rb.val k
      rw [hv] at this
      cases hq : valV kb k with
      | none => rw [hq] at this; exact this.elim
      | some z => rw [hq] at this; exact ⟨z, rfl, this⟩
    obtain ⟨j, ej⟩ := ib _ (valV_in hz)
    simp only at ej
    subst ej
    have hka : valV ka k = some (.int i) := by rw [← e1, valV_mem nd hp, ei]
    rw [ei] at r1
    refine PySem.W.EqTree.leaf fun A hA => ?_
    have := eqAt_V (A := A) (s := s) r1 r2 rfl rfl
    have e3 : decide (valV ka k = valV kb k) = eqV (.int i) (.int j) := by
      rw [hka, hz]
      show decide (some (V.int i) = some (V.int j)) = (i == j)
      by_cases h : i = j
      · subst h; simp
      · simp [h]
    rw [e3]
    exact this
theorem pairTree {s : Shared} {H : Hp} {q p d' d : Addr} {t' t : Int} {kd' kd : List (Key × V)} (hok : HOk X.prog X.w H s.heap) (hne : q ≠ p) (hq : H q = some (.tup [.int t', .ref d'])) (hp : H p = some (.tup [.int t, .ref d])) (hd : d' ≠ d) (h1 : H d' = some (.dK kd')) (h2 : H d = some (.dK kd)) (i1 : allI kd') (i2 : allI kd) (nd : (kd'.map (·.1)).Nodup) :
    PySem.W.EqTree X.prog X.w s 3 (.ref q) (.ref p) (t' == t && sameD kd' kd) := by
  obtain ⟨_, its, rv, tq⟩ := hok q _ hq
  obtain ⟨_, its2, rv2, tp⟩ := hok p _ hp
  obtain ⟨u1, u2, rfl, w1, w2⟩ := Vals.two rv
  obtain ⟨v1, v2, rfl, x1, x2⟩ := Vals.two rv2
  obtain rfl : u2 = Value.ref d' := w2
  obtain rfl : v2 = Value.ref d := x2
  have tree := PySem.W.EqTree.tuples (prog := X.prog) (w := X.w) (s := s) (n := 2) (e := fun j => if j = 0 then t' == t else sameD kd' kd) hne tq tp (fun j hj1 hj2 => ?_)
  · have : ((List.range (min [u1, Value.ref d'].toArray.size [v1, Value.ref d].toArray.size)).all (fun j => if j = 0 then t' == t else sameD kd' kd) && [u1, Value.ref d'].toArray.size == [v1, Value.ref d].toArray.size) = (t' == t && sameD kd' kd) := by
      show ((List.range 2).all (fun j => if j = 0 then t' == t else sameD kd' kd) && true) = _
      simp [List.range_succ_eq_map, List.range_zero]
    rw [this] at tree
    exact tree
  · have hj : j = 0 ∨ j = 1 := by
      have : [u1, Value.ref d'].toArray.size = 2 := rfl
      omega
    rcases hj with rfl | rfl
    · exact PySem.W.EqTree.leaf fun A hA => eqAt_V (A := A) (s := s) w1 x1 rfl rfl
    · exact dictTree hok hd h1 h2 i1 i2 nd
theorem or_inP (hu : X.A.units + 64 < cLine) : OpR X (compareOp .In) rInP := by
  intro pins s σ H x y v u Q I rx ry h
  obtain ⟨p, t, d, kd, a, xs, rfl, hp, hd, ikd, rfl, ha, hxs, q⟩ := h
  obtain rfl : v = Value.ref p := rx
  obtain rfl : u = Value.ref a := ry
  obtain ⟨z, its, n, rv, e⟩ := I.hok a _ ha
  have eits : its = xs.map Value.ref := by
    clear hxs q ha z e
    revert its
    induction xs with
    | nil => intro its rv; cases rv; rfl
    | cons x xs ih =>
      intro its rv
      cases rv with
      | cons r t =>
        obtain rfl := r
        rw [ih _ t]
        rfl
  refine in_listIn (e := fun v => match v with | .ref q => eqP H t kd q | _ => false) e (fun y hy => ?_) ?_
  · have hy' : y ∈ its := by simpa using hy
    rw [eits] at hy'
    obtain ⟨q0, hq0, rfl⟩ := List.mem_map.mp hy'
    obtain ⟨hne, t', d', kd', g1, g2, g3, g4, g5⟩ := hxs q0 hq0
    have tr := pairTree I.hok hne g1 hp g2 g3 hd g4 ikd g5
    have ee : eqP H t kd q0 = (t' == t && sameD kd' kd) := by
      unfold eqP
      rw [g1]
      simp only
      rw [g3]
    show PySem.SeqAt.EqIn X.prog X.w X.A.in1 s (.ref q0) (.ref p) (eqP H t kd q0)
    rw [ee]
    exact tr.at X.A.in1 (by show X.A.units + 1 + 3 < cLine; omega)
  · have : (its.toArray.any fun v => match v with | .ref q => eqP H t kd q | _ => false) = xs.any (eqP H t kd) := by
      rw [eits]
      simp [List.any_map]
      rfl
    rw [this]
    exact ⟨.bl _, H, I, rfl, q⟩
end
end Ws
end
section
/-! zip(a, b, strict=True) of two lists of one length -/
namespace Ws
open PySem PySem.Spec PyProof.Rows L2 RZ
abbrev IsZipS (h : Heap) (z TI TO : Addr) (f0 : Value) : Prop :=
  h.get? z = some { cls := .type "zip", dict := none, data := .fields #[f0, .bool false, .bool true, .ref TI, .ref TO], slots := #[] }
section
variable {prog : Program} {w : World} {A : Around} {E : Value → Shared → Prop} {s : Shared}
theorem nextOrEnd_item {it l : Addr} {i : Nat} {items} {x : Value} {Q : Option Value → Shared → Prop} (hit : s.heap.IsListIter it l i)
    (hl : s.heap.IsList l items) (hx : items[i]? = some x)
    (hQ : ∀ h', h'.IsListIter it l (i + 1) → Heap.SameBut it s.heap h' → Q (some x) { s with heap := h' }) :
    wpAny (model prog w) A (Builtin.SmallTypes.nextOrEnd (.ref it)) Q E s := by
  unfold Builtin.SmallTypes.nextOrEnd
  exact wpAny_bind (wpAny_attempt (wpAny_nextOf_list_item hit hl hx fun h' a b => wpAny_pure (hQ h' a b)))
theorem nextOrEnd_end {it l : Addr} {i : Nat} {items} {Q : Option Value → Shared → Prop} (hh : A.handled = none) (hit : s.heap.IsListIter it l i)
    (hl : s.heap.IsList l items) (hx : items[i]? = none)
    (hQ : ∀ h', Heap.ExtBut it s.heap h' → Q none { s with heap := h' }) :
    wpAny (model prog w) A (Builtin.SmallTypes.nextOrEnd (.ref it)) Q E s := by
  unfold Builtin.SmallTypes.nextOrEnd
  refine wpAny_bind (wpAny_attempt (wpAny_nextOf_list_end hh hit hl hx fun h' e a b => ?_))
  obtain ⟨o, ho, hc⟩ := b
  refine wpAny_bind (wpAny_isInstance (T := "StopIteration") (b := true) ⟨o, ho, hc⟩ isSubtype_stop ?_)
  exact wpAny_pure (hQ _ a)
theorem zipS_next_item {z TI TO i1 i2 l1 l2 : Addr} {k1 k2 : Nat} {xs ys : Array Value} {x y a b : Value} {Q : Value → Shared → Prop} (D : ZipApart z TI TO i1 i2 l1 l2)
    (hz : IsZipS s.heap z TI TO .none) (hTI : IsPair s.heap TI (.ref i1) (.ref i2)) (hTO : IsPair s.heap TO a b)
    (h1 : s.heap.IsListIter i1 l1 k1) (h2 : s.heap.IsListIter i2 l2 k2) (hl1 : s.heap.IsList l1 xs) (hl2 : s.heap.IsList l2 ys) (hx : xs[k1]? = some x) (hy : ys[k2]? = some y)
    (hQ : ∀ h', IsZipS h' z TI TO (rawInt s.heap.objs.size) → IsPair h' TO x y → h'.IsListIter i1 l1 (k1 + 1) → h'.IsListIter i2 l2 (k2 + 1) → IsPair h' s.heap.objs.size x y → h'.objs.size = s.heap.objs.size + 1 →
      (∀ c o, c ≠ z → c ≠ TO → c ≠ i1 → c ≠ i2 → s.heap.get? c = some o → h'.get? c = some o) → Q (.ref s.heap.objs.size) { s with heap := h' }) :
    wpAny (model prog w) A (Builtin.«zip.__next__» ⟨[.ref z], []⟩) (fun fin s' => ∃ v, fin = .done (.ret v) ∧ Q v s') E s := by
  show wpAny _ _ (field (.ref z) 2 >>= _) _ _ _
  refine wpAny_bind (wpAny_field hz rfl (x := .bool true) rfl ?_)
  show wpAny _ _ (field (.ref z) 3 >>= _) _ _ _
  refine wpAny_bind (wpAny_field hz rfl (x := .ref TI) rfl ?_)
  refine wpAny_bind (wpAny_seqItems hTI rfl ?_)
  show wpAny _ _ (Builtin.SmallTypes.ownedTupleIsFree (.ref z) >>= _) _ _ _
  refine wpAny_bind ?_
  unfold Builtin.SmallTypes.ownedTupleIsFree
  refine wpAny_bind (wpAny_field hz rfl (x := .none) rfl (wpAny_pure ?_))
  simp only [if_true]
  refine wpAny_bind (wpAny_rule ?_)
  refine wpAny_bind (wpAny_field hz rfl (x := .ref TO) rfl ?_)
  refine wpAny_bind (wpAny_setField_rec hz (by simp) fun h₁ hz₁ hs₁ => ?_)
  replace hz₁ : IsZipS h₁ z TI TO .ellipsis := hz₁
  refine wpAny_bind ?_
  simp only [List.zipIdx_cons, List.zipIdx_nil, List.forIn_cons, List.forIn_nil]

  refine wpAny_bind (wpAny_bind (wpAny_onRaise ?_))
  show wpAny _ _ (Builtin.SmallTypes.nextOrEnd (.ref i1)) _ _ _
  refine nextOrEnd_item (h1.extBut hs₁.extBut D.i1z) (hl1.extBut hs₁.extBut D.l1z) hx fun h₂ h1₂ hs₂ => ?_
  have hTO₂ : IsPair h₂ TO a b := hs₂.extBut _ _ D.TOi1 (hs₁.extBut _ _ D.TOz hTO)
  refine wpAny_bind (wpAny_seqItems hTO₂ rfl ?_)
  refine wpAny_bind (wpAny_updateSeq_pair hTO₂ fun h₃ hTO₃ hs₃ => ?_)
  replace hTO₃ : IsPair h₃ TO x b := hTO₃
  refine wpAny_bind (wpAny_letGo (wpAny_pure ?_))

  refine wpAny_bind (wpAny_bind (wpAny_onRaise ?_))
  show wpAny _ _ (Builtin.SmallTypes.nextOrEnd (.ref i2)) _ _ _
  refine nextOrEnd_item (((h2.extBut hs₁.extBut D.i2z).extBut hs₂.extBut D.i12.symm).extBut hs₃.extBut D.TOi2.symm)
    (((hl2.extBut hs₁.extBut D.l2z).extBut hs₂.extBut D.l2i1).extBut hs₃.extBut D.l2TO) hy fun h₄ h2₄ hs₄ => ?_
  have hTO₄ : IsPair h₄ TO x b := hs₄.extBut _ _ D.TOi2 hTO₃
  refine wpAny_bind (wpAny_seqItems hTO₄ rfl ?_)
  refine wpAny_bind (wpAny_updateSeq_pair hTO₄ fun h₅ hTO₅ hs₅ => ?_)
  replace hTO₅ : IsPair h₅ TO x y := hTO₅
  refine wpAny_bind (wpAny_letGo (wpAny_pure (wpAny_pure ?_)))

  refine wpAny_bind (wpAny_seqItems hTO₅ rfl ?_)
  refine wpAny_bind (wpAny_newTuple ?_)
  have hsz : h₅.objs.size = s.heap.objs.size := by rw [hs₅.1, hs₄.1, hs₃.1, hs₂.1, hs₁.1]
  have hz₅ : IsZipS h₅ z TI TO .ellipsis := hs₅.extBut _ _ D.TOz.symm (hs₄.extBut _ _ D.i2z.symm (hs₃.extBut _ _ D.TOz.symm (hs₂.extBut _ _ D.i1z.symm hz₁)))
  have hk₅ : ∀ c o, c ≠ z → c ≠ TO → c ≠ i1 → c ≠ i2 → s.heap.get? c = some o → h₅.get? c = some o := fun c o c1 c2 c3 c4 e =>
    hs₅.extBut _ _ c2 (hs₄.extBut _ _ c4 (hs₃.extBut _ _ c2 (hs₂.extBut _ _ c3 (hs₁.extBut _ _ c1 e))))
  have h1₅ : h₅.IsListIter i1 l1 (k1 + 1) := ((h1₂.extBut hs₃.extBut D.TOi1.symm).extBut hs₄.extBut D.i12).extBut hs₅.extBut D.TOi1.symm
  have h2₅ : h₅.IsListIter i2 l2 (k2 + 1) := h2₄.extBut hs₅.extBut D.TOi2.symm
  have hzlt : z < h₅.objs.size := Heap.lt_size hz₅
  have hTOlt : TO < h₅.objs.size := Heap.lt_size hTO₅
  show wpAny _ _ (Builtin.SmallTypes.ownedTupleHandOut (.ref z) (.ref h₅.objs.size) >>= _) _ _ _
  refine wpAny_bind ?_
  unfold Builtin.SmallTypes.ownedTupleHandOut
  have hz₆ : IsZipS (h₅.push { cls := .type "tuple", data := .seq #[x, y] }) z TI TO .ellipsis := Heap.get?_push_of_some _ hz₅
  refine wpAny_bind (wpAny_setField_rec hz₆ (by simp) fun h₇ hz₇ hs₇ => ?_)
  replace hz₇ : IsZipS h₇ z TI TO (rawInt h₅.objs.size) := hz₇
  refine wpAny_setField_rec hz₇ (by simp) fun h₈ hz₈ hs₈ => ?_
  replace hz₈ : IsZipS h₈ z TI TO (rawInt h₅.objs.size) := hz₈
  have up : ∀ c o, c ≠ z → h₅.get? c = some o → h₈.get? c = some o := fun c o c1 e => hs₈.extBut _ _ c1 (hs₇.extBut _ _ c1 (Heap.get?_push_of_some _ e))
  have hT₈ : IsPair h₈ h₅.objs.size x y := hs₈.extBut _ _ (Nat.ne_of_gt hzlt) (hs₇.extBut _ _ (Nat.ne_of_gt hzlt) (Heap.get?_push_size _ rfl))
  have hz8 : h₈.objs.size = h₅.objs.size + 1 := by rw [hs₈.1, hs₇.1, Heap.size_push]
  rw [hsz] at hz₈ hT₈ hz8
  refine wpAny_pure ⟨_, rfl, ?_⟩
  show Q (.ref h₅.objs.size) _
  rw [hsz]
  exact hQ h₈ hz₈ (up _ _ D.TOz hTO₅) (h1₅.at fun o e => up _ o D.i1z e) (h2₅.at fun o e => up _ o D.i2z e) hT₈ hz8 fun c o c1 c2 c3 c4 e => up c o c1 (hk₅ c o c1 c2 c3 c4 e)

theorem zipS_next_end {z TI TO i1 i2 l1 l2 : Addr} {k1 k2 : Nat} {xs ys : Array Value} {a b : Value} {Q : PySem.Fin → Shared → Prop} (hh : A.handled = none) (D : ZipApart z TI TO i1 i2 l1 l2)
    (hz : IsZipS s.heap z TI TO .none) (hTI : IsPair s.heap TI (.ref i1) (.ref i2)) (hTO : IsPair s.heap TO a b)
    (h1 : s.heap.IsListIter i1 l1 k1) (h2 : s.heap.IsListIter i2 l2 k2) (hl1 : s.heap.IsList l1 xs) (hl2 : s.heap.IsList l2 ys) (hx : xs[k1]? = none) (hy : ys[k2]? = none)
    (hE : ∀ h' e, (∀ c o, c ≠ z → c ≠ TO → c ≠ i1 → c ≠ i2 → s.heap.get? c = some o → h'.get? c = some o) → (∃ o, h'.get? e = some o ∧ o.cls = .type "StopIteration") → E (.ref e) { s with heap := h' }) :
    wpAny (model prog w) A (Builtin.«zip.__next__» ⟨[.ref z], []⟩) Q E s := by
  show wpAny _ _ (field (.ref z) 2 >>= _) _ _ _
  refine wpAny_bind (wpAny_field hz rfl (x := .bool true) rfl ?_)
  show wpAny _ _ (field (.ref z) 3 >>= _) _ _ _
  refine wpAny_bind (wpAny_field hz rfl (x := .ref TI) rfl ?_)
  refine wpAny_bind (wpAny_seqItems hTI rfl ?_)
  show wpAny _ _ (Builtin.SmallTypes.ownedTupleIsFree (.ref z) >>= _) _ _ _
  refine wpAny_bind ?_
  unfold Builtin.SmallTypes.ownedTupleIsFree
  refine wpAny_bind (wpAny_field hz rfl (x := .none) rfl (wpAny_pure ?_))
  simp only [if_true]
  refine wpAny_bind (wpAny_rule ?_)
  refine wpAny_bind (wpAny_field hz rfl (x := .ref TO) rfl ?_)
  refine wpAny_bind (wpAny_setField_rec hz (by simp) fun h₁ hz₁ hs₁ => ?_)
  replace hz₁ : IsZipS h₁ z TI TO .ellipsis := hz₁
  refine wpAny_bind ?_
  simp only [List.zipIdx_cons, List.zipIdx_nil, List.forIn_cons, List.forIn_nil]
  refine wpAny_bind (wpAny_bind (wpAny_onRaise ?_))
  show wpAny _ _ (Builtin.SmallTypes.nextOrEnd (.ref i1)) _ _ _
  refine nextOrEnd_end hh (h1.extBut hs₁.extBut D.i1z) (hl1.extBut hs₁.extBut D.l1z) hx fun h₂ hs₂ => ?_
  have hz₂ : IsZipS h₂ z TI TO .ellipsis := hs₂ _ _ D.i1z.symm hz₁
  refine wpAny_bind (wpAny_setField_rec hz₂ (by simp) fun h₃ hz₃ hs₃ => ?_)
  refine wpAny_bind ?_
  show wpAny _ _ (forIn (([Value.ref i1, .ref i2].drop 1).zipIdx 1) PUnit.unit _ >>= _) _ _ _
  simp only [List.drop_succ_cons, List.drop_zero, List.zipIdx_cons, List.zipIdx_nil, List.forIn_cons, List.forIn_nil]
  refine wpAny_bind (wpAny_bind (wpAny_bind ?_))
  replace hz₃ : IsZipS h₃ z TI TO .none := hz₃
  refine nextOrEnd_end hh ((h2.extBut hs₁.extBut D.i2z).at fun o e => hs₃.extBut _ _ D.i2z (hs₂ _ _ D.i12.symm e)) ((hl2.extBut hs₁.extBut D.l2z).at fun o e => hs₃.extBut _ _ D.l2z (hs₂ _ _ D.l2i1 e)) hy fun h₄ hs₄ => ?_
  refine wpAny_pure (wpAny_pure (wpAny_bind (wpAny_rule ?_)))
  show wpAny _ _ (newExc (.type "StopIteration") [] >>= _) _ _ _
  refine wpAny_bind ?_
  simp only [newExc, newTuple]
  refine wpAny_bind (wpAny_newObj_type ?_ (by size_fits))
  refine wpAny_bind (m := firstArgMember _ _) (wpAny_of_eq (a := Value.none) (by first | rfl | (simp only [firstArgMember]; rfl)) ?_)
  refine wpAny_newObj_type ?_ (by size_fits)
  simp only [raiseNew]
  refine wpAny_bind (wpAny_handled ?_)
  first | rw [show A.in1.handled = none from hh] | rw [hh]
  refine wpAny_bind (wpAny_pure (wpAny_throw ?_))
  exact hE _ _ (fun c o c1 _ c3 c4 x => Heap.get?_push_of_some _ (Heap.get?_push_of_some _ (hs₄ _ _ c4 (hs₃.extBut _ _ c1 (hs₂ _ _ c3 (hs₁.extBut _ _ c1 x)))))) ⟨_, Heap.get?_push_size _ rfl, rfl⟩
theorem pyNext_zipS_item {z TI TO i1 i2 l1 l2 : Addr} {k1 k2 : Nat} {xs ys : Array Value} {x y a b : Value} {Q : Option Value → Shared → Prop} (D : ZipApart z TI TO i1 i2 l1 l2)
    (hz : IsZipS s.heap z TI TO .none) (hTI : IsPair s.heap TI (.ref i1) (.ref i2)) (hTO : IsPair s.heap TO a b)
    (h1 : s.heap.IsListIter i1 l1 k1) (h2 : s.heap.IsListIter i2 l2 k2) (hl1 : s.heap.IsList l1 xs) (hl2 : s.heap.IsList l2 ys) (hx : xs[k1]? = some x) (hy : ys[k2]? = some y)
    (hQ : ∀ h', IsZipS h' z TI TO (rawInt s.heap.objs.size) → IsPair h' TO x y → h'.IsListIter i1 l1 (k1 + 1) → h'.IsListIter i2 l2 (k2 + 1) → IsPair h' s.heap.objs.size x y → h'.objs.size = s.heap.objs.size + 1 →
      (∀ c o, c ≠ z → c ≠ TO → c ≠ i1 → c ≠ i2 → s.heap.get? c = some o → h'.get? c = some o) → Q (some (.ref s.heap.objs.size)) { s with heap := h' }) :
    wpAny (model prog w) A (pyNext (.ref z)) Q E s := by
  have hT : s.TypeIs (.ref z) "zip" := ⟨_, hz, rfl⟩
  unfold pyNext
  exact wpAny_bind (wpAny_attempt (wpAny_callSpecial?_slot (name := Str.ofString "__next__") hT F.slot_zip_next
    (wpAny_call_entry F.slot_zip_next hT F.entry_zip_next
      (zipS_next_item D hz hTI hTO h1 h2 hl1 hl2 hx hy fun h' a1 a2 a3 a4 a5 a6 a7 => wpAny_pure (hQ h' a1 a2 a3 a4 a5 a6 a7)) (F.args_zip_next_1 _))))
theorem pyNext_zipS_end {z TI TO i1 i2 l1 l2 : Addr} {k1 k2 : Nat} {xs ys : Array Value} {a b : Value} {Q : Option Value → Shared → Prop} (hh : A.handled = none) (D : ZipApart z TI TO i1 i2 l1 l2)
    (hz : IsZipS s.heap z TI TO .none) (hTI : IsPair s.heap TI (.ref i1) (.ref i2)) (hTO : IsPair s.heap TO a b)
    (h1 : s.heap.IsListIter i1 l1 k1) (h2 : s.heap.IsListIter i2 l2 k2) (hl1 : s.heap.IsList l1 xs) (hl2 : s.heap.IsList l2 ys) (hx : xs[k1]? = none) (hy : ys[k2]? = none)
    (hQ : ∀ h', (∀ c o, c ≠ z → c ≠ TO → c ≠ i1 → c ≠ i2 → s.heap.get? c = some o → h'.get? c = some o) → Q none { s with heap := h' }) : wpAny (model prog w) A (pyNext (.ref z)) Q E s := by
  have hT : s.TypeIs (.ref z) "zip" := ⟨_, hz, rfl⟩
  unfold pyNext
  refine wpAny_bind (wpAny_attempt (wpAny_callSpecial?_slot (name := Str.ofString "__next__") hT F.slot_zip_next
    (wpAny_call_entry F.slot_zip_next hT F.entry_zip_next (zipS_next_end hh D hz hTI hTO h1 h2 hl1 hl2 hx hy fun h' e hk he => ?_) (F.args_zip_next_1 _))))
  obtain ⟨o, ho, hc⟩ := he
  refine wpAny_bind (wpAny_isInstance (T := "StopIteration") (b := true) ⟨o, ho, hc⟩ isSubtype_stop ?_)
  exact wpAny_pure (hQ _ hk)
theorem letOwnedTupleGo_zipS {elts : List Expr} {x1} {pos : Pos} {z TI TO T : Addr} {Q : Unit → Shared → Prop} (hz : IsZipS s.heap z TI TO (rawInt T))
    (hQ : ∀ h', IsZipS h' z TI TO .none → Heap.SameBut z s.heap h' → Q () { s with heap := h' }) :
    wpAny (model prog w) A (letOwnedTupleGo (.Tuple elts x1 pos) (.ref z) (.ref T)) Q E s := by
  unfold letOwnedTupleGo
  refine wpAny_bind (wpAny_load hz ?_)
  show wpAny _ _ (if (["enumerate", "zip", "dict_itemiterator", "dict_reverseitemiterator", "odict_iterator", "itertools.zip_longest", "itertools.pairwise"].contains "zip" &&
      (#[rawInt T, .bool false, .bool true, .ref TI, .ref TO] : Array Value)[0]? == some (rawInt T)) = true then _ else _) Q E s
  rw [if_pos (by simp)]
  refine wpAny_bind (wpAny_rule ?_)
  show wpAny _ _ (setField (.ref z) 0 .none) Q E s
  exact wpAny_setField_rec hz (by simp) fun h' hz' hs' => hQ h' hz' hs'
theorem pyIter_zipS {z TI TO : Addr} {f0 : Value} {Q : Value → Shared → Prop} (hz : IsZipS s.heap z TI TO f0) (h : Q (.ref z) s) : wpAny (model prog w) A (pyIter (.ref z)) Q E s := by
  have hT : s.TypeIs (.ref z) "zip" := ⟨_, hz, rfl⟩
  refine wpAny_pyIter_slot hT F.slot_zip_iter (wpAny_call_entry F.slot_zip_iter hT F.entry_zip_iter ?_ (F.args_zip_iter_1 _))
  show wpAny _ _ (ret (.ref z)) _ _ s
  exact wpAny_pure ⟨_, rfl, "zip", _, hT, F.slot_zip_next.lookup, h⟩
abbrev zipHS (h : Heap) (l1 l2 : Addr) : Heap := (zipH4 h l1 l2).push { cls := .type "zip", data := .fields #[.none, .bool false, .bool true, .ref (zipH2 h l1 l2).objs.size, .ref (zipH3 h l1 l2).objs.size] }
theorem typeCall_zipS (a b c : Value) : checkTypeCall "zip" ⟨[a, b], [(Str.ofString "strict", c)]⟩ = pure () := by kernel_rfl
theorem newCall_zipS (a b c : Value) : checkBuiltinCall "zip.__new__" ⟨[.type "zip", a, b], [(Str.ofString "strict", c)]⟩ = pure () := by kernel_rfl
theorem args_object_zipS (obj a b c : Value) : argsOk "object.__init__" ⟨[obj, a, b], [(Str.ofString "strict", c)]⟩ := by unfold argsOk; kernel_rfl
theorem meets_zipS_new (l1 l2 : Addr) (xs ys : Array Value) :
    Meets (Builtin.«zip.__new__» ⟨[.type "zip", .ref l1, .ref l2], [(Str.ofString "strict", .bool true)]⟩) (fun _ R s => s.heap.IsList l1 xs ∧ s.heap.IsList l2 ys ∧
      R (.ok (.ret (.ref (zipH4 s.heap l1 l2).objs.size))) { s with heap := zipHS s.heap l1 l2 }) :=
  .of_wp fun prog w A R s h => by
    obtain ⟨hp, g, d, tk, os⟩ := s; obtain ⟨hl1, hl2, h⟩ := h
    have hsub := sub_zip
    have hL1 : Heap.IsList (Shared.heap ⟨hp, g, d, tk, os⟩) l1 xs := hl1
    have hL2 : Heap.IsList (Shared.heap ⟨hp.push { cls := .type "list_iterator", data := .fields #[.ref l1, .int 0 0] }, g, d, tk, os⟩) l2 ys := Heap.IsList.push hl2 _
    have e1 : (Str.ofString "strict" != ("strict" : Str)) = false := by decide +kernel
    wp_walk using wpAny_pyIter_list hL1, wpAny_pyIter_list hL2
    exact ⟨_, rfl, h⟩

theorem call_zipS {l1 l2 : Addr} {xs ys : Array Value} {Q : Value → Shared → Prop} (hl1 : s.heap.IsList l1 xs) (hl2 : s.heap.IsList l2 ys)
    (h : ∀ h', IsZipS h' (s.heap.objs.size + 4) (s.heap.objs.size + 2) (s.heap.objs.size + 3) .none → IsPair h' (s.heap.objs.size + 2) (.ref s.heap.objs.size) (.ref (s.heap.objs.size + 1)) →
      IsPair h' (s.heap.objs.size + 3) .none .none → h'.IsListIter s.heap.objs.size l1 0 → h'.IsListIter (s.heap.objs.size + 1) l2 0 → h'.objs.size = s.heap.objs.size + 5 →
      (∀ c o, s.heap.get? c = some o → h'.get? c = some o) → Q (.ref (s.heap.objs.size + 4)) { s with heap := h' }) :
    wpAny (model prog w) A (call (.type "zip") [.ref l1, .ref l2] [(Str.ofString "strict", .bool true)]) Q E s := by
  refine callType_newKw F.called_zip (by decide) (typeCall_zipS _ _ _) (newCall_zipS _ _ _) (fun obj => args_object_zipS obj _ _ _) F.entry_zip_new
    (meets_zipS_new l1 l2 xs ys) ⟨hl1, hl2, ?_⟩
  have z1 : (zipH1 s.heap l1).objs.size = s.heap.objs.size + 1 := Heap.size_push ..
  have z2 : (zipH2 s.heap l1 l2).objs.size = s.heap.objs.size + 2 := by rw [Heap.size_push, z1]
  have z3 : (zipH3 s.heap l1 l2).objs.size = s.heap.objs.size + 3 := by rw [Heap.size_push, z2]
  have z4 : (zipH4 s.heap l1 l2).objs.size = s.heap.objs.size + 4 := by rw [Heap.size_push, z3]
  have z5 : (zipHS s.heap l1 l2).objs.size = s.heap.objs.size + 5 := by rw [Heap.size_push, z4]
  have g5 : (zipHS s.heap l1 l2).get? (zipH4 s.heap l1 l2).objs.size = some _ := Heap.get?_push_size _ rfl
  have g4 : (zipHS s.heap l1 l2).get? (zipH3 s.heap l1 l2).objs.size = some _ := Heap.get?_push_of_some _ (Heap.get?_push_size _ rfl)
  have g3 : (zipHS s.heap l1 l2).get? (zipH2 s.heap l1 l2).objs.size = some _ := Heap.get?_push_of_some _ (Heap.get?_push_of_some _ (Heap.get?_push_size _ rfl))
  have g2 : (zipHS s.heap l1 l2).get? (zipH1 s.heap l1).objs.size = some _ := Heap.get?_push_of_some _ (Heap.get?_push_of_some _ (Heap.get?_push_of_some _ (Heap.get?_push_size _ rfl)))
  have g1 : (zipHS s.heap l1 l2).get? s.heap.objs.size = some _ := Heap.get?_push_of_some _ (Heap.get?_push_of_some _ (Heap.get?_push_of_some _ (Heap.get?_push_of_some _ (Heap.get?_push_size _ rfl))))
  show _ ∧ _
  rw [z2, z3, z4] at g5
  rw [z1, z2] at g3
  rw [z3] at g4
  rw [z1] at g2
  rw [z4]
  exact ⟨⟨_, g5, rfl⟩, h _ g5 g3 g4 ⟨_, g1, rfl, rfl⟩ ⟨_, g2, rfl, rfl⟩ z5 fun c o x =>
    Heap.get?_push_of_some _ (Heap.get?_push_of_some _ (Heap.get?_push_of_some _ (Heap.get?_push_of_some _ (Heap.get?_push_of_some _ x))))⟩
end

end Ws
end
section
namespace Ws
open PySem PySem.Spec PyProof.Rows L2 RZ
/-- the lists at a and b as they stand at each turn, the items in new pairs; both end at once -/
def ItzS (K : PySem.W.Frag) (a b : Addr) : It :=
  ⟨fun i H => ∃ (xs ys : List V) (x y : V), SqL K H a xs ∧ SqL K H b ys ∧ xs[i]? = some x ∧ ys[i]? = some y,
    fun i H v H' => ∃ T x y, v = .ref T ∧ H T = none ∧ H' = upd H T (.tup [x, y]) ∧ (∀ xs, SqL K H a xs → xs[i]? = some x) ∧ ∀ ys, SqL K H b ys → ys[i]? = some y,
    fun i H => ∃ xs ys : List V, SqL K H a xs ∧ SqL K H b ys ∧ xs.length ≤ i ∧ ys.length ≤ i⟩
theorem turn_zipS {P : Program} {w : World} {K : PySem.W.Frag} {elts : List Expr} {kk : Nat} {tpos : Pos} {a b z TI TO i1 i2 : Addr} (D : ZipApart z TI TO i1 i2 a b) :
    Turn P w K (.Tuple elts kk tpos) (ItzS K a b) [z, TI, TO, i1, i2] z (fun i h => IsZipS h z TI TO .none ∧ IsPair h TI (.ref i1) (.ref i2) ∧ (∃ x y, IsPair h TO x y) ∧ h.IsListIter i1 a i ∧ h.IsListIter i2 b i) where
  mem := by simp
  obj := fun i h st c hc => by
    obtain ⟨hz, hTI, ⟨x, y, hTO⟩, ⟨o1, e1, _, d1⟩, ⟨o2, e2, _, d2⟩⟩ := st
    have e' : c = z ∨ c = TI ∨ c = TO ∨ c = i1 ∨ c = i2 := by simpa using hc
    rcases e' with q | q | q | q | q
    · rw [q]; exact ⟨_, hz, fun v q => nomatch q⟩
    · rw [q]; exact ⟨_, hTI, fun v q => nomatch q⟩
    · rw [q]; exact ⟨_, hTO, fun v q => nomatch q⟩
    · rw [q]; exact ⟨o1, e1, fun v q => by rw [d1] at q; cases q⟩
    · rw [q]; exact ⟨o2, e2, fun v q => by rw [d2] at q; cases q⟩
  keep := fun i h h' st k => by
    obtain ⟨hz, hTI, ⟨x, y, hTO⟩, h1, h2⟩ := st
    exact ⟨k z (by simp) _ hz, k TI (by simp) _ hTI, ⟨x, y, k TO (by simp) _ hTO⟩, h1.at fun o q => k i1 (by simp) o q, h2.at fun o q => k i2 (by simp) o q⟩
  item := by
    intro X hP hw hK hc i pins s σ H E I hf st hg
    subst hP hw hK
    obtain ⟨hz, hTI, ⟨x0, y0, hTO⟩, h1, h2⟩ := st
    obtain ⟨xs, ys, x, y, hqx, hqy, hx, hy⟩ := hg
    obtain ⟨its, rv, p, _⟩ := I.list hqx
    obtain ⟨its2, rv2, p2, _⟩ := I.list hqy
    obtain ⟨u, hu, ru⟩ := rv.get hx
    obtain ⟨u2, hu2, ru2⟩ := rv2.get hy
    have hzl : z < s.heap.objs.size := Heap.lt_size hz
    refine pyNext_zipS_item D hz hTI hTO h1 h2 p.isList p2.isList (x := u) (y := u2) (by simpa using hu) (by simpa using hu2) fun h' z' TO' h1' h2' hT hsz hk => ?_
    refine ⟨_, rfl, letOwnedTupleGo_zipS (s := { s with heap := h' }) z' fun h'' z'' sb => ?_⟩
    have hT2 : h''.get? s.heap.objs.size = some { cls := .type "tuple", data := .seq #[u, u2] } := (sb.2 _ (Nat.ne_of_gt hzl)).trans hT
    have new : ObjOk X.prog X.w (upd H s.heap.objs.size (.tup [x, y])) h'' s.heap.objs.size (.tup [x, y]) :=
      ⟨by show 2 ≤ sizeLine; decide, [u, u2], .cons ru (.cons ru2 .nil), ⟨_, hT2, rfl, _, rfl⟩⟩
    have I1 : Inv X pins σ (upd H s.heap.objs.size (.tup [x, y])) { s with heap := h'' } :=
      I.turnedNew (t' := s.toks) (ch := [z, TI, TO, i1, i2]) (fun c o hb q => (sb.2 c (fun q' => hb (by simp [q']))).trans (hk c o (fun q' => hb (by simp [q'])) (fun q' => hb (by simp [q'])) (fun q' => hb (by simp [q'])) (fun q' => hb (by simp [q'])) q)) hf (Nat.le_refl _) new
    refine ⟨.ref s.heap.objs.size, _, I1, rfl, ⟨_, x, y, rfl, I.hok.fresh (Nat.le_refl _), rfl, fun l hl => by rw [I.list_inj hl hqx]; exact hx, fun l hl => by rw [I.list_inj hl hqy]; exact hy⟩, ⟨z'', ?_, ⟨u, u2, ?_⟩, ?_, ?_⟩, fun c hcm => ?_⟩
    · exact (sb.2 _ D.TIz).trans (hk _ _ D.TIz D.TITO D.TIi1 D.TIi2 hTI)
    · exact (sb.2 _ D.TOz).trans TO'
    · exact h1'.at fun o q => (sb.2 _ D.i1z).trans q
    · exact h2'.at fun o q => (sb.2 _ D.i2z).trans q
    · have hlt : c < s.heap.objs.size := by
        have e' : c = z ∨ c = TI ∨ c = TO ∨ c = i1 ∨ c = i2 := by simpa using hcm
        rcases e' with q | q | q | q | q
        · rw [q]; exact hzl
        · rw [q]; exact Heap.lt_size hTI
        · rw [q]; exact Heap.lt_size hTO
        · rw [q]; obtain ⟨_, e1, _⟩ := h1; exact Heap.lt_size e1
        · rw [q]; obtain ⟨_, e2, _⟩ := h2; exact Heap.lt_size e2
      rw [upd_ne (Nat.ne_of_lt hlt)]
      exact (hf c hcm).1
  done := by
    intro X hP hw hK hc i pins s σ H E I hf st hg
    subst hP hw hK
    obtain ⟨hz, hTI, ⟨x0, y0, hTO⟩, h1, h2⟩ := st
    obtain ⟨xs, ys, hqx, hqy, e1, e2⟩ := hg
    obtain ⟨its, rv, p, _⟩ := I.list hqx
    obtain ⟨its2, rv2, p2, _⟩ := I.list hqy
    have l1 := rv.length
    have l2 := rv2.length
    exact pyNext_zipS_end (I.ok.hd hc) D hz hTI hTO h1 h2 p.isList p2.isList (by simp; omega) (by simp; omega) fun h' hk => ⟨rfl, I.turnedL (t' := s.toks) (ch := [z, TI, TO, i1, i2]) (fun c o hb q =>
      hk c o (fun q' => hb (by simp [q'])) (fun q' => hb (by simp [q'])) (fun q' => hb (by simp [q'])) (fun q' => hb (by simp [q'])) q) hf⟩
  self := fun A i s Q E st h => pyIter_zipS st.1 h
section
variable {M : Model} {A : Around} {E : Value → Shared → Prop} {s : Shared} {env : Env}
theorem callWith_typeKw {pos : Pos} {T : String} {e : Expr} {rest : List Expr} {kws : List Keyword} {Q : Value → Shared → Prop}
    (h : wpAny M A (spliced (backTo pos (starEach (e :: rest) env))) (fun vs s₁ => wpAny M A (evalAll ((backToKw pos (keywordEach kws env)).map (·.2)))
      (fun kvs s₂ => wpAny M A (call (.type T) vs (((backToKw pos (keywordEach kws env)).filterMap (·.1)).zip kvs)) Q E s₂) E s₁) E s)
    (he : backTo pos (starEach (e :: rest) env) = (false, eval e env) :: backTo pos (starEach rest env))
    (hplain : (backTo pos (starEach (e :: rest) env)).any (·.1) = false)
    (hall : (backToKw pos (keywordEach kws env)).all (·.1.isSome) = true)
    (hkw : (backToKw pos (keywordEach kws env)).any (·.1.isNone) = false) :
    wpAny M A (callWith pos (.type T) [] (backTo pos (starEach (e :: rest) env)) (backToKw pos (keywordEach kws env))) Q E s := by
  unfold callWith
  refine wpAny_bind (wpAny_holding (wpAny_mono (Q := fun a s₁ => wpAny M A (call (.type T) ([] ++ a.pos) a.kw) Q E s₁) (E := E) ?_ (fun a s₁ h₁ => wpAny_bind (wpAny_standAt ?_)) fun _ _ x => x))
  · rw [he] at h ⊢
    exact PyProof.Rows.evalArgs_kwB hall h
  · simp only [hplain, hkw, Bool.or_false]
    refine wpAny_bind (wpAny_pure ?_)
    exact wpAny_bind (wpAny_mono h₁ (fun r s₂ hr => wpAny_bind (wpAny_holding (wpAny_point (wpAny_pure hr)))) fun _ _ x => x)
end
def iZipS (K : PySem.W.Frag) (ta tk : TA) : L2.TI := fun σ H R => ta σ H fun vs H0 => tk σ H0 fun zs H1 => ∃ a b xs ys, vs = [.ref a, .ref b] ∧ zs = [.bl true] ∧ SqL K H1 a xs ∧ SqL K H1 b ys ∧ R (ItzS K a b) H1
theorem pi_zipS {X : Cx} {e e2 : Expr} {ta tk : TA} {x : Str} {p pos tpos : Pos} {kws : List Keyword} {elts : List Expr} {kk : Nat} (hg : Gl X x) (hm : X.mg x = none) (hv : bootBuiltins x = some (.type "zip") := by first | rfl | exact PyProof.Rows.boot_zip) (ha : PA X [e, e2] ta) (hk : PK X kws tk) (hn : x ≠ "__name__" := by decide) (hdb : (x == ("__debug__" : Str)) = false := by decide)
    (hs : backTo pos (starEach [e, e2] X.env) = (false, eval e X.env) :: backTo pos (starEach [e2] X.env) := by rfl) (hpl : (backTo pos (starEach [e, e2] X.env)).any (·.1) = false := by rfl)
    (hall : (backToKw pos (keywordEach kws X.env)).all (·.1.isSome) = true := by rfl) (hnone : (backToKw pos (keywordEach kws X.env)).any (·.1.isNone) = false := by rfl)
    (hks : (backToKw pos (keywordEach kws X.env)).filterMap (·.1) = [Str.ofString "strict"] := by rfl) :
    PI X (.Tuple elts kk tpos) (.Call (.Name x p) [e, e2] kws pos) (iZipS X.K ta tk) := by
  refine ⟨fun pins s σ H R I h => ?_⟩
  refine wpAny_Call_Name_kw (ld_blt I hg hm hv ?_ hn hdb)
  refine callWith_typeKw (thn (ha.run pos pins s σ H _ I h) fun us s1 ⟨vs, H1, I1, r1, q1⟩ => thn (hk.run pos pins s1 σ H1 _ I1 q1) fun ws s2 ⟨zs, H2, I2, r2, q2⟩ => ?_) hs hpl hall hnone
  rw [hks]
  obtain ⟨a, b, xs, ys, rfl, rfl, hqx, hqy, q⟩ := q2
  obtain ⟨u, rfl, ru⟩ := vals1 r2
  cases ru
  obtain ⟨u1, u2, rfl, ra, rb⟩ := vals2 r1
  cases ra
  cases rb
  have fresh5 : ∀ c, c ∈ [s2.heap.objs.size + 4, s2.heap.objs.size + 2, s2.heap.objs.size + 3, s2.heap.objs.size, s2.heap.objs.size + 1] → FpOk X pins H2 c := fun c hcm => by
    have e' : c = s2.heap.objs.size + 4 ∨ c = s2.heap.objs.size + 2 ∨ c = s2.heap.objs.size + 3 ∨ c = s2.heap.objs.size ∨ c = s2.heap.objs.size + 1 := by simpa using hcm
    have hle : s2.heap.objs.size ≤ c := by
      rcases e' with z | z | z | z | z
      · rw [z]; exact Nat.le_add_right _ _
      · rw [z]; exact Nat.le_add_right _ _
      · rw [z]; exact Nat.le_add_right _ _
      · rw [z]; exact Nat.le_refl _
      · rw [z]; exact Nat.le_add_right _ _
    exact I2.fpOk hle (I2.hok.fresh hle)
  obtain ⟨its, rv, p1, _⟩ := I2.list hqx
  obtain ⟨its2, rv2, p2, _⟩ := I2.list hqy
  refine call_zipS p1.isList p2.isList fun h' hz hTI hTO h1 h2 hsz hk => pyIter_zipS hz ?_
  have I3 : Inv X pins σ H2 { s2 with heap := h' } := I2.kept (t' := s2.toks) hk
  exact ⟨s2.heap.objs.size + 4, [s2.heap.objs.size + 4, s2.heap.objs.size + 2, s2.heap.objs.size + 3, s2.heap.objs.size, s2.heap.objs.size + 1], _, _, H2, rfl, I3, turn_zipS (PySem.W.ktu_apart s2.heap.objs.size a b p1.lt p2.lt), ⟨hz, hTI, ⟨_, _, hTO⟩, h1, h2⟩, fresh5, q⟩
end Ws
end
section
namespace Ws
open PySem PySem.Spec PyProof.Rows L2 RZ
theorem keyIs_relV {k : Key} {v : Value} (h : keyIs k v = true) : RelV (kV k) v := relV_key h
/-- *d in a list display, d a dict whose keys are ints and texts -/
def tStarD (te : TE) (t : TA) : TA := fun σ H Q => te σ H fun x H1 => ∃ p kvs, x = V.ref p ∧ H1 p = some (.dK kvs) ∧ t σ H1 fun ys H2 => Q (kvs.map (fun kv => kV kv.1) ++ ys) H2
theorem pa_starD {X : Cx} {e : Expr} {es : List Expr} {te : TE} {t : TA} {p : Pos} (hc : X.calm = true) (he : PE X e te) (hr : PA X es t) (hs : starEach (.Starred e p :: es) X.env = (true, eval e X.env) :: starEach es X.env := by rfl) : PA X (.Starred e p :: es) (tStarD te t) := by
  refine ⟨fun pos pins s σ H Q I h => ?_⟩
  refine PySem.W.items_star (thn (he.run pins s σ H _ I h) fun v s1 ⟨y, H1, I1, ry, a, kvs, ey, hx, q⟩ => ?_) hs
  subst ey
  obtain rfl : v = Value.ref a := ry
  obtain ⟨z, lo, vs, rk, hd⟩ := (show ObjOk X.prog X.w H1 s1.heap a (.dK kvs) from I1.hok a _ hx)
  obtain ⟨ep, hat⟩ := hd.dictAt
  have hl : kvs.length = vs.length := Paired.length rk
  have hT : s1.TypeIs (.ref a) "dict" := (PySem.W.kdl_dict (prog := X.prog) (w := X.w) (knd := mixKind X.prog X.w) (kvs := vs) (ep := ep) lo).type s1 hat
  have col : wpAny (model X.prog X.w) X.A (collect (.ref a)) (fun us s' => Inv X pins σ H1 s' ∧ Vals (kvs.map fun kv => kV kv.1) us) X.xe s1 := by
    refine PySem.W.kdu_collect (PySem.W.kdl_dict (knd := mixKind X.prog X.w) (kvs := vs) (ep := ep) lo) (I1.ok.hd hc) hat (by rw [← hl]; exact z) fun h' tk acc hkeep hacc => ⟨I1.kept hkeep, ?_⟩
    have el : acc.toList.length = acc.size := by simp
    refine vals_of_at (by rw [List.length_map, el, hacc.1, hl]) fun j x w h1 h2 => ?_
    obtain ⟨k, y, hky, hi⟩ := hacc.2 j w (by rw [← Array.getElem?_toList]; exact h2)
    have e1 : (kvs.map (·.1))[j]? = some k := by
      rw [KV.keys rk, List.getElem?_map, hky] <;> rfl
    have e2 : (kvs.map fun kv => kV kv.1)[j]? = some (kV k) := by
      have e3 : (kvs.map fun kv => kV kv.1) = (kvs.map (·.1)).map kV := by rw [List.map_map] <;> rfl
      rw [e3, List.getElem?_map, e1] <;> rfl
    rw [e2] at h1
    cases h1
    exact keyIs_relV hi
  unfold PySem.W.StarOf notIterableAtAll
  refine wpAny_bind (wpAny_specialOf hT PySem.F.slot_dict_iter.lookup (wpAny_pure ⟨rfl, thn col fun us s2 ⟨I2, rv⟩ => ?_⟩))
  exact thn (hr.run pos pins s2 σ H1 _ I2 q) fun ws s3 ⟨vs', H3, I3, r3, q3⟩ => ⟨_, H3, I3, rv.append r3, q3⟩
/-- zip(.., strict=True) of two lists of one length -/
theorem walk_zipS {K : PySem.W.Frag} {a b : Addr} {xs ys : List V} (hn : xs.length = ys.length) : Walk (ItzS K a b) xs.length (fun H => SqL K H a xs ∧ SqL K H b ys) (YPair (fun i => xs[i]?) (fun i => ys[i]?)) := by
  refine ⟨fun i _ hi q => ?_, fun _ q => ⟨xs, ys, q.1, q.2, Nat.le_refl _, by omega⟩, fun i H v H' _ q y => ?_⟩
  · exact ⟨xs, ys, xs[i], ys[i]'(by omega), q.1, q.2, by simp [hi], by simp [show i < ys.length by omega]⟩
  · obtain ⟨T, x, z, h1, h2, h3, h4, h5⟩ := y
    exact ⟨T, x, z, h1, h2, h3, h4 xs q.1, h5 ys q.2⟩
end Ws
end
section
/-! The small defs: is_integer, is_name, is_thing, is_price, number_at, short_by. -/
namespace Ws
open PySem PySem.Spec PyProof.Rows L2
/-- the post of a def that only allocates -/
def Al (Q : VK) (H : Hp) (v : V) : Prop := ∀ H', Same H H' → Q v H'
theorem Same.refl {H : Hp} : Same H H := fun _ _ e => e
theorem Same.trans {H H1 H2 : Hp} (a : Same H H1) (b : Same H1 H2) : Same H H2 := fun x u e => b x u (a x u e)
theorem Same.new {H : Hp} {p : Addr} {o : HO} (n : H p = none) : Same H (upd H p o) := fun x u e => by rw [upd_ne (ne_of_none e n)]; exact e
/-- a write to an object that was not there at first -/
theorem Same.put {H H1 : Hp} {p : Addr} {o : HO} (a : Same H H1) (n : H p = none) : Same H (upd H1 p o) := fun x u e => by rw [upd_ne (ne_of_none e n)]; exact a x u e
abbrev sIsInt : Stmt := top 13
abbrev sIsName : Stmt := top 14
abbrev sIsThing : Stmt := top 16
abbrev sIsPrice : Stmt := top 46
abbrev sNumAt : Stmt := top 22
abbrev sShort : Stmt := top 23
def GC (mg : Str → Option Value) (x : Str) (v : V) : Prop := ∃ u, mg x = some u ∧ RelV v u
/-- the built-ins' names that the module does not have, the module's constants -/
structure Gm (mg : Str → Option Value) : Prop where
  isi : mg "isinstance" = none
  int : mg "int" = none
  bool : mg "bool" = none
  str : mg "str" = none
  list : mg "list" = none
  tuple : mg "tuple" = none
  dict : mg "dict" = none
  set : mg "set" = none
  len : mg "len" = none
  all : mg "all" = none
  sorted : mg "sorted" = none
  range : mg "range" = none
  zip : mg "zip" = none
  sum : mg "sum" = none
  min : mg "min" = none
  max : mg "max" = none
  repr : mg "repr" = none
  abs : mg "abs" = none
  letters : GC mg "LETTERS" (.str "abcdefghijklmnopqrstuvwxyz")
  maxName : GC mg "MAX_NAME" (.int 8)
  maxGap : GC mg "MAX_GAP" (.int 999)
  maxNumber : GC mg "MAX_NUMBER" (.int 99999)
  largest : GC mg "LARGEST" (.int 999999999999)
  maxPrice : GC mg "MAX_PRICE" (.int 999)
def spIsInt : Sp := fun vs H Q _ => ∃ i lo hi, vs = [.int i, .int lo, .int hi] ∧ Q (.bl (decide (lo ≤ i) && decide (i ≤ hi))) H
section
variable {P : Program} {w : World} {K : PySem.W.Frag} {mg : Str → Option Value} {base : Heap} {f : Addr} {fd : FuncData}
theorem sc_isInt : FnScope ["thing", "low", "high"] ["thing", "low", "high"] (defScope sIsInt) := ⟨rfl, rfl, rfl, by decide +kernel, rfl, by decide +kernel, by decide +kernel⟩
theorem kit_ib {K : PySem.W.Frag} : PySem.W.kitOne K (.type "int") (.type "bool") = some false := by kernel_rfl
theorem kit_eq {K : PySem.W.Frag} {T : String} : PySem.W.kitOne K (.type T) (.type T) = some true := if_pos (beq_self_eq_true _)
theorem ok_isInt (F : Fun K "is_integer" "is_integer" sIsInt f fd) (g : Gm mg) :
    FnOk P w K mg base CX0 1 f fd ["thing", "low", "high"] spIsInt := by
  refine F.ok sc_isInt (fun vs H Q E h => ?_) (fun cdv A outer s H vs Q E hr h => ?_)
  · obtain ⟨i, lo, hi, rfl, _⟩ := h
    rfl
  · obtain ⟨i, lo, hi, rfl, q⟩ := h
    refine ⟨_, pss_one (ps_ret (pe_and (pe_callB call_isi rfl g.isi boot_isinstance (pa_cons (pv 0) (pa_cons (pe_bltn (v := .ty "int") rfl g.int boot_int rfl) pa_nil)))
      (pe_and (pe_not (pe_callB call_isi rfl g.isi boot_isinstance (pa_cons (pv 0) (pa_cons (pe_bltn (v := .ty "bool") rfl g.bool boot_bool rfl) pa_nil))))
      (pe_one (pe_chain op_le op_le (pv 1) (pv 0) (pv 2)))))), ?_⟩
    refine ⟨_, rfl, _, _, _, _, true, rfl, .ty _, .base (.int i), kit_eq, true, rfl, ?_⟩
    refine ⟨_, rfl, _, _, _, _, false, rfl, .ty _, .base (.int i), kit_ib, false, rfl, true, rfl, ?_⟩
    refine ⟨_, rfl, _, rfl, _, _, rfl, rfl, _, rfl, ?_⟩
    by_cases h1 : lo ≤ i
    · simp only [h1, decide_true, if_true, Bool.true_and] at q ⊢
      exact ⟨_, rfl, _, _, rfl, rfl, q⟩
    · simp only [h1, decide_false, Bool.false_and, Bool.false_eq_true, if_false] at q ⊢
      exact q

/-! is_price(thing): is_integer(thing, 1, MAX_PRICE) -/
def spIsPrice : Sp := fun vs H Q _ => ∃ i, vs = [.int i] ∧ Q (.bl (decide (1 ≤ i) && decide (i ≤ 999))) H
theorem sc_isPrice : FnScope ["thing"] ["thing"] (defScope sIsPrice) := ⟨rfl, rfl, rfl, by decide +kernel, rfl, by decide +kernel, by decide +kernel⟩
theorem ok_isPrice (F : Fun K "is_price" "is_price" sIsPrice f fd) (g : Gm mg) (c : Cal P w K mg base 1 "is_integer" spIsInt) : FnOk P w K mg base CX0 2 f fd ["thing"] spIsPrice := by
  refine F.ok sc_isPrice (fun vs H Q E h => ?_) (fun cdv A outer s H vs Q E hr h => ?_)
  · obtain ⟨i, rfl, _⟩ := h
    rfl
  · obtain ⟨i, rfl, q⟩ := h
    refine ⟨_, pss_one (ps_ret (pe_f (X := Cx.nox _) c hr (pa_cons (pv 0) (pa_cons pe_int (pa_cons (C8.pe_gc rfl g.maxPrice) pa_nil))))), ?_⟩
    exact ⟨_, rfl, _, _, _, rfl, q⟩
/-! number_at, short_by -/
def NumD (H : Hp) (d : Addr) (f : Str → Option Int) : Prop := ∃ kvs : List (Key × V), H d = some (.dK kvs) ∧ ∀ x : Str, valV kvs (.inr x : Key) = (f x).map V.int
theorem NumD.same {H H' : Hp} {d : Addr} {f : Str → Option Int} (n : NumD H d f) (s : Same H H') : NumD H' d f := let ⟨k, a, b⟩ := n; ⟨k, s _ _ a, b⟩
def numAt (f : Str → Option Int) : Nd → Option Int
  | none => some 0
  | some x => f x
def spNumAt : Sp := fun vs H Q _ => ∃ d f v i, vs = [.ref d, ndV v] ∧ NumD H d f ∧ numAt f v = some i ∧ Q (.int i) H
theorem sc_numAt : FnScope ["numbers", "thing"] ["numbers", "thing"] (defScope sNumAt) := ⟨rfl, rfl, rfl, by decide +kernel, rfl, by decide +kernel, by decide +kernel⟩
theorem ok_numAt (F : Fun K "number_at" "number_at" sNumAt f fd) : FnOk P w K mg base CX0 1 f fd ["numbers", "thing"] spNumAt := by
  refine F.ok sc_numAt (fun vs H Q E h => ?_) (fun cdv A outer s H vs Q E hr h => ?_)
  · obtain ⟨d, f, v, i, rfl, _⟩ := h
    rfl
  · obtain ⟨d, f, v, i, rfl, ⟨kvs, hd, hv⟩, hi, k⟩ := h
    have hu := hu_of hr
    refine ⟨_, pss_one (ps_ret (pe_ifExp (pt_cmp (pc_isN (pv 1))) pe_int (pe_dget hu (pv 0) (pv 1) (fun _ _ => rfl)))), ?_⟩
    cases v with
    | none =>
      cases hi
      refine ⟨_, rfl, _, rfl, ?_⟩
      exact iteT k
    | some x =>
      refine ⟨_, rfl, _, rfl, ?_⟩
      refine iteF ?_
      refine ⟨_, rfl, _, rfl, d, .int i, rfl, ?_, k⟩
      have e := hv x
      rw [show f x = some i from hi] at e
      have := DGet.k (k := Sum.inr x) hd
      rw [e] at this
      exact this
def shortF (f : Str → Option Int) (r : Rule) : Option Int := (numAt f r.1).bind fun a => (numAt f r.2.1).map fun b => a + r.2.2 - b
def spShort : Sp := fun vs H Q _ => ∃ d f r p i, vs = [.ref d, .ref p] ∧ NumD H d f ∧ H p = some (.tup (ruleVs r)) ∧ shortF f r = some i ∧ Q (.int i) H
theorem sc_short : FnScope ["numbers", "rule"] ["numbers", "rule"] (defScope sShort) := ⟨rfl, rfl, rfl, by decide +kernel, rfl, by decide +kernel, by decide +kernel⟩
theorem ok_short (F : Fun K "short_by" "short_by" sShort f fd) (c : Cal P w K mg base 1 "number_at" spNumAt) : FnOk P w K mg base CX0 2 f fd ["numbers", "rule"] spShort := by
  refine F.ok sc_short (fun vs H Q E h => ?_) (fun cdv A outer s H vs Q E hr h => ?_)
  · obtain ⟨d, f, r, p, i, rfl, _⟩ := h
    rfl
  · obtain ⟨d, f, r, p, i, rfl, n, hp, hi, k⟩ := h
    have hu := hu_of hr
    refine ⟨_, pss_one (ps_ret (pe_sub (pe_add (pe_f (X := Cx.nox _) c hr (pa_cons (pv 0) (pa_cons (pe_ix ix_tup (pv 1) pe_int (fun _ _ => rfl)) pa_nil))) (pe_ix ix_tup (pv 1) pe_int (fun _ _ => rfl)))
      (pe_f (X := Cx.nox _) c hr (pa_cons (pv 0) (pa_cons (pe_ix ix_tup (pv 1) pe_int (fun _ _ => rfl)) pa_nil))))), ?_⟩
    cases ha : numAt f r.1 with
    | none => rw [shortF, ha] at hi; cases hi
    | some a =>
      cases hb : numAt f r.2.1 with
      | none => rw [shortF, ha, hb] at hi; cases hi
      | some b =>
        rw [shortF, ha, hb] at hi
        cases hi
        have tp : SqT K H p (ruleVs r) := SqT.of hp
        refine ⟨_, rfl, _, rfl, p, _, _, _, rfl, rfl, tp, rfl, d, f, r.1, a, rfl, n, ha, ?_⟩
        refine ⟨_, rfl, p, _, _, _, rfl, rfl, tp, rfl, _, _, rfl, rfl, ?_⟩
        refine ⟨_, rfl, _, rfl, p, _, _, _, rfl, rfl, tp, rfl, d, f, r.2.1, b, rfl, n, hb, ?_⟩
        exact ⟨_, _, rfl, rfl, k⟩
end
end Ws
end
section
namespace Ws
open PySem PySem.Spec PyProof.Rows L2
/-- a list comprehension without a test whose element only allocates -/
theorem lc_map {J : It} {n : Nat} {G : Hp → Prop} {Y : Nat → Hp → V → Hp → Prop} (w : Walk J n G Y) (hY : ∀ i H x H', Y i H x H' → Same H H') {g : TG} {te : TE} {vs : List Nat} {σ : L2.St} {H1 : Hp} {D : Addr} {Qd : Hp → Prop} (e : Nat → V) (hn : n ≤ sizeLine) (hD : H1 D = none)
    (hG : ∀ H, Same H1 H → G H)
    (hs : ∀ i x H H' (R : VK), i < n → Same H1 H → Y i H x H' → (∀ H4, Same H' H4 → R (e i) H4) → g x (wipe σ vs) H' fun σ2 H2 => wipe σ2 vs = wipe σ vs ∧ te σ2 H2 R)
    (hd : ∀ H, Same H1 H → H D = some (.lst ((List.range n).map e)) → Qd H) :
    ∃ W : Nat → Nat → Hp → Prop, (∃ m, W 0 m (upd H1 D (.lst []))) ∧ ∀ i m H, W i m H →
      (J.stop i H ∧ Qd H) ∨ (J.go i H ∧ ∃ Nx : Hp → Prop, (∀ H', Nx H' → ∃ m', m' < m ∧ W (i + 1) m' H') ∧ ∀ x H', J.yld i H x H' → g x (wipe σ vs) H' fun σ2 H2 => wipe σ2 vs = wipe σ vs ∧ tYes σ2 H2 fun b H3 =>
        if b = true then te σ2 H3 fun y H4 => ∃ acc, H4 D = some (.lst acc) ∧ acc.length < sizeLine ∧ Nx (upd H4 D (.lst (acc ++ [y]))) else Nx H3) := by
  refine lc_it (te := te) (tt := tYes) w (fun i H => Same H1 H ∧ H D = some (.lst ((List.range i).map e))) ⟨Same.new hD, upd_same⟩ (fun i H _ p => hG H p.1) (fun i x H H' hi p y => ?_) (fun H p => hd H p.1 p.2)
  refine hs i x H H' _ hi p.1 y fun H4 s4 => ⟨_, s4 _ _ (hY _ _ _ _ y _ _ p.2), ?_, ?_, ?_⟩
  · rw [List.length_map, List.length_range]; exact Nat.lt_of_lt_of_le hi hn
  · exact ((p.1.trans (hY _ _ _ _ y)).trans s4).put hD
  · rw [upd_same, List.range_succ, List.map_append]; rfl
theorem rep_all (n : Nat) : ((List.range n).map fun _ => V.bl true) = (List.replicate n true).map V.bl := by
  rw [List.map_replicate]
  refine List.ext_getElem? fun i => ?_
  rw [List.getElem?_map, List.getElem?_replicate]
  by_cases h : i < n
  · rw [List.getElem?_range h, if_pos h]; rfl
  · rw [if_neg h, List.getElem?_eq_none (by rw [List.length_range]; omega)]; rfl
theorem all_rep (n : Nat) : (List.replicate n true).all id = true := by simp
def letters : Str := "abcdefghijklmnopqrstuvwxyz"
def nameOk (x : Str) : Prop := 1 ≤ x.length ∧ x.length ≤ 8 ∧ ∀ c : Nat, c ∈ x.cps → (!(Builtin.Str.occurrences letters ⟨#[c]⟩ 0 letters.length 1).isEmpty) = true
def spIsName : Sp := fun vs H Q _ => ∃ x, vs = [.str x] ∧ nameOk x ∧ Al Q H (.bl true)
section
variable {P : Program} {w : World} {K : PySem.W.Frag} {mg : Str → Option Value} {base : Heap} {f : Addr} {fd : FuncData}
theorem sc_isName : FnScope ["thing", "sign"] ["thing"] (defScope sIsName) := ⟨rfl, rfl, rfl, by decide +kernel, rfl, by decide +kernel, by decide +kernel⟩
theorem ok_isName (F : Fun K "is_name" "is_name" sIsName f fd) (g : Gm mg) : FnOk P w K mg base CX0 1 f fd ["thing"] spIsName := by
  refine F.ok sc_isName (fun vs H Q E h => ?_) (fun cdv A outer s H vs Q E hr h => ?_)
  · obtain ⟨i, rfl, _⟩ := h
    rfl
  · obtain ⟨x, rfl, nx, q⟩ := h
    have nd := sc_isName.nd
    refine ⟨_, pss_one (ps_ret (pe_and (pe_callB call_isi rfl g.isi boot_isinstance (pa_cons (pv 0) (pa_cons (pe_bltn (v := .ty "str") rfl g.str boot_str rfl) pa_nil)))
      (pe_and (pe_chain op_le op_le pe_int (pe_callB call_len rfl g.len boot_len (pa_cons (pv 0) pa_nil)) (C8.pe_gc rfl g.maxName))
      (pe_one (pe_callB (cr_all rfl) rfl g.all boot_all (pa_cons (pe_lc (own := [("sign", 1)]) (g := gName 1) (tt := tYes) rfl nd (pi_str (pv 0)) (blkOk_by (own := [("sign", 1)]) (N := ["thing", "sign"]) (sc := defScope sIsName) (by decide +kernel))
        (fun _ _ _ _ _ => pg_name (i := 1) nd rfl (Or.inl rfl)) (fun _ _ _ _ _ => pts_nil) (fun _ _ _ _ _ => pe_cmpR op_in_str (pv 1) (C8.pe_gc rfl g.letters) rfl)) pa_nil)))))), ?_⟩
    refine ⟨_, rfl, _, _, _, _, true, rfl, .ty _, .base (.str x), kit_eq, true, rfl, ?_⟩
    refine ⟨_, rfl, _, _, rfl, ⟨Nat.le_trans nx.2.1 (by decide), rfl⟩, _, _, rfl, rfl, _, rfl, ?_⟩
    rw [decide_eq_true (show (1 : Int) ≤ (x.length : Nat) by have := nx.1; omega), if_pos rfl]
    refine ⟨_, _, rfl, rfl, true, ?_, ?_⟩
    · show V.bl (decide (((x.length : Nat) : Int) ≤ 8)) = V.bl true
      rw [decide_eq_true (show ((x.length : Nat) : Int) ≤ 8 by have := nx.2.1; omega)]
    rw [if_pos rfl]
    refine ⟨_, rfl, x, rfl, fun D hD => lc_map walk_str (fun i H v H' y => by rw [y.1]; exact Same.refl) (fun _ => .bl true) (Nat.le_trans nx.2.1 (by decide)) hD (fun _ _ => trivial) (fun i v H H' R hi sH y k => ?_) fun H' sH' hl => ?_⟩
    · obtain ⟨rfl, c, hc, rfl⟩ := y
      refine ⟨rfl, _, rfl, ?_⟩
      have hm : c ∈ x.cps := Array.mem_of_getElem? hc
      refine ⟨_, _, rfl, rfl, ?_⟩
      have := nx.2.2 c hm
      rw [show letters = ("abcdefghijklmnopqrstuvwxyz" : Str) from rfl] at this
      rw [this]
      exact k _ Same.refl
    · refine ⟨D, List.replicate x.cps.size true, rfl, SqL.of (by rw [hl, rep_all]), ?_⟩
      rw [all_rep]
      exact q _ sH'
/-! is_thing(thing): None or a name -/
def ndOk : Nd → Prop
  | none => True
  | some x => nameOk x
def spIsThing : Sp := fun vs H Q _ => ∃ v, vs = [ndV v] ∧ ndOk v ∧ Al Q H (.bl true)
theorem sc_isThing : FnScope ["thing"] ["thing"] (defScope sIsThing) := ⟨rfl, rfl, rfl, by decide +kernel, rfl, by decide +kernel, by decide +kernel⟩
theorem ok_isThing (F : Fun K "is_thing" "is_thing" sIsThing f fd) (c : Cal P w K mg base 1 "is_name" spIsName) : FnOk P w K mg base CX0 2 f fd ["thing"] spIsThing := by
  refine F.ok sc_isThing (fun vs H Q E h => ?_) (fun cdv A outer s H vs Q E hr h => ?_)
  · obtain ⟨i, rfl, _⟩ := h
    rfl
  · obtain ⟨v, rfl, nx, q⟩ := h
    refine ⟨_, pss_one (ps_ret (pe_or (pe_cmp (pc_isN (pv 0))) (pe_one (pe_f (X := Cx.nox _) c hr (pa_cons (pv 0) pa_nil))))), ?_⟩
    cases v with
    | none => exact ⟨_, rfl, true, rfl, q _ Same.refl⟩
    | some x => exact ⟨_, rfl, false, rfl, _, rfl, x, rfl, nx, q⟩
end
end Ws
end
section
namespace Ws
open PySem PySem.Spec PyProof.Rows L2
/-- C.m is a staticmethod: its record at p, its def at g -/
structure SMet (K : PySem.W.Frag) (C : Addr) (m : Str) (g : Addr) : Prop where
  rd : PySem.W.readsIn K C (.type "type") = true
  ga : PySem.W.specialIn K (.ref C) "__getattribute__" = some (some (.builtin "type.__getattribute__"))
  at_ : ∃ p, PySem.W.findCls K (.ref C) (.type "type") m = some (.get (.builtin "staticmethod.__get__") (.ref p) .none (.ref C)) ∧ ∃ rest, PySem.W.recIn K p "staticmethod" = some (.ref g :: rest)
  kp : PySem.W.keepIn K (.ref g) = true
def tSMeth (C : Addr) (sp : Sp) (ta : TE) (t : TA) : TE := fun σ H Q => ta σ H fun x H1 => x = .ref C ∧ t σ H1 fun vs H2 => sp vs H2 Q E0
theorem pe_sm {X : Cx} {k j : Nat} {C g : Addr} {m : Str} {sp : Sp} {fd : FuncData} {ps : List Str} {apos pos : Pos} {o e : Expr} {es : List Expr} {ta : TE} {t : TA} {pl : Sem Bool} (r : SMet X.K C m g) (F : FnOk X.prog X.w X.K X.mg X.base CX0 k g fd ps sp) (b : Binds X.K fd ps []) (hr : Room j X.A)
    (he : PE X o ta) (ha : PA X (e :: es) t) (hk : k ≤ j := by decide)
    (hst : starEach (e :: es) X.env = (false, eval e X.env) :: starEach es X.env := by rfl) (hpl : (backTo pos (starEach es X.env)).any (·.1) = false := by rfl)
    (ht : eval (.Call (.Attribute o m apos) (e :: es) [] pos) X.env = (do
      let ov ← eval o X.env
      standAt apos.atName
      let (f, first) ← holding [ov] (getMethod ov m pl)
      callWith pos f first (backTo pos (starEach (e :: es) X.env)) (backToKw pos (keywordEach [] X.env))) := by rfl) :
    PE X (.Call (.Attribute o m apos) (e :: es) [] pos) (tSMeth C sp ta t) := by
  refine ⟨fun pins s σ H Q I h => ?_⟩
  refine PySem.W.methodCall_KW (pl := pl) (thn (he.run pins s σ H _ I h) fun u s1 ⟨x, H1, I1, rx, ex, q⟩ => ?_) ht
  subst ex
  obtain rfl : u = Value.ref C := rx
  obtain ⟨p, at_, rest, hp⟩ := r.at_
  refine PySem.W.method_cls I1.kIn r.ga ?_
  refine PySem.W.cls_bind I1.kIn r.rd at_ (wpAny_call (PySem.W.sm_get (s := { s1 with toks := s1.toks + 1 }) I1.kIn hp (PySem.W.handed_on rfl ?_)))
  have I2 := I1.tok (s1.toks + 1)
  refine PySem.W.callWith_K (first := []) (h₀ := X.base) I2.ok.mod.kin r.kp (thn (ha.run pos pins { s1 with toks := s1.toks + 1 } σ H1 _ I2 q) fun us s2 ⟨vs, H2, I3, rv, q2⟩ => ⟨I3.kIn, ?_⟩) hst hpl
  have q3 : sp (vs ++ []) H2 Q E0 := by rw [List.append_nil]; exact q2
  exact run_fn F (hr.mono hk) b .nil pass0 I3 rv q3
abbrev sIsRule : Stmt := mth 17 1
def ruleOk (r : Rule) : Prop := ndOk r.1 ∧ ndOk r.2.1 ∧ r.1 ≠ r.2.1 ∧ -999 ≤ r.2.2 ∧ r.2.2 ≤ 999
def spIsRule : Sp := fun vs H Q _ => ∃ p r, vs = [.ref p] ∧ H p = some (.tup (ruleVs r)) ∧ ruleOk r ∧ Al Q H (.bl true)
section
variable {P : Program} {w : World} {K : PySem.W.Frag} {mg : Str → Option Value} {base : Heap} {f : Addr} {fd : FuncData}
theorem sc_isRule : FnScope ["thing"] ["thing"] (defScope sIsRule) := ⟨rfl, rfl, rfl, by decide +kernel, rfl, by decide +kernel, by decide +kernel⟩
theorem ok_isRule (F : Fun K "is_rule" "System.is_rule" sIsRule f fd) (g : Gm mg) (c1 : Cal P w K mg base 1 "is_integer" spIsInt) (c2 : Cal P w K mg base 2 "is_thing" spIsThing) : FnOk P w K mg base CX0 3 f fd ["thing"] spIsRule := by
  refine F.ok sc_isRule (fun vs H Q E h => ?_) (fun cdv A outer s H vs Q E hr h => ?_)
  · obtain ⟨p, r, rfl, _⟩ := h
    rfl
  · obtain ⟨p, r, rfl, hp, ⟨n1, n2, ne, l1, l2⟩, q⟩ := h
    refine ⟨_, pss_cons (ps_if (PW.pt (pw_or (pt_not (pt_val (pe_callB call_isi rfl g.isi boot_isinstance (pa_cons (pv 0) (pa_cons (pe_bltn (v := .ty "tuple") rfl g.tuple boot_tuple rfl) pa_nil)))))
      (pw_or (pt_cmpR op_ne (pe_callB call_len rfl g.len boot_len (pa_cons (pv 0) pa_nil)) pe_int (nomark _))
      (pw_or1 (pt_not (pt_val (pe_f (X := Cx.nox _) c1 hr (pa_cons (pe_ix ix_tup (pv 0) pe_int (fun _ _ => rfl)) (pa_cons (pe_un un_neg (C8.pe_gc rfl g.maxGap)) (pa_cons (C8.pe_gc rfl g.maxGap) pa_nil)))))))))) (pss_one (ps_ret pe_bl)) pss_nil)
      (pss_one (ps_ret (pe_and (pe_f (X := Cx.nox _) c2 hr (pa_cons (pe_ix ix_tup (pv 0) pe_int (fun _ _ => rfl)) pa_nil)) (pe_and (pe_f (X := Cx.nox _) c2 hr (pa_cons (pe_ix ix_tup (pv 0) pe_int (fun _ _ => rfl)) pa_nil))
      (pe_one (pe_cmpR op_ne (pe_ix ix_tup (pv 0) pe_int (fun _ _ => rfl)) (pe_ix ix_tup (pv 0) pe_int (fun _ _ => rfl)) (nomark _))))))), ?_⟩
    have tp : SqT K H p (ruleVs r) := SqT.of hp
    refine ⟨_, rfl, _, _, _, _, true, rfl, .ty _, .base (.tup hp), kit_eq, true, rfl, ?_⟩
    refine iteF ?_
    refine ⟨_, rfl, _, _, rfl, .inr ⟨_, tp, rfl⟩, rfl, _, rfl, ?_⟩
    refine iteF ?_
    refine ⟨_, rfl, p, _, _, _, rfl, rfl, tp, rfl, _, rfl, _, _, _, rfl, _, rfl, ?_⟩
    rw [decide_eq_true l1, decide_eq_true l2]
    refine iteF ?_
    refine ⟨_, rfl, p, _, _, _, rfl, rfl, tp, rfl, r.1, rfl, n1, fun H1 s1 => ⟨true, rfl, iteT ?_⟩⟩
    have tp1 : SqT K H1 p (ruleVs r) := SqT.of (s1 _ _ hp)
    refine ⟨_, rfl, p, _, _, _, rfl, rfl, tp1, rfl, r.2.1, rfl, n2, fun H2 s2 => ⟨true, rfl, iteT ?_⟩⟩
    have tp2 : SqT K H2 p (ruleVs r) := SqT.of (s2 _ _ (s1 _ _ hp))
    refine ⟨_, rfl, p, _, _, _, rfl, rfl, tp2, rfl, _, rfl, p, _, _, _, rfl, rfl, tp2, rfl, ?_, ?_⟩
    · cases r.1 <;> cases r.2.1 <;> rfl
    · rw [decide_eq_false fun z => ne (ndV_inj z)]
      exact q _ (s1.trans s2)
end
end Ws
end
section
namespace Ws
open PySem PySem.Spec PyProof.Rows L2
theorem walkP {J : It} {n : Nat} {G : Hp → Prop} {Y : Nat → Hp → V → Hp → Prop} (w : Walk J n G Y) {Bd : V → Hp → (Hp → Prop) → Prop} {H0 : Hp} {Qd : Hp → Prop} (Pv : Nat → Hp → Prop) (h0 : Pv 0 H0) (hG : ∀ i H, i ≤ n → Pv i H → G H)
    (hs : ∀ i x H H', i < n → Pv i H → Y i H x H' → Bd x H' (Pv (i + 1))) (hd : ∀ H, Pv n H → Qd H) :
    ∃ W : Nat → Nat → Hp → Prop, (∃ m, W 0 m H0) ∧ ∀ i m H, W i m H → (J.stop i H ∧ Qd H) ∨ (J.go i H ∧ ∃ Nx : Hp → Prop, (∀ H', Nx H' → ∃ m', m' < m ∧ W (i + 1) m' H') ∧ ∀ x H', J.yld i H x H' → Bd x H' Nx) := by
  refine ⟨fun i m H => m = n - i ∧ i ≤ n ∧ Pv i H, ⟨n, by simp, Nat.zero_le _, h0⟩, ?_⟩
  rintro i m H ⟨rfl, hi, p⟩
  have q := hG i H hi p
  by_cases hlt : i < n
  · exact .inr ⟨w.goes i H hlt q, Pv (i + 1), fun H' p' => ⟨n - (i + 1), by omega, rfl, hlt, p'⟩, fun x H' y => hs i x H H' hlt p (w.yields i H x H' hlt q y)⟩
  · have e : i = n := by omega
    subst e
    exact .inl ⟨w.stops H q, hd H p⟩
theorem tyes {σ : L2.St} {H : Hp} {A B : Hp → Prop} (h : A H) : tYes σ H (fun b H3 => if b = true then A H3 else B H3) := by
  show if true = true then A H else B H
  rw [if_pos rfl]
  exact h
abbrev sSysInit : Stmt := mth 17 0
/-- a system -/
structure SysAt (CS : Addr) (H : Hp) (x : Addr) (ns : List Str) (rl : List (Addr × Rule)) : Prop where
  ex : ∃ dx sa ga, H x = some (.ins CS dx [("settings", .ref sa), ("gaps", .ref ga)]) ∧ H sa = some (.lst (ns.map V.str)) ∧ H ga = some (.lst (refsR rl))
  tup : ∀ r ∈ rl, H r.1 = some (.tup (ruleVs r.2))
theorem SysAt.same {CS : Addr} {H H' : Hp} {x : Addr} {ns : List Str} {rl : List (Addr × Rule)} (a : SysAt CS H x ns rl) (s : Same H H') : SysAt CS H' x ns rl :=
  let ⟨dx, sa, ga, h1, h2, h3⟩ := a.ex
  ⟨⟨dx, sa, ga, s _ _ h1, s _ _ h2, s _ _ h3⟩, fun r hr => s _ _ (a.tup r hr)⟩
/-- the rules of a system: those of the list, each once -/
structure RulesOf (rl out : List (Addr × Rule)) : Prop where
  sub : ∀ x ∈ out, x ∈ rl
  all : ∀ x ∈ rl, ∃ y ∈ out, y.2 = x.2
  nodup : (out.map Prod.snd).Nodup
  len : out.length ≤ rl.length
def spSys (CS : Addr) : Sp := fun vs H Q _ => ∃ x dx ln lr ns rl, vs = [.ref x, .ref ln, .ref lr] ∧ H x = some (.ins CS dx []) ∧ H ln = some (.lst (ns.map V.str)) ∧ ns.Nodup ∧ ns.length < 60 ∧ (∀ n ∈ ns, nameOk n) ∧
  H lr = some (.lst (refsR rl)) ∧ (∀ r ∈ rl, H r.1 = some (.tup (ruleVs r.2))) ∧ (∀ r ∈ rl, ruleOk r.2 ∧ (∀ z, r.2.1 = some z → z ∈ ns) ∧ (∀ z, r.2.2.1 = some z → z ∈ ns)) ∧ rl.length ≤ 1000 ∧
  ∀ H' ss out, (∀ b u, b ≠ x → H b = some u → H' b = some u) → SysAt CS H' x ss out → ss.Perm ns → sortedS ss = true → RulesOf rl out → Q .non H'
section
variable {P : Program} {w : World} {K : PySem.W.Frag} {mg : Str → Option Value} {base : Heap} {f fk CS gr : Addr} {fd fdk fdr : FuncData}
abbrev nSys : List Str := ["self", "names", "rules", "name", "rule", "thing"]
theorem sc_sys : FnScope nSys ["self", "names", "rules"] (defScope sSysInit) := ⟨rfl, rfl, rfl, by decide +kernel, rfl, by decide +kernel, by decide +kernel⟩
theorem ok_sys (F : Fun K "__init__" "System.__init__" sSysInit f fd) (g : Gm mg) (c1 : Cal P w K mg base 1 "is_name" spIsName) (r : SMet K CS "is_rule" gr) (Fr : FnOk P w K mg base CX0 3 gr fdr ["thing"] spIsRule) (br : Binds K fdr ["thing"] [])
    (mS : mg "System" = some (.ref CS)) (Fk : L2.Fun K "rule_key" "rule_key" (top 15) fk fdk) (mk : mg "rule_key" = some (.ref fk)) (cS : Cls K CS) (n1 : NoAttr K CS "settings") (n2 : NoAttr K CS "gaps") :
    FnOk P w K mg base CX0 6 f fd ["self", "names", "rules"] (spSys CS) := by
  refine F.ok sc_sys (fun vs H Q E h => ?_) (fun cdv A outer s H vs Q E hr h => ?_)
  · obtain ⟨x, dx, ln, lr, ns, rl, rfl, _⟩ := h
    rfl
  · obtain ⟨x, dx, ln, lr, ns, rl, rfl, hx, hln, nd, n60, nok, hlr, htup, rok, hlen, q⟩ := h
    have nn := sc_sys.nd
    refine ⟨_, pss_cons (ps_if (PW.pt (pw_or (pt_not (pt_val (pe_callB call_isi rfl g.isi boot_isinstance (pa_cons (pv 1) (pa_cons (pe_bltn (v := .ty "list") rfl g.list boot_list rfl) pa_nil)))))
      (pw_or (pt_not (pt_val (pe_callB (cr_all rfl) rfl g.all boot_all (pa_cons (pe_lc (own := [("name", 3)]) (g := gName 3) (tt := tYes) rfl nn (pi_list (pv 1)) (blkOk_by (own := [("name", 3)]) (N := nSys) (sc := defScope sSysInit) (by decide +kernel))
        (fun _ _ _ _ _ => pg_name (i := 3) nn rfl (Or.inl rfl)) (fun _ _ _ _ _ => pts_nil) (fun _ _ _ _ _ => pe_f c1 hr (pa_cons (pv 3) pa_nil))) pa_nil))))
      (pw_or1 (pt_cmpR op_lt (pe_lenSetD rfl rfl g.len rfl g.set (pv 1)) (pe_callB call_len rfl g.len boot_len (pa_cons (pv 1) pa_nil)) (nomark _)))))) pss_never pss_nil)
      (pss_cons (ps_if (PW.pt (pw_or (pt_not (pt_val (pe_callB call_isi rfl g.isi boot_isinstance (pa_cons (pv 2) (pa_cons (pe_bltn (v := .ty "list") rfl g.list boot_list rfl) pa_nil)))))
      (pw_or1 (pt_not (pt_val (pe_callB (cr_all rfl) rfl g.all boot_all (pa_cons (pe_lc (own := [("rule", 4)]) (g := gName 4) (tt := tYes) rfl nn (pi_list (pv 2)) (blkOk_by (own := [("rule", 4)]) (N := nSys) (sc := defScope sSysInit) (by decide +kernel))
        (fun _ _ _ _ _ => pg_name (i := 4) nn rfl (Or.inl rfl)) (fun _ _ _ _ _ => pts_nil) (fun _ _ _ _ _ => by exact pe_sm r Fr br hr (pe_glob (v := .ref CS) rfl mS rfl) (pa_cons (pv 4) pa_nil))) pa_nil))))))) pss_never pss_nil)
      (pss_cons (ps_if (pt_not (pt_val (pe_callB (cr_all rfl) rfl g.all boot_all (pa_cons (pe_lc2 (own := [("rule", 4), ("thing", 5)]) (vs1 := [5]) (g := gName 4) (tt := tYes) (g1 := gName 5) (tt1 := tYes) (wi1 := iTup K (tSl (rSlT K) (tVar 4) tNoPart (tPart (tC (.int 2))))) (te := tOrV (tIsN (tVar 5)) (tOp (rIn K false) (tVar 5) (tVar 1))) rfl nn (pi_list (pv 2)) (blkOk_by (own := [("rule", 4), ("thing", 5)]) (N := nSys) (sc := defScope sSysInit) (by decide +kernel)) (by decide)
        (fun _ _ _ _ _ => pg_name (i := 4) nn rfl (Or.inl rfl)) (fun _ _ _ _ _ => pts_nil) (fun _ _ _ _ _ => by exact pi_tup (pe_slice sl_tup (pv 4) po_none (po_some pe_int))) (fun _ _ _ _ _ => pg_name (i := 5) nn rfl (Or.inl rfl)) (fun _ _ _ _ _ => pts_nil)
        (fun _ _ _ _ _ => pe_or (pe_cmp (pc_isN (pv 5))) (pe_one (pe_cmpR op_in_seq (pv 5) (pv 1) rfl)))) pa_nil)))) pss_never pss_nil)
      (pss_cons (ps_fld (pv 0) (pe_callB cr_sortedS rfl g.sorted boot_sorted (pa_cons (pv 1) pa_nil)) rfl)
      (pss_one (ps_fld (pv 0) (pe_callBK (crk_sortR Fk (hr.mono (by decide))) rfl g.sorted boot_sorted (pa_cons (pe_ruleD (pv 2) (Sm.ofRoom' hr) (by refine ⟨by decide +kernel, by decide +kernel, rfl, by decide +kernel, rfl⟩)) pa_nil) (pk_cons (pe_glob (v := .ref fk) rfl mk rfl) pk_nil)) rfl))))), ?_⟩
    have sl : ∀ {H1 : Hp}, Same H H1 → SqL K H1 ln (ns.map V.str) := fun s => SqL.of (s _ _ hln)
    have sr : ∀ {H1 : Hp}, Same H H1 → SqL K H1 lr (refsR rl) := fun s => SqL.of (s _ _ hlr)
    refine ⟨_, rfl, _, _, _, _, true, rfl, .ty _, .base (.lst hln), kit_eq, true, rfl, iteF ?_⟩
    refine ⟨_, rfl, ln, rfl, ⟨_, sl Same.refl⟩, fun D hD => lc_map walk_list (fun i H v H' y => by rw [y.1]; exact Same.refl) (fun _ => .bl true) (by rw [List.length_map, sizeLine_eq]; omega) hD (fun H' s' => sl s') (fun i v H1 H2 R hi s1 y k => ?_) fun H1 s1 hl => ?_⟩
    · obtain ⟨rfl, hv⟩ := y
      rw [List.getElem?_map] at hv
      obtain ⟨n, hn, rfl⟩ := Option.map_eq_some_iff.mp hv
      exact ⟨rfl, _, rfl, n, rfl, nok n (List.mem_of_getElem? hn), k⟩
    rw [List.length_map, rep_all] at hl
    refine ⟨D, _, rfl, SqL.of hl, true, by rw [all_rep], iteF ?_⟩
    refine ⟨_, rfl, ln, ns, rfl, sl s1, nd, n60, _, rfl, _, _, rfl, .inl ⟨_, sl s1, rfl⟩, _, _, rfl, rfl, _, rfl, ?_⟩
    rw [List.length_map, decide_eq_false (by omega)]
    refine iteF ?_
    refine ⟨_, rfl, _, _, _, _, true, rfl, .ty _, .base (.lst (s1 _ _ hlr)), kit_eq, true, rfl, iteF ?_⟩
    refine ⟨_, rfl, lr, rfl, ⟨_, sr s1⟩, fun D2 hD2 => lc_map walk_list (fun i H v H' y => by rw [y.1]; exact Same.refl) (fun _ => .bl true) (by rw [refsR, List.length_map, sizeLine_eq]; omega) hD2 (fun H' s' => sr (s1.trans s')) (fun i v H2 H3 R hi s2 y k => ?_) fun H2 s2 hl2 => ?_⟩
    · obtain ⟨rfl, hv⟩ := y
      rw [refsR, List.getElem?_map] at hv
      obtain ⟨r, hn, rfl⟩ := Option.map_eq_some_iff.mp hv
      have hr1 := List.mem_of_getElem? hn
      exact ⟨rfl, rfl, _, rfl, _, r.2, rfl, s2 _ _ (s1 _ _ (htup r hr1)), (rok r hr1).1, k⟩
    rw [show (refsR rl).length = rl.length from List.length_map .., rep_all] at hl2
    have s02 := s1.trans s2
    refine ⟨D2, _, rfl, SqL.of hl2, true, by rw [all_rep], iteF ?_⟩
    refine ⟨_, rfl, lr, rfl, ⟨_, sr s02⟩, fun D3 hD3 => walkP walk_list (fun i H4 => Same H2 H4 ∧ ∃ k, k ≤ 2 * i ∧ H4 D3 = some (.lst ((List.replicate k true).map V.bl))) ⟨Same.new hD3, 0, Nat.le_refl _, upd_same⟩ (fun i H4 _ p => sr (s02.trans p.1)) (fun i v H4 H5 hi p y => ?_) fun H4 p => ?_⟩
    · obtain ⟨rfl, hv⟩ := y
      rw [refsR, List.getElem?_map] at hv
      obtain ⟨r, hn, rfl⟩ := Option.map_eq_some_iff.mp hv
      have hr1 := List.mem_of_getElem? hn
      obtain ⟨s4, k0, hk0, hl4⟩ := p
      refine ⟨rfl, tyes ?_⟩
      have tp : SqT K H5 r.1 (ruleVs r.2) := SqT.of (s4 _ _ (s02 _ _ (htup r hr1)))
      refine ⟨_, rfl, _, rfl, r.1, _, rfl, tp, by intro z; have : (2 : Nat) = 3 := z.2; omega, fun t ht => ?_⟩
      have ec : cutV (ruleVs r.2) none (some 2) = [ndV r.2.1, ndV r.2.2.1] := rfl
      rw [ec]
      have s5 : Same H2 (upd H5 t (.tup [ndV r.2.1, ndV r.2.2.1])) := s4.trans (Same.new ht)
      have ntD : D3 ≠ t := ne_of_none hl4 ht
      refine ⟨t, rfl, ⟨_, SqT.of upd_same⟩, walkP walk_tup (fun j H6 => Same H2 H6 ∧ H6 t = some (.tup [ndV r.2.1, ndV r.2.2.1]) ∧ ∃ k, k ≤ 2 * i + j ∧ H6 D3 = some (.lst ((List.replicate k true).map V.bl))) ⟨s5, upd_same, k0, hk0, by rw [upd_ne ntD]; exact hl4⟩
        (fun j H6 _ p => SqT.of p.2.1) (fun j v H6 H7 hj p y => ?_) (fun H6 p => ⟨p.1, by obtain ⟨k, h1, h2⟩ := p.2.2; exact ⟨k, h1, h2⟩⟩)⟩
      obtain ⟨rfl, hv⟩ := y
      obtain ⟨s6, ht6, k, hk, hl6⟩ := p
      have fin : ∃ acc, H7 D3 = some (.lst acc) ∧ acc.length < sizeLine ∧ (fun j H6 => Same H2 H6 ∧ H6 t = some (.tup [ndV r.2.1, ndV r.2.2.1]) ∧ ∃ k, k ≤ 2 * i + j ∧ H6 D3 = some (.lst ((List.replicate k true).map V.bl))) (j + 1) (upd H7 D3 (.lst (acc ++ [V.bl true]))) := by
        have hi' : i < rl.length := by rw [refsR, List.length_map] at hi; exact hi
        have hj' : j < 2 := hj
        refine ⟨_, hl6, ?_, s6.put hD3, by rw [upd_ne (Ne.symm ntD)]; exact ht6, k + 1, by omega, ?_⟩
        · rw [List.length_map, List.length_replicate, sizeLine_eq]; omega
        · rw [upd_same, List.replicate_succ', List.map_append]; rfl
      have nv : ∃ d : Nd, v = ndV d ∧ ∀ z, d = some z → z ∈ ns := by
        match j, hj, hv with
        | 0, _, hv => cases hv; exact ⟨r.2.1, rfl, (rok r hr1).2.1⟩
        | 1, _, hv => cases hv; exact ⟨r.2.2.1, rfl, (rok r hr1).2.2⟩
      obtain ⟨d, rfl, hd⟩ := nv
      refine ⟨rfl, tyes ?_⟩
      cases d with
      | none => exact ⟨_, rfl, true, rfl, iteT fin⟩
      | some z =>
        have hz := hd z rfl
        refine ⟨_, rfl, false, rfl, iteF ?_⟩
        refine ⟨_, rfl, _, rfl, ln, _, rfl, .inl (sl (s02.trans s6)), rfl, List.all_eq_true.mpr fun y hy => ?_, ?_⟩
        · obtain ⟨y', _, rfl⟩ := List.mem_map.mp hy
          rfl
        · have e : inV (.str z) (ns.map V.str) = true := List.any_eq_true.mpr ⟨_, List.mem_map_of_mem hz, by simp [eqV]⟩
          rw [show (if false = true then !inV (ndV (some z)) (ns.map V.str) else inV (ndV (some z)) (ns.map V.str)) = true from e]
          exact fin
    · obtain ⟨s4, k, hk, hl4⟩ := p
      have s04 := s02.trans s4
      refine ⟨D3, _, rfl, SqL.of hl4, true, by rw [all_rep], iteF ?_⟩
      refine ⟨_, rfl, ln, ns, rfl, sl s04, by omega, fun ss p1 hperm hsort hp1 => ?_⟩
      have hx4 := s04 _ _ hx
      have nx1 : x ≠ p1 := ne_of_none hx4 hp1
      refine ⟨_, rfl, x, CS, dx, _, rfl, by rw [upd_ne nx1]; exact hx4, cS, n1, by show 0 < 1000; decide, ?_⟩
      have hp1n : H p1 = none := by
        cases e : H p1 with
        | none => rfl
        | some u => rw [s04 _ _ e] at hp1; cases hp1
      have k5 : ∀ b u, b ≠ x → H b = some u → upd (upd H4 p1 (.lst (ss.map V.str))) x (.ins CS dx (putF "settings" (.ref p1) [])) b = some u := fun b u hb e => by
        rw [upd_ne hb, upd_ne (ne_of_none e hp1n)]; exact s04 _ _ e
      have lrx : lr ≠ x := ne_of hlr hx (by intro z; cases z)
      have tx : ∀ r ∈ rl, r.1 ≠ x := fun r hr => ne_of (htup r hr) hx (by intro z; cases z)
      refine ⟨_, rfl, lr, _, rfl, SqL.of (k5 _ _ lrx hlr), rl, rfl, fun r hr => k5 _ _ (tx r hr) (htup r hr), by omega, fun p2 es ep out hp2 hsys hkey hsub hall hnd hle => ?_⟩
      have hp2x : p2 ≠ x := fun e => by rw [e, upd_same] at hp2; cases hp2
      have hp2p1 : p2 ≠ p1 := fun e => by rw [e, upd_ne (Ne.symm nx1), upd_same] at hp2; cases hp2
      have hp2n : H p2 = none := by
        cases e : H p2 with
        | none => rfl
        | some u => rw [k5 _ _ hp2x e] at hp2; cases hp2
      refine ⟨p2, es, ep, out, rfl, rfl, upd_same, hsys, hkey, fun y hy => ?_, by omega, fun ys q2 hperm2 hq2 => ?_⟩
      · have := htup y (hsub y hy)
        rw [upd_ne (ne_of_none this hp2n)]
        exact k5 _ _ (tx y (hsub y hy)) this
      have hq2p2 : q2 ≠ p2 := fun e => by rw [e, upd_same] at hq2; cases hq2
      rw [upd_ne hq2p2] at hq2
      have hq2x : q2 ≠ x := fun e => by rw [e, upd_same] at hq2; cases hq2
      have hq2p1 : q2 ≠ p1 := fun e => by rw [e, upd_ne (Ne.symm nx1), upd_same] at hq2; cases hq2
      have hq2n : H q2 = none := by
        cases e : H q2 with
        | none => rfl
        | some u => rw [k5 _ _ hq2x e] at hq2; cases hq2
      refine ⟨_, rfl, x, CS, dx, _, rfl, by rw [upd_ne (Ne.symm hq2x), upd_ne (Ne.symm hp2x), upd_same], cS, n2, by show 1 < 1000; decide, ?_⟩
      refine q _ ss ys (fun b u hb e => ?_) ⟨⟨dx, p1, q2, upd_same, ?_, ?_⟩, fun r hr => ?_⟩ hperm hsort ⟨fun y hy => hsub y (hperm2.mem_iff.mp hy), fun y hy => ?_, (hperm2.map _).nodup_iff.mpr hnd, by rw [hperm2.length_eq]; exact hle⟩
      · rw [upd_ne hb, upd_ne (ne_of_none e hq2n), upd_ne (ne_of_none e hp2n)]
        exact k5 _ _ hb e
      · rw [upd_ne (Ne.symm nx1), upd_ne (Ne.symm hq2p1), upd_ne (Ne.symm hp2p1), upd_ne (Ne.symm nx1), upd_same]
      · rw [upd_ne hq2x, upd_same]
      · have hr' := hsub r (hperm2.mem_iff.mp hr)
        have := htup r hr'
        rw [upd_ne (tx r hr'), upd_ne (ne_of_none this hq2n), upd_ne (ne_of_none this hp2n)]
        exact k5 _ _ (tx r hr') this
      · obtain ⟨z, hz, e⟩ := hall y hy
        exact ⟨z, hperm2.mem_iff.mpr hz, e⟩
end
end Ws
end
section
/-! {**d, k: v} -/
namespace Ws
open PySem PySem.Spec PyProof.Rows L2
section
variable {prog : Program} {w : World} {A : Around} {E : Value → Shared → Prop} {s : Shared}
theorem dictPut_of {d : Addr} {kvs : List (Key × Value)} {k : Key} {key v : Value} {Q : Unit → Shared → Prop} (hkey : (mixKind prog w).is k key = true) (hm : s.heap.DictOf (mixKind prog w) d kvs)
    (hQ : ∀ h', h'.DictOf (mixKind prog w) d (stored kvs k v) → Heap.SameBut d s.heap h' → Q () { s with heap := h' })
    (hsz : kvs.length ≤ sizeLine) :
    wpAny (model prog w) A (dictPut d ((mixKind prog w).hash k) key v) Q E s := by
  obtain ⟨o, es, ep, ho, hc, hd, hk, hp, hn⟩ := hm
  have hes : es.size ≤ sizeLine := by
    have e1 := hp.length
    have e2 : es.toList.length = es.size := by simp
    omega
  unfold dictPut
  refine wpAny_bind (wpAny_dictFind_of hkey ho hd hk ?_)
  have hidx : (es.findIdx? fun e => (mixKind prog w).is k e.key) = kvs.findIdx? fun kv => decide (kv.1 = k) := by
    rw [← hp.findIdx k]; obtain ⟨l⟩ := es; simp
  cases hi : es.findIdx? fun e => (mixKind prog w).is k e.key with
  | some i =>
    refine wpAny_updateDict ho hd (hQ _ ⟨_, _, ep, Heap.get?_update_self _ ho (Obj.isFreed_of_dict (Obj.data_mapDict hd _)),
      hc.mapDict _, Obj.data_mapDict hd _, hk.modify _ _, ?_, ?_⟩ (Heap.SameBut.update ..))
    · rw [stored, if_pos (any_of_findIdx_some (hidx ▸ hi))]
      have hl : (es.toList.findIdx? fun e => (mixKind prog w).is k e.key) = some i := by rw [← hi]; obtain ⟨l⟩ := es; simp
      have := hp.modify hn hl v
      obtain ⟨l⟩ := es
      simpa using this
    · rw [stored, if_pos (any_of_findIdx_some (hidx ▸ hi)), keys_map_store]; exact hn
  | none =>
    have hnot : k ∉ kvs.map (·.1) := not_mem_of_findIdx_none (hidx ▸ hi)
    have hany : ¬ (kvs.any fun kv => decide (kv.1 = k)) = true := by
      rw [List.any_eq_true]; rintro ⟨kv, hkv, he⟩
      exact hnot (List.mem_map.mpr ⟨kv, hkv, of_decide_eq_true he⟩)
    refine wpAny_updateDictKeys (hz := hes) ho hd (hQ _ ⟨_, _, ep + 1, Heap.get?_update_self _ ho (Obj.isFreed_of_dict (Obj.data_mapDictKeys hd _)),
      hc.mapDictKeys _, Obj.data_mapDictKeys hd _, hk.push hkey _, ?_, ?_⟩ (Heap.SameBut.update ..))
    · rw [stored, if_neg hany]
      have := hp.append hkey ((mixKind prog w).hash k) v
      obtain ⟨l⟩ := es
      simpa using this
    · rw [stored, if_neg hany, List.map_append, List.nodup_append]
      refine ⟨hn, by simp, ?_⟩
      intro a ha b hb
      simp only [List.map_cons, List.map_nil, List.mem_singleton] at hb
      subst hb
      exact fun e => hnot (e ▸ ha)
theorem mergeMapping_of {d o : Addr} {kvs more : List (Key × Value)} {Q : Unit → Shared → Prop} (hdo : d ≠ o) (hoS : (o == sysModules) = false)
    (hd : s.heap.DictOf (mixKind prog w) d kvs) (ho : s.heap.DictOf (mixKind prog w) o more)
    (hQ : ∀ h', h'.DictOf (mixKind prog w) d (merged kvs more) → Heap.SameBut d s.heap h' → Q () { s with heap := h' })
    (hsz : kvs.length + more.length ≤ sizeLine) :
    wpAny (model prog w) A (mergeMapping d (.ref o) false) Q E s := by
  obtain ⟨od, esd, epd, hod, hcd, hdd, hkd, hpd, hnd⟩ := id hd
  obtain ⟨oo, eso, epo, hoo, hco, hdo', hko, hpo, hno⟩ := id ho
  have hlen : more.length = eso.size := by rw [← hpo.length]; simp
  unfold mergeMapping
  refine wpAny_bind (wpAny_isInstance ho.typeIs isSubtype_dict_dict ?_)
  simp only [if_true]
  refine wpAny_bind (wpAny_specialOf ho.typeIs F.slot_dict_iter.lookup ?_)
  simp only [beq_self_eq_true]
  refine wpAny_bind (wpAny_pure ?_)
  show wpAny _ _ (if (o == sysModules) = true then _ else _) _ _ _
  rw [if_neg (by rw [hoS]; exact Bool.false_ne_true)]
  have loop : wpAny (model prog w) A (do
      let l ← dictEntries o
      let epoch ← dictEpoch o
      forIn (List.range l.size) PUnit.unit fun i (_ : PUnit) => (do
          let l' ← dictEntries o
          match l'[i]? with
            | some e => do
              holding [e.key, e.val] (if false = true then (do
                let f ← dictFind d e.key e.hash
                if f.isSome = true then do
                  rule "dict.merge.duplicate-key"
                  let x ← newExc (Value.type "KeyError") [e.key]
                  (raiseNew x : Sem PUnit)
                  dictPut d e.hash e.key e.val
                else dictPut d e.hash e.key e.val) else dictPut d e.hash e.key e.val)
              let ep' ← dictEpoch o
              if (ep' != epoch) = true then do
                  (unsupported "dict.changed-during-merge" : Sem PUnit)
                  pure (ForInStep.yield PUnit.unit)
                else pure (ForInStep.yield PUnit.unit)
            | _ => do
              (unsupported "dict.changed-during-merge" : Sem PUnit)
              pure (ForInStep.yield PUnit.unit) : Sem (ForInStep PUnit))
      pure ()) Q E s := by
    refine wpAny_bind (wpAny_dictEntries hoo hdo' ?_)
    refine wpAny_bind (wpAny_dictEpoch hoo hdo' ?_)
    refine wpAny_bind ?_
    rw [List.range_eq_range']
    refine wpAny_forIn_list _
      (fun rest _ s' => ∃ h' i, s' = { s with heap := h' } ∧ rest = List.range' i (eso.size - i) ∧ i ≤ eso.size ∧ h'.DictOf (mixKind prog w) d (merged kvs (more.take i)) ∧ h'.get? o = some oo ∧ Heap.SameBut d s.heap h')
      _ ?_ ?_ _ _ ⟨s.heap, 0, rfl, by simp, Nat.zero_le _, by simpa [merged] using hd, hoo, Heap.SameBut.refl _ _⟩
    · rintro x rest b s' ⟨h', i, rfl, hr, hi, hd', hoo', hs'⟩
      have hlt : i < eso.size := by
        rcases Nat.lt_or_ge i eso.size with h | h
        · exact h
        · rw [Nat.sub_eq_zero_of_le h] at hr; simp at hr
      obtain ⟨rfl, hrest⟩ : x = i ∧ rest = List.range' (i + 1) (eso.size - (i + 1)) := by
        have e : eso.size - i = (eso.size - (i + 1)) + 1 := by omega
        rw [e, List.range'_succ] at hr
        injection hr with h1 h2
        exact ⟨h1, h2⟩
      refine wpAny_bind (wpAny_dictEntries hoo' hdo' ?_)
      rw [Array.getElem?_eq_getElem hlt]
      obtain ⟨kv, hkv⟩ : ∃ kv, more[x]? = some kv := ⟨more[x]'(by rw [hlen]; exact hlt), List.getElem?_eq_getElem _⟩
      obtain ⟨k, v⟩ := kv
      obtain ⟨hkey, hval⟩ := hpo.get? (e := eso[x]) (by simp [hlt]) hkv
      obtain ⟨k', hkey', hhash⟩ := hko eso[x] (Array.getElem_mem hlt)
      obtain rfl : k' = k := (mixKind prog w).inj _ _ _ hkey' hkey
      show wpAny _ _ (holding [eso[x].key, eso[x].val] (if false = true then _ else dictPut d eso[x].hash eso[x].key eso[x].val) >>= _) _ _ _
      rw [if_neg Bool.false_ne_true, hhash, hval]
      have hmx : (merged kvs (more.take x)).length ≤ sizeLine := by
        have e1 := merged_length_le kvs (more.take x)
        have e2 : (more.take x).length ≤ more.length := by rw [List.length_take]; omega
        omega
      refine wpAny_bind (wpAny_holding (dictPut_of hkey hd' (fun h'' hd'' hs'' => ?_) hmx))
      have hoo'' : h''.get? o = some oo := (hs''.2 o (Ne.symm hdo)).trans hoo'
      refine wpAny_bind (wpAny_dictEpoch hoo'' hdo' ?_)
      rw [if_neg (by simp)]
      exact wpAny_pure ⟨h'', x + 1, rfl, hrest, hlt, by rw [merged_take_succ kvs more x (k', v) hkv]; exact hd'', hoo'', hs'.trans hs''⟩
    · rintro b s' ⟨h', i, rfl, hr, hi, hd', hoo', hs'⟩
      have hin : i = eso.size := by
        rcases Nat.lt_or_ge i eso.size with h | h
        · have e : eso.size - i = (eso.size - (i + 1)) + 1 := by omega
          rw [e, List.range'_succ] at hr; exact nomatch hr
        · exact Nat.le_antisymm hi h
      refine wpAny_pure (hQ h' ?_ hs')
      rw [hin, ← hlen, List.take_length] at hd'; exact hd'
  refine wpAny_bind (wpAny_dictEntries hod hdd ?_)
  split
  · refine wpAny_bind (wpAny_dictEntries hoo hdo' ?_)
    refine wpAny_bind ?_
    rw [← Array.forIn_toList]
    refine wpAny_forIn_list _ (fun rest _ s' => s' = s ∧ ∀ e ∈ rest, ∃ k, keyIs k e.key = true) _ ?_ ?_ _ _ ⟨rfl, fun e he => ?_⟩
    · rintro x rest b s' ⟨rfl, hr⟩
      obtain ⟨k, hk⟩ := hr x List.mem_cons_self
      have fin : wpAny (model prog w) A (pure (ForInStep.yield PUnit.unit) : Sem (ForInStep PUnit)) (fun r s'' => match r with
        | .yield b' => s'' = s' ∧ ∀ e ∈ rest, ∃ k, keyIs k e.key = true
        | .done _ => False) E s' := wpAny_pure ⟨rfl, fun e he => hr e (List.mem_cons_of_mem _ he)⟩
      rcases keyIs_shape hk with ⟨i, t, rfl, e⟩ | ⟨i, t, rfl, e⟩
      · rw [e]; exact wpAny_pure ⟨rfl, fun e he => hr e (List.mem_cons_of_mem _ he)⟩
      · rw [e]; exact wpAny_pure ⟨rfl, fun e he => hr e (List.mem_cons_of_mem _ he)⟩
    · rintro b s' ⟨rfl, _⟩
      exact loop
    · obtain ⟨k', h1, _⟩ := hko e (by simpa using he)
      exact ⟨k', h1⟩
  · exact loop
end
end Ws
end
section
namespace Ws
open PySem PySem.Spec PyProof.Rows L2
/-- {**m, k: v}, m a dict of ints and texts -/
def tUpd1 (te tk tv : TE) : TE := fun σ H Q => ∀ d, H d = none → te σ (upd H d (.dK [])) fun x H1 => ∃ a kvs, x = .ref a ∧ H1 a = some (.dK kvs) ∧ H1 d = some (.dK []) ∧ a ≠ d ∧ kvs.length < sizeLine ∧ (kvs.map (·.1)).Nodup ∧
  ∀ sub, upd H1 d (.dK kvs) sub = none → tk σ (upd (upd H1 d (.dK kvs)) sub (.dK [])) fun y H2 => tv σ H2 fun z H3 => ∃ key, y = kV key ∧ H3 sub = some (.dK []) ∧ H3 d = some (.dK kvs) ∧
    Q (.ref d) (upd (upd H3 sub (.dK [(key, z)])) d (.dK (putK kvs key z)))
theorem pe_upd1 {X : Cx} {m k v : Expr} {pos : Pos} {te tk tv : TE} (he : PE X m te) (hk : PE X k tk) (hv : PE X v tv) : PE X (.Dict [none, some k] [m, v] pos) (tUpd1 te tk tv) := by
  refine ⟨fun pins s σ H Q I h => ?_⟩
  rw [arm_eval_Dict]
  refine wpAny_bind (wpAny_standAt ?_)
  show wpAny _ _ (dictDisplay [(none, do let x ← eval m X.env; standAt pos; pure x), (some (eval k X.env), do let x ← eval v X.env; standAt pos; pure x)]) _ _ _
  unfold dictDisplay
  simp only [List.forIn_cons, List.forIn_nil, List.isEmpty_nil, if_true]
  have hn := I.hok.fresh (Nat.le_refl s.heap.objs.size)
  have I1 := I.laid (a := s.heap.objs.size) (o := .dK []) (h' := s.heap.push { cls := .type "dict", data := .dict #[] }) (t' := s.toks) (fun _ _ q => Heap.get?_push_of_some _ q) (Nat.le_refl _) (dk_empty s.heap I.big)
  refine wpAny_bind (wpAny_bind (wpAny_bind (wpAny_pure ?_)))
  refine wpAny_bind (wpAny_alloc ?_)
  refine wpAny_bind (wpAny_holding (wpAny_bind (thn (he.run pins _ σ _ _ I1 (h _ hn)) fun u s1 ⟨x, H1, I2, rx, a, kvs, ex, ha, hd, nad, hlt, ndk, q⟩ => wpAny_bind (wpAny_standAt (wpAny_pure ?_)))))
  subst ex
  obtain rfl : u = Value.ref a := rx
  obtain ⟨z1, lo1, vs1, rk1, dd1⟩ := dk_of I2.hok hd
  cases rk1
  obtain ⟨z2, lo2, vs2, rk2, dd2⟩ := dk_of I2.hok ha
  have hl2 : kvs.length = vs2.length := Paired.length rk2
  have nd2 : (vs2.map (·.1)).Nodup := by rw [← KV.keys rk2]; exact ndk
  refine wpAny_bind (wpAny_onRaise (wpAny_tryCatch (wpAny_onRaise (wpAny_holding (mergeMapping_of (Ne.symm nad) lo2 dd1 dd2 (fun h' dd' hs => ?_) (by simp; omega))))))
  rw [merged_nil_of_nodup vs2 nd2] at dd'
  have he1 : ∃ q, h'.get? s.heap.objs.size = some q := let ⟨q, _, _, hq, _⟩ := dd'; ⟨q, hq⟩
  have I3 : Inv X pins σ (upd H1 s.heap.objs.size (.dK kvs)) { s1 with heap := h' } := d_write (t' := s1.toks) I2 (by rw [hd]; exact True.intro) hs he1 (dk_new z2 lo1 rk2 dd')
  refine wpAny_pure ?_
  simp only [List.nil_append, List.length_singleton, List.isEmpty_cons, Bool.false_eq_true, if_false]
  rw [if_neg (by decide)]
  refine wpAny_bind (wpAny_pure (wpAny_pure ?_))
  simp only [List.isEmpty_cons, Bool.false_eq_true, if_false]
  refine wpAny_bind (wpAny_bind (wpAny_holding ?_))
  unfold subDict
  refine wpAny_bind (wpAny_alloc (wpAny_bind (wpAny_holding ?_)))
  have hn3 := I3.hok.fresh (Nat.le_refl h'.objs.size)
  have I4 := I3.laid (a := h'.objs.size) (o := .dK []) (h' := h'.push { cls := .type "dict", data := .dict #[] }) (t' := s1.toks) (fun _ _ q => Heap.get?_push_of_some _ q) (Nat.le_refl _) (dk_empty h' I3.big)
  rw [if_pos (by show 1 ≤ 15; decide)]
  refine wpAny_bind ?_
  unfold evalPairs
  refine wpAny_bind (thn (hk.run pins _ σ _ _ I4 (q _ hn3)) fun ku s2 ⟨y, H2, I5, ry, q2⟩ => ?_)
  refine wpAny_bind (wpAny_holding (wpAny_bind (thn (hv.run pins s2 σ H2 _ I5 q2) fun vu s3 ⟨zv, H3, I6, rz, key, ek, hsub, hd3, q3⟩ => wpAny_bind (wpAny_standAt (wpAny_pure ?_)))))
  subst ek
  unfold evalPairs
  refine wpAny_bind (wpAny_holding (wpAny_pure (wpAny_pure ?_)))
  refine wpAny_holding ?_
  simp only [List.forIn_cons, List.forIn_nil]
  obtain ⟨z4, lo4, vs4, rk4, dd4⟩ := dk_of I6.hok hsub
  cases rk4
  obtain ⟨z5, lo5, vs5, rk5, dd5⟩ := dk_of I6.hok hd3
  have nds : @Ne Nat s.heap.objs.size h'.objs.size := fun e => by
    have e2 := hn3
    rw [← e, upd_same] at e2
    cases e2
  refine wpAny_bind (wpAny_bind (wpAny_bind (wpAny_dictSet_pairs (knd := mixKind X.prog X.w) (hsz := Nat.zero_le _) (kV_is ry) dd4 fun h2 dd6 hs2 => wpAny_pure (wpAny_pure (wpAny_pure ?_)))))
  have he2 : ∃ q, h2.get? h'.objs.size = some q := let ⟨q, _, _, hq, _⟩ := dd6; ⟨q, hq⟩
  have I7 : Inv X pins σ (upd H3 h'.objs.size (.dK (putK [] key zv))) { s3 with heap := h2, toks := s3.toks + 1 } := d_write (t' := s3.toks + 1) I6 (by rw [hsub]; exact True.intro) hs2 he2 (dk_new (by show (putK [] key zv).length ≤ _; exact Nat.le_trans (length_putK _ _ _) (by decide)) lo4 (KV.put .nil key rz) dd6)
  have dd7 : h2.DictOf (mixKind X.prog X.w) s.heap.objs.size vs5 := by
    obtain ⟨o, es, ep, ho, r⟩ := dd5
    exact ⟨o, es, ep, (hs2.2 _ nds).trans ho, r⟩
  refine wpAny_pure ?_
  refine wpAny_bind (wpAny_onRaise (wpAny_holding (mergeMapping_of (s := { s3 with heap := h2, toks := s3.toks + 1 }) nds lo4 dd7 dd6 (fun h3 dd8 hs3 => ?_) ?_)))
  · have he3 : ∃ q, h3.get? s.heap.objs.size = some q := let ⟨q, _, _, hq, _⟩ := dd8; ⟨q, hq⟩
    have hl5 : kvs.length = vs5.length := Paired.length rk5
    have hz : (putK kvs key zv).length ≤ sizeLine := by have := length_putK kvs key zv; omega
    have I8 : Inv X pins σ (upd (upd H3 h'.objs.size (.dK (putK [] key zv))) s.heap.objs.size (.dK (putK kvs key zv))) { s3 with heap := h3, toks := s3.toks + 1 } :=
      d_write (s := { s3 with heap := h2, toks := s3.toks + 1 }) (t' := s3.toks + 1) I7 (by rw [upd_ne nds, hd3]; exact True.intro) hs3 he3 (dk_new hz lo5 (rk5.put key rz) dd8)
    exact wpAny_pure (wpAny_pure ⟨.ref s.heap.objs.size, _, I8, rfl, q3⟩)
  · have hl5 : kvs.length = vs5.length := Paired.length rk5
    show vs5.length + 1 ≤ sizeLine
    omega
end Ws
end
section
/-! Prices -/
namespace Ws
open PySem PySem.Spec PyProof.Rows L2
abbrev sPrInit : Stmt := mth 47 0
abbrev sWith : Stmt := mth 47 4
abbrev sFixed : Stmt := mth 47 5
abbrev sPair : Stmt := mth 47 6
def PrAt (CP : Addr) (H : Hp) (x : Addr) (a b : Int) (kvs : List (Key × V)) : Prop := ∃ dx gp od, H x = some (.ins CP dx [("general", .ref gp), ("own", .ref od)]) ∧ H gp = some (.tup [.int a, .int b]) ∧ H od = some (.dK kvs)
theorem PrAt.same {CP : Addr} {H H' : Hp} {x : Addr} {a b : Int} {kvs : List (Key × V)} (p : PrAt CP H x a b kvs) (s : Same H H') : PrAt CP H' x a b kvs :=
  let ⟨dx, gp, od, h1, h2, h3⟩ := p
  ⟨dx, gp, od, s _ _ h1, s _ _ h2, s _ _ h3⟩
/-- .. the dict of its own prices was not there in H0 -/
def PrNew (CP : Addr) (H0 H : Hp) (x : Addr) (a b : Int) (kvs : List (Key × V)) : Prop := ∃ dx gp od, H0 od = none ∧ H x = some (.ins CP dx [("general", .ref gp), ("own", .ref od)]) ∧ H gp = some (.tup [.int a, .int b]) ∧ H od = some (.dK kvs)
theorem PrNew.at {CP : Addr} {H0 H : Hp} {x : Addr} {a b : Int} {kvs : List (Key × V)} (p : PrNew CP H0 H x a b kvs) : PrAt CP H x a b kvs := let ⟨dx, gp, od, _, h⟩ := p; ⟨dx, gp, od, h⟩
def prOk (a : Int) : Prop := 1 ≤ a ∧ a ≤ 999
theorem prOk.dec {a : Int} (h : prOk a) : (decide (1 ≤ a) && decide (a ≤ 999)) = true := by rw [decide_eq_true h.1, decide_eq_true h.2]; rfl
def spPrI (CP : Addr) : Sp := fun vs H Q _ => ∃ x dx a b, vs = [.ref x, .int a, .int b] ∧ H x = some (.ins CP dx []) ∧ prOk a ∧ prOk b ∧ ∀ H', (∀ y u, y ≠ x → H y = some u → H' y = some u) → PrNew CP H H' x a b [] → Q .non H'
def spFixed (CP : Addr) : Sp := fun vs H Q _ => ∃ x a b kvs n, vs = [.ref x, .str n] ∧ PrAt CP H x a b kvs ∧ Q (.bl (decide (valV kvs (.inr n : Key) = some .non))) H
def spPair (CP : Addr) : Sp := fun vs H Q _ => ∃ x a b kvs n, vs = [.ref x, .str n] ∧ PrAt CP H x a b kvs ∧ ∀ p, H p = none → Q (.ref p) (upd H p (.tup [(valV kvs (.inr n : Key)).getD (.int a), (valV kvs (.inr n : Key)).getD (.int b)]))
def spWith (CP : Addr) : Sp := fun vs H Q _ => ∃ x a b kvs n q, vs = [.ref x, .str n, oiV q] ∧ PrAt CP H x a b kvs ∧ nameOk n ∧ (∀ p, q = some p → prOk p) ∧ prOk a ∧ prOk b ∧ kvs.length ≤ 1000 ∧ (kvs.map (·.1)).Nodup ∧
  ∀ y H', Same H H' → PrNew CP H H' y a b (putK kvs (.inr n) (oiV q)) → Q (.ref y) H'
section
variable {P : Program} {w : World} {K : PySem.W.Frag} {mg : Str → Option Value} {base : Heap} {f fi CP : Addr} {fd fdi : FuncData}
structure PrC (K : PySem.W.Frag) (CP : Addr) : Prop where
  c : Cls K CP
  g : NoAttr K CP "general"
  o : NoAttr K CP "own"
theorem sc_prI : FnScope ["self", "raising", "lowering"] ["self", "raising", "lowering"] (defScope sPrInit) := ⟨rfl, rfl, rfl, by decide +kernel, rfl, by decide +kernel, by decide +kernel⟩
theorem body_prI {A : Around} {cdv : Value} {outer : List Env} {s : Shared} {H : Hp} {vs : List V} {Q : VK} {E : XK} (g : Gm mg) (c : PrC K CP) (c1 : Cal P w K mg base 2 "is_price" spIsPrice) (hr : Room 2 (A.deeper (envOfC "Prices.__init__" (defScope sPrInit) s.heap.objs.size f cdv))) (h : spPrI CP vs H Q E) :
    ∃ t, PSs (cxOf CX0 P w K mg base ["self", "raising", "lowering"] "Prices.__init__" (defScope sPrInit) f cdv A outer s H E).nox (defBody sPrInit) t ∧ t { nx := fun _ H' => Q .non H', rt := Q } (start ["self", "raising", "lowering"] vs) H := by
  obtain ⟨x, dx, a, b, rfl, hx, pa, pb, q⟩ := h
  refine ⟨_, pss_cons (ps_if (PW.pt (pw_or (pt_not (pt_val (pe_f (X := Cx.nox _) c1 hr (pa_cons (pv 1) pa_nil)))) (pw_or1 (pt_not (pt_val (pe_f (X := Cx.nox _) c1 hr (pa_cons (pv 2) pa_nil))))))) pss_never pss_nil)
    (pss_cons (ps_fld (pv 0) (pe_tup (pa_cons (pv 1) (pa_cons (pv 2) pa_nil))) rfl) (pss_one (ps_fld (pv 0) pe_dnewK rfl))), ?_⟩
  refine ⟨_, rfl, a, rfl, _, rfl, ?_⟩
  rw [pa.dec]
  refine iteF ⟨_, rfl, b, rfl, _, rfl, ?_⟩
  rw [pb.dec]
  refine iteF ⟨_, rfl, _, rfl, by show 2 ≤ sizeLine; decide, fun p hp => ?_⟩
  have nxp : x ≠ p := ne_of_none hx hp
  refine ⟨_, rfl, x, CP, dx, _, rfl, by rw [upd_ne nxp]; exact hx, c.c, c.g, by show 0 < 1000; decide, fun d hd => ?_⟩
  have ndx : d ≠ x := fun e => by rw [e, upd_same] at hd; cases hd
  rw [upd_ne ndx] at hd
  have ndp : d ≠ p := fun e => by rw [e, upd_same] at hd; cases hd
  rw [upd_ne ndp] at hd
  have hd' : H d = none := hd
  refine ⟨_, rfl, x, CP, dx, _, rfl, by rw [upd_ne (Ne.symm ndx), upd_same], c.c, c.o, by show 1 < 1000; decide, ?_⟩
  refine q _ (fun y u hy e => ?_) ⟨dx, p, d, hd', upd_same, ?_, ?_⟩
  · rw [upd_ne hy, upd_ne (ne_of_none e hd), upd_ne hy, upd_ne (ne_of_none e hp)]; exact e
  · rw [upd_ne (Ne.symm nxp), upd_ne (Ne.symm ndp), upd_ne (Ne.symm nxp), upd_same]
  · rw [upd_ne ndx, upd_same]
theorem sc_fixed : FnScope ["self", "name"] ["self", "name"] (defScope sFixed) := ⟨rfl, rfl, rfl, by decide +kernel, rfl, by decide +kernel, by decide +kernel⟩
theorem ok_fixed (F : Fun K "is_fixed" "Prices.is_fixed" sFixed f fd) (c : PrC K CP) : FnOk P w K mg base CX0 1 f fd ["self", "name"] (spFixed CP) := by
  refine F.ok sc_fixed (fun vs H Q E h => ?_) (fun cdv A outer s H vs Q E hr h => ?_)
  · obtain ⟨x, a, b, kvs, n, rfl, _⟩ := h
    rfl
  · obtain ⟨x, a, b, kvs, n, rfl, ⟨dx, gp, od, hx, hg, ho⟩, q⟩ := h
    have hu := hu_of hr
    refine ⟨_, pss_one (ps_ret (pe_and (pe_cmp (pc_din hu (pv 1) (pe_fld (pv 0) rfl))) (pe_one (pe_cmp (pc_isN (pe_dget hu (pe_fld (pv 0) rfl) (pv 1) (fun _ _ => rfl))))))), ?_⟩
    refine ⟨_, rfl, _, rfl, x, CP, dx, _, _, rfl, hx, c.c, c.o, rfl, od, _, rfl, DGet.k (k := Sum.inr n) ho, _, rfl, ?_⟩
    cases e : valV kvs (.inr n : Key) with
    | none =>
      rw [e] at q
      exact iteF q
    | some v =>
      rw [e] at q
      refine iteT ⟨_, rfl, x, CP, dx, _, _, rfl, hx, c.c, c.o, rfl, _, rfl, od, v, rfl, by have := DGet.k (k := Sum.inr n) ho; rw [e] at this; exact this, ?_⟩
      rw [show decide (some v = some V.non) = decide (v = V.non) from by
        by_cases h : v = V.non
        · subst h; rfl
        · rw [decide_eq_false h, decide_eq_false (fun z => h (Option.some.inj z))]] at q
      exact q
theorem sc_pair : FnScope ["self", "name"] ["self", "name"] (defScope sPair) := ⟨rfl, rfl, rfl, by decide +kernel, rfl, by decide +kernel, by decide +kernel⟩
theorem ok_pair (F : Fun K "pair_of" "Prices.pair_of" sPair f fd) (c : PrC K CP) : FnOk P w K mg base CX0 1 f fd ["self", "name"] (spPair CP) := by
  refine F.ok sc_pair (fun vs H Q E h => ?_) (fun cdv A outer s H vs Q E hr h => ?_)
  · obtain ⟨x, a, b, kvs, n, rfl, _⟩ := h
    rfl
  · obtain ⟨x, a, b, kvs, n, rfl, ⟨dx, gp, od, hx, hg, ho⟩, q⟩ := h
    have hu := hu_of hr
    have tg : SqT K H gp [.int a, .int b] := SqT.of hg
    refine ⟨_, pss_one (ps_ret (pe_tup (pa_cons (pe_dget2 hu (pe_fld (pv 0) rfl) (pv 1) (pe_ix ix_tup (pe_fld (pv 0) rfl) pe_int (fun _ _ => rfl)) ⟨rfl, rfl, rfl, rfl⟩) (pa_cons (pe_dget2 hu (pe_fld (pv 0) rfl) (pv 1) (pe_ix ix_tup (pe_fld (pv 0) rfl) pe_int (fun _ _ => rfl)) ⟨rfl, rfl, rfl, rfl⟩) pa_nil)))), ?_⟩
    refine ⟨_, rfl, x, CP, dx, _, _, rfl, hx, c.c, c.o, rfl, od, rfl, .inl ⟨_, .inl ho⟩, _, rfl, ⟨_, rfl, x, CP, dx, _, _, rfl, hx, c.c, c.g, rfl, gp, _, _, _, rfl, rfl, tg, rfl, _, DGet.k (k := Sum.inr n) ho, ?_⟩⟩
    refine ⟨_, rfl, x, CP, dx, _, _, rfl, hx, c.c, c.o, rfl, od, rfl, .inl ⟨_, .inl ho⟩, _, rfl, ⟨_, rfl, x, CP, dx, _, _, rfl, hx, c.c, c.g, rfl, gp, _, _, _, rfl, rfl, tg, rfl, _, DGet.k (k := Sum.inr n) ho, ?_⟩⟩
    exact ⟨by show 2 ≤ sizeLine; decide, q⟩
theorem sc_with : FnScope ["self", "name", "price", "found"] ["self", "name", "price"] (defScope sWith) := ⟨rfl, rfl, rfl, by decide +kernel, rfl, by decide +kernel, by decide +kernel⟩
theorem ok_with (F : Fun K "with_price" "Prices.with_price" sWith f fd) (g : Gm mg) (c : PrC K CP) (c1 : Cal P w K mg base 2 "is_price" spIsPrice) (c2 : Cal P w K mg base 1 "is_name" spIsName)
    (M : Mk K CP fi) (Fi : FnOk P w K mg base CX0 3 fi fdi ["self", "raising", "lowering"] (spPrI CP)) (kb : KBn K fdi ["self", "raising", "lowering"] 1 ["raising", "lowering"] (fun us ws => us ++ ws) (fun vs zs => vs ++ zs)) (mP : mg "Prices" = some (.ref CP)) :
    FnOk P w K mg base CX0 5 f fd ["self", "name", "price"] (spWith CP) := by
  refine F.ok sc_with (fun vs H Q E h => ?_) (fun cdv A outer s H vs Q E hr h => ?_)
  · obtain ⟨x, a, b, kvs, n, q, rfl, _⟩ := h
    rfl
  · obtain ⟨x, a, b, kvs, n, qp, rfl, ⟨dx, gp, od, hx, hg, ho⟩, nn, pq, pa, pb, hl, ndk, q⟩ := h
    have hu := hu_of hr
    have nd := sc_with.nd
    have tg : ∀ {H1 : Hp}, Same H H1 → SqT K H1 gp [.int a, .int b] := fun s => SqT.of (s _ _ hg)
    refine ⟨_, pss_cons (ps_if (PW.pt (pw_or (pt_not (pt_val (pe_f (X := Cx.nox _) c2 hr (pa_cons (pv 1) pa_nil)))) (pw_or1 (PW.pt (pw_and (pt_cmp (pc_notN (pv 2))) (pw_and1 (pt_not (pt_val (pe_f (X := Cx.nox _) c1 hr (pa_cons (pv 2) pa_nil)))))))))) pss_never pss_nil)
      (pss_cons (ps_set (i := 3) nd rfl (Or.inl rfl) (pe_makeK0 M Fi (hr.mono (by decide)) rfl mP kb pass0 (pk_cons (pe_ix ix_tup (pe_fld (pv 0) rfl) pe_int (fun _ _ => rfl)) (pk_cons (pe_ix ix_tup (pe_fld (pv 0) rfl) pe_int (fun _ _ => rfl)) pk_nil))))
      (pss_cons (ps_fld (pv 3) (pe_upd1 (pe_fld (pv 0) rfl) (pv 1) (pv 2)) rfl) (pss_one (ps_ret (pv 3))))), ?_⟩
    refine ⟨_, rfl, n, rfl, nn, fun H1 s1 => ⟨true, rfl, iteF ?_⟩⟩
    have mk : ∀ R : Bool → Hp → Prop, R false H1 → tAnd (tB (tNotN (tVar 2))) (tNot (tB (tCall spIsPrice [] E0 (tCons (tVar 2) tNil)))) (L2.start ["self", "name", "price", "found"] [.ref x, .str n, oiV qp]) H1 R := fun R r => by
      cases qp with
      | none => exact ⟨_, rfl, _, rfl, iteF r⟩
      | some p => exact ⟨_, rfl, _, rfl, iteT ⟨_, rfl, p, rfl, _, rfl, by rw [(pq p rfl).dec]; exact r⟩⟩
    refine mk _ (iteF ?_)
    refine ⟨_, rfl, x, CP, dx, _, _, rfl, s1 _ _ hx, c.c, c.g, rfl, gp, _, _, _, rfl, rfl, tg s1, rfl, _, rfl, x, CP, dx, _, _, rfl, s1 _ _ hx, c.c, c.g, rfl, gp, _, _, _, rfl, rfl, tg s1, rfl, rfl, rfl, fun y dy hy hdy nyd => ?_⟩
    refine ⟨y, dy, a, b, rfl, upd_same, pa, pb, fun H2 s2 pr => ⟨rfl, ?_⟩⟩
    have s12 : Same H1 H2 := fun z u e => s2 z u (ne_of_none e hy) (by rw [upd_ne (ne_of_none e hy), upd_ne (ne_of_none e hdy)]; exact e)
    have s02 := s1.trans s12
    obtain ⟨dy2, gy, oy, _, hy2, hgy, hoy⟩ := pr
    have yn : H y = none := by
      cases e : H y with
      | none => rfl
      | some u => rw [s1 _ _ e] at hy; cases hy
    intro d hd
    have hdH : H d = none := by
      cases e : H d with
      | none => rfl
      | some u => rw [s02 _ _ e] at hd; cases hd
    have hx3 : upd H2 d (.dK []) x = some (.ins CP dx [("general", .ref gp), ("own", .ref od)]) := by rw [upd_ne (ne_of_none (s02 _ _ hx) hd)]; exact s02 _ _ hx
    refine ⟨_, rfl, x, CP, dx, _, _, rfl, hx3, c.c, c.o, rfl, od, kvs, rfl, ?_, upd_same, ?_, by rw [sizeLine_eq]; omega, ndk, fun sub hsub => ⟨_, rfl, _, rfl, .inr n, rfl, upd_same, ?_, ?_⟩⟩
    · rw [upd_ne (ne_of_none (s02 _ _ ho) hd)]; exact s02 _ _ ho
    · exact ne_of_none (s02 _ _ ho) hd
    · have nds : d ≠ sub := fun e => by rw [← e, upd_same] at hsub; cases hsub
      rw [upd_ne nds, upd_same]
    · have nds : sub ≠ d := fun e => by rw [e, upd_same] at hsub; cases hsub
      rw [upd_ne nds, upd_ne nds] at hsub
      have ny : y ≠ d := ne_of_none hy2 hd
      have ny2 : y ≠ sub := ne_of_none hy2 hsub
      refine ⟨_, rfl, y, CP, dy2, _, rfl, by rw [upd_ne ny, upd_ne ny2, upd_ne ny2, upd_ne ny, upd_ne ny]; exact hy2, c.c, c.o, by show 2 < 1000; decide, ?_⟩
      refine ⟨_, rfl, q y _ (fun z u e => ?_) ⟨dy2, gy, d, hdH, upd_same, ?_, ?_⟩⟩
      · have e2 := s02 _ _ e
        rw [upd_ne (ne_of_none e yn), upd_ne (ne_of_none e2 hd), upd_ne (ne_of_none e2 hsub), upd_ne (ne_of_none e2 hsub), upd_ne (ne_of_none e2 hd), upd_ne (ne_of_none e2 hd)]
        exact e2
      · rw [upd_ne (ne_of hgy hy2 (by intro z; cases z)), upd_ne (ne_of_none hgy hd), upd_ne (ne_of_none hgy hsub), upd_ne (ne_of_none hgy hsub), upd_ne (ne_of_none hgy hd), upd_ne (ne_of_none hgy hd)]
        exact hgy
      · rw [upd_ne (Ne.symm ny), upd_same]
end
end Ws
end
section
/-! are_numbers, check_numbers, Task -/
namespace Ws
open PySem PySem.Spec PyProof.Rows L2
abbrev sAreN : Stmt := top 20
abbrev sCheckN : Stmt := top 21
structure SysC (K : PySem.W.Frag) (CS : Addr) : Prop where
  c : Cls K CS
  s : NoAttr K CS "settings"
  g : NoAttr K CS "gaps"
def numsOk (ss : List Str) (kvs : List (Key × V)) : Prop := kvs.length = ss.length ∧ ∀ n ∈ ss, ∃ i, valV kvs (.inr n : Key) = some (.int i) ∧ -99999 ≤ i ∧ i ≤ 99999
def spAreN (CS : Addr) : Sp := fun vs H Q _ => ∃ x d ss rl kvs, vs = [.ref x, .ref d] ∧ SysAt CS H x ss rl ∧ ss.length < 60 ∧ H d = some (.dK kvs) ∧ numsOk ss kvs ∧ Al Q H (.bl true)
def spCheckN (CS : Addr) : Sp := fun vs H Q _ => ∃ x d ss rl kvs, vs = [.ref x, .ref d] ∧ SysAt CS H x ss rl ∧ ss.length < 60 ∧ H d = some (.dK kvs) ∧ numsOk ss kvs ∧ Al Q H .non
/-- f(e, ..), f by FnR -/
theorem pe_fR {X : Cx} {k j : Nat} {x : Str} {f : Addr} {sp : Sp} {p pos : Pos} {e : Expr} {es : List Expr} {t : TA} (F : FnR X.prog X.w X.K X.mg X.base CX0 k f sp) (hr : Room j X.A) (hm : X.mg x = some (.ref f)) (hk : PySem.W.keepIn X.K (.ref f) = true) (ha : PA X (e :: es) t) (hkj : k ≤ j := by decide) (hg : Gl X x := by rfl)
    (hdb : (x == ("__debug__" : Str)) = false := by decide) (he : starEach (e :: es) X.env = (false, eval e X.env) :: starEach es X.env := by rfl) (hpl : (backTo pos (starEach es X.env)).any (·.1) = false := by rfl) :
    PE X (.Call (.Name x p) (e :: es) [] pos) (fun σ H Q => t σ H fun vs H1 => sp vs H1 Q E0) := by
  refine ⟨fun pins s σ H Q I h => ?_⟩
  refine wpAny_Call_Name_kw (ld_glob I hg hm ?_ hdb)
  refine PySem.W.callWith_K (first := []) (h₀ := X.base) I.ok.mod.kin hk (thn (ha.run pos pins s σ H _ I h) fun us s1 ⟨vs, H1, I1, r, q⟩ => ⟨I1.kIn, ?_⟩) he hpl
  exact wpAny_call (run_fnR F (hr.mono hkj) pass0 I1 r q)
section
variable {P : Program} {w : World} {K : PySem.W.Frag} {mg : Str → Option Value} {base : Heap} {f CS : Addr} {fd : FuncData}
abbrev nAreN : List Str := ["system", "thing", "name"]
theorem sc_areN : FnScope nAreN ["system", "thing"] (defScope sAreN) := ⟨rfl, rfl, rfl, by decide +kernel, rfl, by decide +kernel, by decide +kernel⟩
theorem ok_areN (F : Fun K "are_numbers" "are_numbers" sAreN f fd) (g : Gm mg) (c : SysC K CS) (c1 : Cal P w K mg base 1 "is_integer" spIsInt) : FnOk P w K mg base CX0 3 f fd ["system", "thing"] (spAreN CS) := by
  refine F.ok sc_areN (fun vs H Q E h => ?_) (fun cdv A outer s H vs Q E hr h => ?_)
  · obtain ⟨x, d, ss, rl, kvs, rfl, _⟩ := h
    rfl
  · obtain ⟨x, d, ss, rl, kvs, rfl, sys, hl, hd, ⟨hk, hv⟩, q⟩ := h
    have hu := hu_of hr
    have nd := sc_areN.nd
    obtain ⟨⟨dx, sa, ga, hx, hsa, hga⟩, _⟩ := sys
    refine ⟨_, pss_cons (ps_if (PW.pt (pw_or (pt_not (pt_val (pe_callB call_isi rfl g.isi boot_isinstance (pa_cons (pv 1) (pa_cons (pe_bltn (v := .ty "dict") rfl g.dict boot_dict rfl) pa_nil)))))
      (pw_or1 (pt_cmpR op_ne (pe_callB call_lenD rfl g.len boot_len (pa_cons (pv 1) pa_nil)) (pe_callB call_len rfl g.len boot_len (pa_cons (pe_fld (pv 0) rfl) pa_nil)) (nomark _))))) (pss_one (ps_ret pe_bl)) pss_nil)
      (pss_one (ps_ret (pe_callB (cr_all rfl) rfl g.all boot_all (pa_cons (pe_lc (own := [("name", 2)]) (g := gName 2) (tt := tYes) rfl nd (pi_list (pe_fld (pv 0) rfl)) (blkOk_by (own := [("name", 2)]) (N := nAreN) (sc := defScope sAreN) (by decide +kernel))
        (fun _ _ _ _ _ => pg_name (i := 2) nd rfl (Or.inl rfl)) (fun _ _ _ _ _ => pts_nil)
        (fun _ _ _ _ _ => pe_and (pe_cmp (pc_din hu (pv 2) (pv 1))) (pe_one (pe_f c1 hr (pa_cons (pe_dget hu (pv 1) (pv 2) (fun _ _ => rfl)) (pa_cons (pe_un un_neg (C8.pe_gc rfl g.maxNumber)) (pa_cons (C8.pe_gc rfl g.maxNumber) pa_nil))))))) pa_nil)))), ?_⟩
    refine ⟨_, rfl, _, _, _, _, true, rfl, .ty _, .base (.dK hd), kit_eq, true, rfl, iteF ?_⟩
    refine ⟨_, rfl, d, kvs, rfl, hd, _, rfl, x, CS, dx, _, _, rfl, hx, c.c, c.s, rfl, ⟨_, _, rfl, .inl ⟨_, SqL.of hsa, rfl⟩, rfl, _, rfl, ?_⟩⟩
    rw [List.length_map, hk, decide_eq_true rfl]
    refine iteF ?_
    have sl : ∀ {H1 : Hp}, Same H H1 → SqL K H1 sa (ss.map V.str) := fun s => SqL.of (s _ _ hsa)
    refine ⟨_, rfl, x, CS, dx, _, _, rfl, hx, c.c, c.s, rfl, sa, rfl, ⟨_, sl Same.refl⟩, fun D hD => lc_map walk_list (fun i H v H' y => by rw [y.1]; exact Same.refl) (fun _ => .bl true) (by rw [List.length_map, sizeLine_eq]; omega) hD (fun H' s' => sl s') (fun i v H1 H2 R hi s1 y k => ?_) fun H1 s1 hl => ?_⟩
    · obtain ⟨rfl, hvv⟩ := y
      rw [List.getElem?_map] at hvv
      obtain ⟨n, hn, rfl⟩ := Option.map_eq_some_iff.mp hvv
      obtain ⟨i, e, l1, l2⟩ := hv n (List.mem_of_getElem? hn)
      have dg : DGet H2 d (.str n) (some (.int i)) := by
        have := DGet.k (k := Sum.inr n) (s1 _ _ hd)
        rw [e] at this
        exact this
      refine ⟨rfl, _, rfl, _, rfl, d, _, rfl, dg, true, rfl, iteT ?_⟩
      refine ⟨_, rfl, _, rfl, d, .int i, rfl, dg, _, rfl, i, _, _, rfl, ?_⟩
      rw [decide_eq_true l1, decide_eq_true l2]
      exact k _ Same.refl
    · rw [List.length_map, rep_all] at hl
      exact ⟨D, _, rfl, SqL.of hl, by rw [all_rep]; exact q _ s1⟩
abbrev nCheckN : List Str := ["system", "some", "thing"]
theorem sc_checkN : FnScope nCheckN ["system", "some"] (defScope sCheckN) := ⟨rfl, rfl, rfl, by decide +kernel, rfl, by decide +kernel, by decide +kernel⟩
theorem ok_checkN (F : Fun K "check_numbers" "check_numbers" sCheckN f fd) (g : Gm mg) (c1 : Cal P w K mg base 3 "are_numbers" (spAreN CS)) : FnR P w K mg base CX0 4 f (spCheckN CS) := by
  obtain ⟨oc, od, kV, doc, pm, an, cdv, ct, osl, rfl, lk, hcd⟩ := F.ex
  have nd := sc_checkN.nd
  refine FnR.imp (StX.fn_star (sp := fun vs H Q _ => ∃ x d ss rl kvs p, vs = [.ref x, .ref p] ∧ H p = some (.tup [.ref d]) ∧ SysAt CS H x ss rl ∧ ss.length < 60 ∧ H d = some (.dK kvs) ∧ numsOk ss kvs ∧ Al Q H .non) (ps := ["system"]) lk hcd sc_checkN (fun _ _ _ _ _ _ _ _ _ _ _ z => z) ?_ (fun A outer s H vs Q E hr h => ?_)) fun vs H Q E h => ?_
  · exact StX.bind_star1 (B := fun us => bindArgs _ ⟨us, []⟩) (fun a => rfl) (fun a r rs => rfl)
  · obtain ⟨x, d, ss, rl, kvs, p, rfl, hp, sys, hl, hd, nk, q⟩ := h
    refine ⟨_, pss_one (ps_if (pt_not (pt_val (pe_callB (cr_all rfl) rfl g.all boot_all (pa_cons (pe_lc (own := [("thing", 2)]) (g := gName 2) (tt := tYes) rfl nd (pi_tup (pv 1)) (blkOk_by (own := [("thing", 2)]) (N := nCheckN) (sc := defScope sCheckN) (by decide +kernel))
        (fun _ _ _ _ _ => pg_name (i := 2) nd rfl (Or.inl rfl)) (fun _ _ _ _ _ => pts_nil) (fun _ _ _ _ _ => pe_f c1 hr (pa_cons (pv 0) (pa_cons (pv 2) pa_nil)))) pa_nil)))) pss_never pss_nil), ?_⟩
    have tp : ∀ {H1 : Hp}, Same H H1 → SqT K H1 p [.ref d] := fun s => SqT.of (s _ _ hp)
    refine ⟨_, rfl, p, rfl, ⟨_, tp Same.refl⟩, fun D hD => lc_map walk_tup (fun i H v H' y => by rw [y.1]; exact Same.refl) (fun _ => .bl true) (by show 1 ≤ sizeLine; decide) hD (fun H' s' => tp s') (fun i v H1 H2 R hi s1 y k => ?_) fun H1 s1 hl1 => ?_⟩
    · obtain ⟨rfl, hv⟩ := y
      have hi1 : i < 1 := hi
      have : i = 0 := by omega
      subst this
      cases hv
      exact ⟨rfl, _, rfl, _, rfl, x, d, ss, rl, kvs, rfl, sys.same s1, hl, s1 _ _ hd, nk, k⟩
    · rw [rep_all] at hl1
      refine ⟨D, _, rfl, SqL.of hl1, true, by rw [all_rep], iteF ?_⟩
      exact q _ s1
  · obtain ⟨x, d, ss, rl, kvs, rfl, sys, hl, hd, nk, q⟩ := h
    refine ⟨[.ref x], [.ref d], rfl, rfl, by show 1 ≤ sizeLine; decide, fun p hp => ⟨x, d, ss, rl, kvs, p, rfl, upd_same, sys.same (Same.new hp), hl, Same.new hp _ _ hd, nk, fun H' s' => q _ ((Same.new hp).trans s')⟩⟩
end
end Ws
end
section
/-! Task -/
namespace Ws
open PySem PySem.Spec PyProof.Rows L2
theorem putK_new {kvs : List (Key × V)} {k : Key} {v : V} (h : k ∉ kvs.map (·.1)) : putK kvs k v = kvs ++ [(k, v)] := by
  unfold putK
  rw [if_neg]
  intro e
  obtain ⟨p, hp, q⟩ := List.any_eq_true.mp e
  exact h (List.mem_map.mpr ⟨p, hp, of_decide_eq_true q⟩)
/-- a dict comprehension without a test whose key and value only allocate, the keys different -/
theorem dc_map {J : It} {n : Nat} {G : Hp → Prop} {Y : Nat → Hp → V → Hp → Prop} (w : Walk J n G Y) (hY : ∀ i H x H', Y i H x H' → Same H H') {g : TG} {tk tv : TE} {vs : List Nat} {σ : L2.St} {H1 : Hp} {D : Addr} {Qd : Hp → Prop} (ks : Nat → Key) (e : Nat → V) (hn : n ≤ sizeLine) (hD : H1 D = none)
    (nd : ((List.range n).map ks).Nodup) (hG : ∀ H, Same H1 H → G H)
    (hs : ∀ i x H H' (R : V → V → Hp → Prop), i < n → Same H1 H → Y i H x H' → (∀ H5, Same H' H5 → R (kV (ks i)) (e i) H5) → g x (wipe σ vs) H' fun σ2 H2 => wipe σ2 vs = wipe σ vs ∧ tk σ2 H2 fun y H4 => tv σ2 H4 fun z H5 => R y z H5)
    (hd : ∀ H, Same H1 H → H D = some (.dK ((List.range n).map fun i => (ks i, e i))) → Qd H) :
    ∃ W : Nat → Nat → Hp → Prop, (∃ m, W 0 m (upd H1 D (.dK []))) ∧ ∀ i m H, W i m H →
      (J.stop i H ∧ Qd H) ∨ (J.go i H ∧ ∃ Nx : Hp → Prop, (∀ H', Nx H' → ∃ m', m' < m ∧ W (i + 1) m' H') ∧ ∀ x H', J.yld i H x H' → g x (wipe σ vs) H' fun σ2 H2 => wipe σ2 vs = wipe σ vs ∧ tYes σ2 H2 fun b H3 =>
        if b = true then tk σ2 H3 fun y H4 => tv σ2 H4 fun z H5 => ∃ kvs k, y = kV k ∧ H5 D = some (.dK kvs) ∧ kvs.length < sizeLine ∧ Nx (upd H5 D (.dK (putK kvs k z))) else Nx H3) := by
  refine walkP (Bd := fun x H' Nx => g x (wipe σ vs) H' fun σ2 H2 => wipe σ2 vs = wipe σ vs ∧ tYes σ2 H2 fun b H3 =>
        if b = true then tk σ2 H3 fun y H4 => tv σ2 H4 fun z H5 => ∃ kvs k, y = kV k ∧ H5 D = some (.dK kvs) ∧ kvs.length < sizeLine ∧ Nx (upd H5 D (.dK (putK kvs k z))) else Nx H3) w (fun i H => Same H1 H ∧ H D = some (.dK ((List.range i).map fun i => (ks i, e i)))) ⟨Same.new hD, upd_same⟩ (fun i H _ p => hG H p.1) (fun i x H H' hi p y => ?_) (fun H p => hd H p.1 p.2)
  refine hs i x H H' _ hi p.1 y fun H5 s5 => ⟨_, _, rfl, s5 _ _ (hY _ _ _ _ y _ _ p.2), ?_, ?_, ?_⟩
  · rw [List.length_map, List.length_range]; exact Nat.lt_of_lt_of_le hi hn
  · exact ((p.1.trans (hY _ _ _ _ y)).trans s5).put hD
  · rw [upd_same, putK_new, List.range_succ, List.map_append]
    · rfl
    · intro hm
      have e1 : ((List.range i).map fun i => (ks i, e i)).map (·.1) = (List.range i).map ks := by rw [List.map_map]; rfl
      rw [e1] at hm
      obtain ⟨j, hj, ej⟩ := List.mem_map.mp hm
      have hj' := List.mem_range.mp hj
      have h1 : ((List.range n).map ks)[j]? = some (ks j) := by rw [List.getElem?_map, List.getElem?_range (by omega)]; rfl
      have h2 : ((List.range n).map ks)[i]? = some (ks i) := by rw [List.getElem?_map, List.getElem?_range hi]; rfl
      have := (List.getElem?_inj (by rw [List.length_map, List.length_range]; omega) nd).mp (h1.trans ((congrArg some ej).trans h2.symm))
      omega
abbrev sTInit : Stmt := mth 48 0
abbrev sTSys : Stmt := mth 48 1
abbrev sTPr : Stmt := mth 48 3
abbrev sTFirm : Stmt := mth 48 4
/-- a task: settings, rules, prices (general, own), old numbers -/
structure Tk where
  ss : List Str
  rl : List (Addr × Rule)
  up : Int
  lo : Int
  own : List (Key × V)
  old : Str → Int
def Tk.firm (t : Tk) : Nd → Bool
  | none => true
  | some n => decide (valV t.own (.inr n : Key) = some .non)
def oldK (ss : List Str) (old : Str → Int) : List (Key × V) := ss.map fun n => (Sum.inr n, V.int (old n))
structure TAd where
  CT : Addr
  CS : Addr
  CP : Addr
structure TaskAt (C : TAd) (H : Hp) (x : Addr) (t : Tk) (sy p0 od : Addr) : Prop where
  ex : ∃ dx tp, H x = some (.ins C.CT dx [("parts", .ref tp), ("old", .ref od)]) ∧ H tp = some (.tup [.ref sy, .ref p0])
  old : H od = some (.dK (oldK t.ss t.old))
  sys : SysAt C.CS H sy t.ss t.rl
  pr : PrAt C.CP H p0 t.up t.lo t.own
  sep : ∀ dp gp op, H p0 = some (.ins C.CP dp [("general", .ref gp), ("own", .ref op)]) → op ≠ od
theorem TaskAt.same {C : TAd} {H H' : Hp} {x sy pr od : Addr} {t : Tk} (a : TaskAt C H x t sy pr od) (s : Same H H') : TaskAt C H' x t sy pr od :=
  ⟨let ⟨dx, tp, h1, h2⟩ := a.ex; ⟨dx, tp, s _ _ h1, s _ _ h2⟩, s _ _ a.old, a.sys.same s, a.pr.same s, fun dp gp op h => by
    obtain ⟨d1, g1, o1, h1, _, _⟩ := a.pr
    refine a.sep dp gp op ?_
    rw [h1, ← s _ _ h1, h]⟩
/-- .. its numbers left aside -/
structure TaskP (C : TAd) (H : Hp) (x : Addr) (t : Tk) (sy pr od : Addr) : Prop where
  ex : ∃ dx tp, H x = some (.ins C.CT dx [("parts", .ref tp), ("old", .ref od)]) ∧ H tp = some (.tup [.ref sy, .ref pr])
  pr : PrAt C.CP H pr t.up t.lo t.own
theorem TaskAt.p {C : TAd} {H : Hp} {x sy pr od : Addr} {t : Tk} (a : TaskAt C H x t sy pr od) : TaskP C H x t sy pr od := ⟨a.ex, a.pr⟩
theorem TaskP.same {C : TAd} {H H' : Hp} {x sy pr od : Addr} {t : Tk} (a : TaskP C H x t sy pr od) (s : Same H H') : TaskP C H' x t sy pr od :=
  ⟨let ⟨dx, tp, h1, h2⟩ := a.ex; ⟨dx, tp, s _ _ h1, s _ _ h2⟩, a.pr.same s⟩
structure TaskC (K : PySem.W.Frag) (CT : Addr) : Prop where
  c : Cls K CT
  p : NoAttr K CT "parts"
  o : NoAttr K CT "old"
def spTInit (C : TAd) : Sp := fun vs H Q _ => ∃ x dx sy d pr ss rl kvs a b own old, vs = [.ref x, .ref sy, .ref d, .ref pr] ∧ H x = some (.ins C.CT dx []) ∧ SysAt C.CS H sy ss rl ∧ ss.length < 60 ∧ ss.Nodup ∧ H d = some (.dK kvs) ∧ kvs.length = ss.length ∧
  (∀ n ∈ ss, valV kvs (.inr n : Key) = some (.int (old n)) ∧ -99999 ≤ old n ∧ old n ≤ 99999) ∧ PrAt C.CP H pr a b own ∧
  ∀ od H', (∀ y u, y ≠ x → H y = some u → H' y = some u) → TaskAt C H' x ⟨ss, rl, a, b, own, old⟩ sy pr od → Q .non H'
def spTSys (C : TAd) : Sp := fun vs H Q _ => ∃ x t sy pr od, vs = [.ref x] ∧ TaskAt C H x t sy pr od ∧ Q (.ref sy) H
def spTPr (C : TAd) : Sp := fun vs H Q _ => ∃ x t sy pr od, vs = [.ref x] ∧ TaskP C H x t sy pr od ∧ Q (.ref pr) H
def spFirm (C : TAd) : Sp := fun vs H Q _ => ∃ x t sy pr od n, vs = [.ref x, ndV n] ∧ TaskP C H x t sy pr od ∧ Q (.bl (t.firm n)) H
section
variable {P : Program} {w : World} {K : PySem.W.Frag} {mg : Str → Option Value} {base : Heap} {f fc : Addr} {C : TAd} {fd : FuncData}
theorem sc_tsys : FnScope ["self"] ["self"] (defScope sTSys) := ⟨rfl, rfl, rfl, by decide +kernel, rfl, by decide +kernel, by decide +kernel⟩
theorem ok_tsys (F : Fun K "system" "Task.system" sTSys f fd) (c : TaskC K C.CT) : FnOk P w K mg base CX0 1 f fd ["self"] (spTSys C) := by
  refine F.ok sc_tsys (fun vs H Q E h => ?_) (fun cdv A outer s H vs Q E hr h => ?_)
  · obtain ⟨x, t, sy, pr, od, rfl, _⟩ := h
    rfl
  · obtain ⟨x, t, sy, pr, od, rfl, ⟨⟨dx, tp, h1, h2⟩, _, _, _, _⟩, q⟩ := h
    refine ⟨_, pss_one (ps_ret (pe_ix ix_tup (pe_fld (pv 0) rfl) pe_int (fun _ _ => rfl))), ?_⟩
    exact ⟨_, rfl, x, C.CT, dx, _, _, rfl, h1, c.c, c.p, rfl, tp, _, _, _, rfl, rfl, SqT.of h2, rfl, q⟩
theorem sc_tpr : FnScope ["self"] ["self"] (defScope sTPr) := ⟨rfl, rfl, rfl, by decide +kernel, rfl, by decide +kernel, by decide +kernel⟩
theorem ok_tpr (F : Fun K "prices" "Task.prices" sTPr f fd) (c : TaskC K C.CT) : FnOk P w K mg base CX0 1 f fd ["self"] (spTPr C) := by
  refine F.ok sc_tpr (fun vs H Q E h => ?_) (fun cdv A outer s H vs Q E hr h => ?_)
  · obtain ⟨x, t, sy, pr, od, rfl, _⟩ := h
    rfl
  · obtain ⟨x, t, sy, pr, od, rfl, ⟨⟨dx, tp, h1, h2⟩, _⟩, q⟩ := h
    refine ⟨_, pss_one (ps_ret (pe_ix ix_tup (pe_fld (pv 0) rfl) pe_int (fun _ _ => rfl))), ?_⟩
    exact ⟨_, rfl, x, C.CT, dx, _, _, rfl, h1, c.c, c.p, rfl, tp, _, _, _, rfl, rfl, SqT.of h2, rfl, q⟩
theorem sc_firm : FnScope ["self", "thing"] ["self", "thing"] (defScope sTFirm) := ⟨rfl, rfl, rfl, by decide +kernel, rfl, by decide +kernel, by decide +kernel⟩
theorem ok_firm (F : Fun K "is_firm" "Task.is_firm" sTFirm f fd) (c : TaskC K C.CT) (c1 : Mth P w K mg base 1 C.CP "is_fixed" (spFixed C.CP)) : FnOk P w K mg base CX0 2 f fd ["self", "thing"] (spFirm C) := by
  refine F.ok sc_firm (fun vs H Q E h => ?_) (fun cdv A outer s H vs Q E hr h => ?_)
  · obtain ⟨x, t, sy, pr, od, n, rfl, _⟩ := h
    rfl
  · obtain ⟨x, t, sy, pr, od, n, rfl, ⟨⟨dx, tp, h1, h2⟩, hpr⟩, q⟩ := h
    refine ⟨_, pss_one (ps_ret (pe_or (pe_cmp (pc_isN (pv 1))) (pe_one (pe_m (X := Cx.nox _) c1 hr (pe_ix ix_tup (pe_fld (pv 0) rfl) pe_int (fun _ _ => rfl)) (pa_cons (pv 1) pa_nil))))), ?_⟩
    obtain ⟨dp, gp, od2, hp1, hp2, hp3⟩ := id hpr
    cases n with
    | none => exact ⟨_, rfl, _, rfl, iteT q⟩
    | some n => exact ⟨_, rfl, _, rfl, iteF ⟨_, rfl, x, C.CT, dx, _, _, rfl, h1, c.c, c.p, rfl, tp, _, _, _, rfl, rfl, SqT.of h2, rfl, pr, dp, _, rfl, hp1, rfl, _, rfl, pr, t.up, t.lo, t.own, n, rfl, hpr, q⟩⟩
abbrev nTI : List Str := ["self", "system", "numbers", "prices", "name"]
theorem sc_tinit : FnScope nTI ["self", "system", "numbers", "prices"] (defScope sTInit) := ⟨rfl, rfl, rfl, by decide +kernel, rfl, by decide +kernel, by decide +kernel⟩
theorem ok_tinit (F : Fun K "__init__" "Task.__init__" sTInit f fd) (c : TaskC K C.CT) (cs : SysC K C.CS) (Fc : FnR P w K mg base CX0 4 fc (spCheckN C.CS)) (mc : mg "check_numbers" = some (.ref fc)) (kc : PySem.W.keepIn K (.ref fc) = true) :
    FnOk P w K mg base CX0 5 f fd ["self", "system", "numbers", "prices"] (spTInit C) := by
  refine F.ok sc_tinit (fun vs H Q E h => ?_) (fun cdv A outer s H vs Q E hr h => ?_)
  · obtain ⟨x, dx, sy, d, pr, ss, rl, kvs, a, b, own, old, rfl, _⟩ := h
    rfl
  · obtain ⟨x, dx, sy, d, pr, ss, rl, kvs, a, b, own, old, rfl, hx, hsys, hlen, hnd, hd, hkl, hv, hpr, q⟩ := h
    have hu := hu_of hr
    have nd := sc_tinit.nd
    refine ⟨_, pss_cons (ps_expr (pe_fR (X := Cx.nox _) Fc hr mc kc (pa_cons (pv 1) (pa_cons (pv 2) pa_nil))))
      (pss_cons (ps_fld (pv 0) (pe_tup (pa_cons (pv 1) (pa_cons (pv 3) pa_nil))) rfl)
      (pss_one (ps_fld (pv 0) (pe_dc (own := [("name", 4)]) (g := gName 4) (tt := tYes) rfl nd (pi_list (pe_fld (pv 1) rfl)) (blkOk_by (own := [("name", 4)]) (N := nTI) (sc := defScope sTInit) (by decide +kernel))
        (fun _ _ _ _ _ => pg_name (i := 4) nd rfl (Or.inl rfl)) (fun _ _ _ _ _ => pts_nil) (fun _ _ _ _ _ => pv 4) (fun _ _ _ _ _ => pe_dget hu (pv 2) (pv 4) (fun _ _ => rfl))) rfl))), ?_⟩
    refine ⟨_, rfl, _, rfl, sy, d, ss, rl, kvs, rfl, hsys, hlen, hd, ⟨hkl, fun n hn => ⟨_, hv n hn⟩⟩, fun H1 s1 => ?_⟩
    refine ⟨_, rfl, _, rfl, by show 2 ≤ sizeLine; decide, fun tp htp => ?_⟩
    have hx1 := s1 _ _ hx
    have nxt : x ≠ tp := ne_of_none hx1 htp
    refine ⟨_, rfl, x, C.CT, dx, _, rfl, by rw [upd_ne nxt]; exact hx1, c.c, c.p, by show 0 < 1000; decide, ?_⟩
    have tpn : H tp = none := by
      cases e : H tp with
      | none => rfl
      | some u => rw [s1 _ _ e] at htp; cases htp
    have k2 : ∀ y u, y ≠ x → H y = some u → upd (upd H1 tp (.tup [.ref sy, .ref pr])) x (.ins C.CT dx (putF "parts" (.ref tp) [])) y = some u := fun y u hy e => by
      rw [upd_ne hy, upd_ne (ne_of_none e tpn)]; exact s1 _ _ e
    obtain ⟨⟨ds, sa, ga, e1, e2, e3⟩, ht⟩ := id hsys
    have nsx : sy ≠ x := ne_of e1 hx (fun z => List.cons_ne_nil _ _ (HO.ins.inj z).2.2)
    have nax : sa ≠ x := ne_of e2 hx (by intro z; cases z)
    have ngx : ga ≠ x := ne_of e3 hx (by intro z; cases z)
    have ndx : d ≠ x := ne_of hd hx (by intro z; cases z)
    have ik : ((List.range ss.length).map fun i => (Sum.inr (ss.getD i Str.empty) : Key)).Nodup := by
      have e : ((List.range ss.length).map fun i => (Sum.inr (ss.getD i Str.empty) : Key)) = ss.map Sum.inr := by
        refine List.ext_getElem? fun i => ?_
        rw [List.getElem?_map, List.getElem?_map]
        by_cases h : i < ss.length
        · rw [List.getElem?_range h, List.getElem?_eq_getElem h, Option.map_some, Option.map_some, List.getD_eq_getElem?_getD, List.getElem?_eq_getElem h]; rfl
        · rw [List.getElem?_eq_none (by rw [List.length_range]; omega), List.getElem?_eq_none (by omega)]; rfl
      rw [e]
      exact List.pairwise_map.mpr (hnd.imp fun h z => h (Sum.inr.inj z))
    refine ⟨_, rfl, sy, C.CS, ds, _, _, rfl, k2 _ _ nsx e1, cs.c, cs.s, rfl, sa, rfl, ⟨_, SqL.of (k2 _ _ nax e2)⟩, fun D hD => ?_⟩
    have nDx : D ≠ x := fun e => by rw [e, upd_same] at hD; cases hD
    refine dc_map (n := ss.length) (by have := walk_list (K := K) (a := sa) (xs := ss.map V.str); rw [List.length_map] at this; exact this) (fun i H v H' y => by rw [y.1]; exact Same.refl) (fun i => Sum.inr (ss.getD i Str.empty)) (fun i => .int (old (ss.getD i Str.empty))) (by rw [sizeLine_eq]; omega) hD ik (fun H' s' => SqL.of (s' _ _ (k2 _ _ nax e2))) (fun i v H2 H3 R hi s2 y k => ?_) fun H2 s2 hl => ?_
    · obtain ⟨rfl, hvv⟩ := y
      rw [List.getElem?_map] at hvv
      obtain ⟨n, hn, rfl⟩ := Option.map_eq_some_iff.mp hvv
      have en : ss.getD i Str.empty = n := by rw [List.getD_eq_getElem?_getD, hn]; rfl
      have := k _ Same.refl
      rw [en] at this
      refine ⟨rfl, _, rfl, _, rfl, _, rfl, d, .int (old n), rfl, ?_, this⟩
      have dg := DGet.k (k := Sum.inr n) (s2 _ _ (k2 _ _ ndx hd))
      rw [(hv n (List.mem_of_getElem? hn)).1] at dg
      exact dg
    · have eo : ((List.range ss.length).map fun i => ((Sum.inr (ss.getD i Str.empty) : Key), V.int (old (ss.getD i Str.empty)))) = oldK ss old := by
        refine List.ext_getElem? fun i => ?_
        rw [oldK, List.getElem?_map, List.getElem?_map]
        by_cases h : i < ss.length
        · rw [List.getElem?_range h, List.getElem?_eq_getElem h, Option.map_some, Option.map_some, List.getD_eq_getElem?_getD, List.getElem?_eq_getElem h]; rfl
        · rw [List.getElem?_eq_none (by rw [List.length_range]; omega), List.getElem?_eq_none (by omega)]; rfl
      rw [eo] at hl
      have Dn : H D = none := by
        cases e : H D with
        | none => rfl
        | some u => rw [k2 _ _ nDx e] at hD; cases hD
      refine ⟨_, rfl, x, C.CT, dx, _, rfl, s2 _ _ upd_same, c.c, c.o, by show 1 < 1000; decide, ?_⟩
      have k3 : ∀ y u, y ≠ x → H y = some u → upd H2 x (.ins C.CT dx (putF "old" (.ref D) (putF "parts" (.ref tp) []))) y = some u := fun y u hy e => by
        rw [upd_ne hy]; exact s2 _ _ (k2 _ _ hy e)
      obtain ⟨dp, gp, op, p1, p2, p3⟩ := id hpr
      have npx : pr ≠ x := ne_of p1 hx (fun z => List.cons_ne_nil _ _ (HO.ins.inj z).2.2)
      refine q D _ k3 ⟨⟨dx, tp, upd_same, ?_⟩, ?_, ⟨⟨ds, sa, ga, k3 _ _ nsx e1, k3 _ _ nax e2, k3 _ _ ngx e3⟩, fun r hr => k3 _ _ (ne_of (ht r hr) hx (by intro z; cases z)) (ht r hr)⟩, ⟨dp, gp, op, k3 _ _ npx p1, k3 _ _ (ne_of p2 hx (by intro z; cases z)) p2, k3 _ _ (ne_of p3 hx (by intro z; cases z)) p3⟩, fun dp' gp' op' h => ?_⟩
      · rw [upd_ne (Ne.symm nxt)]
        exact s2 _ _ (by rw [upd_ne (Ne.symm nxt), upd_same])
      · rw [upd_ne nDx]; exact hl
      · rw [k3 _ _ npx p1] at h
        cases h
        exact fun e => by rw [e, Dn] at p3; cases p3
end
end Ws
end
section
/-! contradiction: none where numbers are admitted -/
namespace Ws
open PySem PySem.Spec PyProof.Rows L2
abbrev sContra : Stmt := top 26
/-- numbers that the rules admit -/
def Adm (rl : List (Addr × Rule)) (pi : Nd → Int) : Prop := ∀ r ∈ rl, r.2.2.2 ≤ pi r.2.2.1 - pi r.2.1
def endsIn (ss : List Str) (rl : List (Addr × Rule)) : Prop := ∀ r ∈ rl, (∀ z, r.2.1 = some z → z ∈ ss) ∧ ∀ z, r.2.2.1 = some z → z ∈ ss
def spContra (CS : Addr) : Sp := fun vs H Q _ => ∃ x ss rl, vs = [.ref x] ∧ SysAt CS H x ss rl ∧ ss.length < 50 ∧ ss.Nodup ∧ rl.length ≤ 1000 ∧ endsIn ss rl ∧ (∀ n ∈ ss, PyData.strOk n = true) ∧ (∃ pi, Adm rl pi) ∧ Al Q H .non
theorem iteD {c A B : Prop} [Decidable c] (hc : c) (h : A) : if decide c = true then A else B := by
  rw [if_pos (decide_eq_true hc)]; exact h
theorem iteDF {c A B : Prop} [Decidable c] (hc : ¬ c) (h : B) : if decide c = true then A else B := by
  rw [if_neg (by rw [decide_eq_false hc]; exact Bool.false_ne_true)]; exact h
theorem dpAll_nd {K : PySem.W.Frag} {H : Hp} : ∀ acc : List Nd, L2.DpAll K H (acc.map ndV) (acc.map ndD)
  | [] => .nil
  | none :: r => .cons .non (dpAll_nd r)
  | some x :: r => .cons (.str x) (dpAll_nd r)
theorem lay_nd : ∀ acc : List Nd, (∀ v ∈ acc, okN v) → PyData.canLayAll0 (acc.map ndD) = true ∧ PyData.depthAll (acc.map ndD) = 0
  | [], _ => ⟨rfl, rfl⟩
  | v :: r, h => by
    obtain ⟨h1, h2⟩ := lay_nd r fun u hu => h u (List.mem_cons_of_mem _ hu)
    have h3 : (ndD v).canLay0 = true := h v List.mem_cons_self
    refine ⟨by rw [List.map_cons, PyData.canLayAll0, h3, h1]; rfl, ?_⟩
    rw [List.map_cons, PyData.depthAll, h2]
    cases v <;> rfl
theorem shaped_nd {acc : List Nd} (h : ∀ v ∈ acc, okN v) : SeqAt.shaped (.list (acc.map ndD)) = true := by
  obtain ⟨h1, h2⟩ := lay_nd acc h
  unfold SeqAt.shaped
  rw [PyData.canLay0, h1, PyData.depth, h2]
  rfl
theorem eqv_nil (acc : List Nd) : PyData.eqv (.list (acc.map ndD)) (.list []) = decide (acc = []) := by
  cases acc with
  | nil => rfl
  | cons v r => rfl
theorem le_sum : ∀ {l : List Nat} {x : Nat}, x ∈ l → x ≤ l.sum
  | [], _, h => nomatch h
  | y :: l, x, h => by
    rw [List.sum_cons]
    rcases List.mem_cons.mp h with rfl | h
    · omega
    · have := le_sum h
      omega
theorem sw_trueD {kx vx : Expr} {gs : List Comprehension} {scope : Scope} {pos py : Pos} {y : Str} {l : Nat} {env : Env} (hk : env.scope.kind = .function) (hy : env.scope.names.lookup y = some .local) (hl : (py.line == pos.line) = true)
    (ha : (scope.names.any fun (n, k) => n == y && (k == .local || k == .cell)) = false) : swapsWith (.DictComp kx vx gs scope pos) (some (.Name y py)) l env = pure true := by
  have ky : env.kindOf y = some .local := hy
  have hb : env.blockKind = .function := by unfold Env.blockKind; rw [hk]; rfl
  unfold swapsWith
  simp only [hb, ky, ha, Expr.pos, hl]
  rfl
/-- a dict of totals -/
def BestAt (P : Program) (w : World) (H : Hp) (d : Addr) (B : Nd → Option Int) (n : Nat) : Prop := ∃ kvs, H d = some (dN P w d kvs) ∧ (∀ k, valV kvs k = (B k).map V.int) ∧ kvs.length ≤ n
def DictN (P : Program) (w : World) (H : Hp) (d : Addr) (n : Nat) : Prop := ∃ kvs, H d = some (dN P w d kvs) ∧ kvs.length ≤ n
theorem best_put {P : Program} {w : World} {H : Hp} {d : Addr} {B : Nd → Option Int} {kvs : List (Nd × V)} {n : Nat} {k : Nd} {y : Int} (hv : ∀ k, valV kvs k = (B k).map V.int) (hl : kvs.length ≤ n) : BestAt P w (upd H d (dN P w d (putK kvs k (.int y)))) d (put B k y) (n + 1) := by
  refine ⟨_, upd_same, fun j => ?_, Nat.le_trans (length_putK _ _ _) (by omega)⟩
  rw [valV_put]
  by_cases h : j = k
  · rw [if_pos h, h, put_same]; rfl
  · rw [if_neg h, put_ne h, hv]
abbrev eT : Addr × Rule → Nd := fun e => e.2.1
abbrev eH : Addr × Rule → Nd := fun e => e.2.2.1
abbrev eP : Addr × Rule → Int := fun e => e.2.2.2
def things (ss : List Str) : List Nd := none :: ss.map some
theorem things_vs (ss : List Str) : V.non :: (ss.map V.str ++ []) = (things ss).map ndV := by
  rw [List.append_nil, things, List.map_cons, List.map_map]; rfl
theorem things_nodup {ss : List Str} (h : ss.Nodup) : (things ss).Nodup := by
  refine List.nodup_cons.mpr ⟨fun z => ?_, ?_⟩
  · obtain ⟨a, _, e⟩ := List.mem_map.mp z
    cases e
  · exact List.pairwise_map.mpr (h.imp fun h z => h (Option.some.inj z))
theorem mem_things {ss : List Str} {v : Nd} (h : ∀ z, v = some z → z ∈ ss) : v ∈ things ss := by
  cases v with
  | none => exact List.mem_cons_self
  | some z => exact List.mem_cons_of_mem _ (List.mem_map_of_mem (h z rfl))
theorem valV_zero {ks : List Nd} {k : Nd} (nd : ks.Nodup) : valV (ks.map fun k => (k, V.int 0)) k = ((if k ∈ ks then some 0 else none : Option Int)).map V.int := by
  by_cases h : k ∈ ks
  · rw [if_pos h]
    exact valV_mem (p := (k, V.int 0)) (by rw [List.map_map, show ((fun x : Nd × V => x.1) ∘ fun k => (k, V.int 0)) = id from rfl, List.map_id]; exact nd) (List.mem_map_of_mem h)
  · rw [if_neg h, valV_map_none h]; rfl
section
variable {P : Program} {w : World} {K : PySem.W.Frag} {mg : Str → Option Value} {base : Heap} {f CS : Addr} {fd : FuncData}
abbrev nContra : List Str := ["system", "best", "last", "turn", "reached", "rule"]
theorem sc_contra : FnScope nContra ["system"] (defScope sContra) := ⟨rfl, rfl, rfl, by decide +kernel, rfl, by decide +kernel, by decide +kernel⟩
theorem ok_contra (F : Fun K "contradiction" "contradiction" sContra f fd) (g : Gm mg) (c : SysC K CS) : FnOk P w K mg base CX0 3 f fd ["system"] (spContra CS) := by
  refine F.ok sc_contra (fun vs H Q E h => ?_) (fun cdv A outer s H vs Q E hr h => ?_)
  · obtain ⟨x, ss, rl, rfl, _⟩ := h
    rfl
  · obtain ⟨x, ss, rl, rfl, sys, hlen, hnd, hrl, hends, hso, ⟨pi, hadm⟩, q⟩ := h
    have hu := hu_of hr
    have nd := sc_contra.nd
    refine ⟨_, (pss_cons (ps_setNself (i := 1) (pe_lst (pa_cons pe_non (StX.pa_star (pe_fld (pv 0) rfl) pa_nil))) (fun L => pl_int) (Sm.ofRoom' hr) ⟨by decide +kernel, by decide +kernel, rfl, by decide +kernel, rfl⟩ nd rfl rfl (sw_trueD rfl rfl rfl (by decide +kernel)))
      (pss_cons (ps_set (i := 2) nd rfl (Or.inl rfl) pe_nnew)
      (pss_cons (ps_for PassesOwn.never rfl (pi_range1 rfl g.range (pa_cons (pe_callB cr_nlen rfl g.len boot_len (pa_cons (pv 1) pa_nil)) pa_nil)) (pg_name (i := 3) nd rfl (Or.inl rfl)) (pss_cons (ps_set (i := 4) nd rfl (Or.inl rfl) (pe_lst pa_nil))
      (pss_cons (ps_for PassesOwn.never rfl (pi_list (pe_fld (pv 0) rfl)) (pg_name (i := 5) nd rfl (Or.inl rfl)) (pss_one (ps_if (pt_cmp (pc_gt (pe_add (pe_nget (pv 1) (pe_ix ix_tup (pv 5) pe_int (fun _ _ => rfl))) (pe_ix ix_tup (pv 5) pe_int (fun _ _ => rfl))) (pe_nget (pv 1) (pe_ix ix_tup (pv 5) pe_int (fun _ _ => rfl))))) (pss_cons (ps_nput (pv 1) (pe_ix ix_tup (pv 5) pe_int (fun _ _ => rfl)) (pe_add (pe_nget (pv 1) (pe_ix ix_tup (pv 5) pe_int (fun _ _ => rfl))) (pe_ix ix_tup (pv 5) pe_int (fun _ _ => rfl))))
      (pss_cons (ps_nput (pv 2) (pe_ix ix_tup (pv 5) pe_int (fun _ _ => rfl)) (pv 5))
      (pss_one (ps_expr (pe_bm PySem.F.plainAttrs_list PySem.F.slot_list_append PySem.F.type_list_append mt_append (pv 4) (pa_cons (pe_ix ix_tup (pv 5) pe_int (fun _ _ => rfl)) pa_nil)))))) pss_nil)))
      (pss_one (ps_if (pt_cmpR (op_eqD hr.units) (pv 4) (pe_lst pa_nil) (nomark _)) (pss_one (ps_ret pe_non)) pss_nil))))) pss_never))), ?_⟩
    obtain ⟨⟨ds, sa, ga, e1, e2, e3⟩, etup⟩ := id sys
    refine ⟨_, rfl, x, CS, ds, _, _, rfl, e1, c.c, c.s, rfl, sa, _, rfl, .inr (SqL.of e2), by rw [List.length_cons, List.length_append, List.length_map, sizeLine_eq]; show ss.length + 0 + 1 ≤ _; omega, fun la hla => ?_⟩
    refine ⟨la, _, rfl, SqL.of upd_same, things ss, things_vs ss, things_nodup hnd, by rw [things, List.length_cons, List.length_map]; omega, fun db hdb => ?_⟩
    intro dl hdl
    have hla0 : H la = none := hla
    have hdb0 : H db = none := by
      cases e : H db with
      | none => rfl
      | some u => rw [upd_ne (ne_of_none e hla), e] at hdb; cases hdb
    have hdl0 : H dl = none := by
      cases e : H dl with
      | none => rfl
      | some u => rw [upd_ne (ne_of_none e hdb0), upd_ne (ne_of_none e hla), e] at hdl; cases hdl
    have nbl : db ≠ dl := fun e => by rw [← e, upd_same] at hdl; cases hdl
    let H3 := upd (upd (upd H la (.lst (V.non :: (ss.map V.str ++ [])))) db (dN P w db ((things ss).map fun k => (k, V.int 0)))) dl (dN P w dl [])
    have s3 : Same H H3 := ((Same.new hla).put hdb0).put hdl0
    let b0 : Nd → Option Int := fun v => if v ∈ things ss then some 0 else none
    let S : Nat → RS Nd (Addr × Rule) := fun i => runP eT eH eP rl i ⟨b0, fun _ => none, true⟩
    have hlenV : (things ss).length = ss.length + 1 := by rw [things, List.length_cons, List.length_map]
    let C : Nat := 60 + 1000 * 60
    let Pv : Nat → L2.St → Hp → Prop := fun i σ H' => i ≤ ss.length ∧ Same H H' ∧ BestAt P w H' db (S i).b (60 + 1000 * i) ∧ DictN P w H' dl (1000 * i) ∧ ∃ v3 v4 v5, σ = [some (.ref x), some (.ref db), some (.ref dl), v3, v4, v5]
    have hd3 : H3 db = some (dN P w db ((things ss).map fun k => (k, V.int 0))) := by show upd _ dl _ db = _; rw [upd_ne nbl, upd_same]
    have hl3 : H3 dl = some (dN P w dl []) := upd_same
    refine ⟨_, rfl, db, _, rfl, Rd.of hd3, _, rfl, by omega, by rw [List.length_map, hlenV]; omega, ?_⟩
    refine for_it (n := (things ss).length) (by have := walk_range (lo := 0) (n := ((((things ss).map fun k => (k, V.int 0)).length : Nat) : Int).toNat); rw [List.length_map, Int.toNat_natCast] at this ⊢; exact this) Pv ?_ (fun _ _ _ _ _ => trivial) (fun i v σ H' H'' hi p y => ?_) (fun σ H' p => ?_)
    · exact ⟨Nat.zero_le _, s3, ⟨_, hd3, fun k => valV_zero (things_nodup hnd), by rw [List.length_map, hlenV]; omega⟩, ⟨_, hl3, Nat.zero_le _⟩, _, _, _, rfl⟩
    · obtain ⟨rfl, rfl⟩ := y
      obtain ⟨hi', sH, hb, hl, v3, v4, v5, rfl⟩ := p
      refine ⟨Nat.zero_le _, fun dr hdr => ?_⟩
      obtain ⟨kb, hkb, hvb, hlb⟩ := hb
      obtain ⟨kl, hkl, hll⟩ := hl
      have nbr : db ≠ dr := ne_of_none hkb hdr
      have nlr : dl ≠ dr := ne_of_none hkl hdr
      have hdr0 : H dr = none := by
        cases e : H dr with
        | none => rfl
        | some u => rw [sH _ _ e] at hdr; cases hdr
      let T : Nat → RS Nd (Addr × Rule) := fun j => pass eT eH eP (rl.take j) (fresh (S i))
      let Iv : Nat → L2.St → Hp → Prop := fun j σ H2 => Same H H2 ∧ BestAt P w H2 db (T j).b (60 + 1000 * i + j) ∧ DictN P w H2 dl (1000 * i + j) ∧ (∃ acc : List Nd, H2 dr = some (.lst (acc.map ndV)) ∧ acc.length ≤ j ∧ (acc = [] ↔ (T j).imp = false) ∧ ∀ v ∈ acc, v ∈ things ss) ∧
        ∃ v3 v5, σ = [some (.ref x), some (.ref db), some (.ref dl), v3, some (.ref dr), v5]
      have s4 : Same H (upd H'' dr (.lst [])) := sH.put hdr0
      have sr : ∀ {H1 : Hp}, Same H H1 → SqL K H1 ga (refsR rl) := fun s => SqL.of (s _ _ e3)
      refine ⟨_, rfl, x, CS, ds, _, _, rfl, s4 _ _ e1, c.c, c.g, rfl, ga, rfl, ⟨_, sr s4⟩, ?_⟩
      refine for_it walk_list Iv ?_ (fun _ _ _ _ p => sr p.1) (fun j v σ H2 H2' hj p y => ?_) (fun σ H2 p => ?_)
      · exact ⟨s4, ⟨kb, by rw [upd_ne nbr]; exact hkb, hvb, by omega⟩, ⟨kl, by rw [upd_ne nlr]; exact hkl, by omega⟩, ⟨[], upd_same, Nat.le_refl _, ⟨fun _ => rfl, fun _ => rfl⟩, fun _ z => nomatch z⟩, _, _, rfl⟩
      · obtain ⟨rfl, hv⟩ := y
        rw [refsR, List.getElem?_map] at hv
        obtain ⟨r, hn, rfl⟩ := Option.map_eq_some_iff.mp hv
        have hr1 := List.mem_of_getElem? hn
        obtain ⟨s5, ⟨kb', hkb', hvb', hlb'⟩, ⟨kl', hkl', hll'⟩, ⟨acc, hacc, hal, hai, ham⟩, w3, w5, rfl⟩ := p
        have htp : SqT K H2' r.1 (ruleVs r.2) := SqT.of (s5 _ _ (etup r hr1))
        have hT1 : T (j + 1) = rx eT eH eP (T j) r := by
          show pass eT eH eP (rl.take (j + 1)) _ = rx eT eH eP (pass eT eH eP (rl.take j) _) r
          rw [List.take_add_one, hn]
          unfold pass
          rw [Option.toList_some, List.foldl_append]
          rfl
        have known : ∀ v, v ∈ things ss → ∃ z, (T j).b v = some z := fun v hv => by
          have h0 : b0 v = some 0 := if_pos hv
          obtain ⟨z1, hz1, _⟩ := (runP_le (t := eT) (h := eH) (p := eP) (es := rl) ⟨b0, fun _ => none, true⟩ i) v 0 h0
          obtain ⟨z2, hz2, _⟩ := pass_le (t := eT) (h := eH) (p := eP) (rl.take j) (fresh (S i)) v z1 hz1
          exact ⟨z2, hz2⟩
        obtain ⟨xl, hxl⟩ := known r.2.1 (mem_things (hends r hr1).1)
        obtain ⟨xh, hxh⟩ := known r.2.2.1 (mem_things (hends r hr1).2)
        have vl : valV kb' r.2.1 = some (.int xl) := by rw [hvb', hxl]; rfl
        have vh : valV kb' r.2.2.1 = some (.int xh) := by rw [hvb', hxh]; rfl
        have hjl : j < rl.length := by
          have := hj
          rw [refsR, List.length_map] at this
          exact this
        have hil : i ≤ 50 := by omega
        have nbd : db ≠ dr := fun e => by rw [← e, hkb'] at hacc; cases hacc
        have nld : dl ≠ dr := fun e => by rw [← e, hkl'] at hacc; cases hacc
        refine ⟨_, rfl, _, rfl, r.1, _, _, _, rfl, rfl, htp, rfl, db, kb', r.2.1, .int xl, rfl, rfl, Rd.of hkb', vl, _, rfl, r.1, _, _, _, rfl, rfl, htp, rfl, _, _, rfl, rfl, ?_⟩
        refine ⟨_, rfl, _, rfl, r.1, _, _, _, rfl, rfl, htp, rfl, db, kb', r.2.2.1, .int xh, rfl, rfl, Rd.of hkb', vh, _, _, rfl, rfl, _, rfl, ?_⟩
        by_cases hw : xh < xl + r.2.2.2
        · have eT1 : T (j + 1) = ⟨put (T j).b r.2.2.1 (xl + r.2.2.2), put (T j).l r.2.2.1 r, true⟩ := by
            rw [hT1]
            unfold rx
            rw [show (T j).b (eT r) = some xl from hxl]
            simp only
            rw [if_pos (show worth ((T j).b (eH r)) (xl + eP r) = true by rw [show (T j).b (eH r) = some xh from hxh]; exact decide_eq_true hw)]
          refine iteD hw ?_
          refine ⟨_, rfl, _, rfl, r.1, _, _, _, rfl, rfl, htp, rfl, db, kb', r.2.1, .int xl, rfl, rfl, Rd.of hkb', vl, _, rfl, r.1, _, _, _, rfl, rfl, htp, rfl, _, _, rfl, rfl, ?_⟩
          refine ⟨_, rfl, _, rfl, r.1, _, _, _, rfl, rfl, htp, rfl, db, kb', r.2.2.1, rfl, rfl, hkb', by rw [sizeLine_eq]; omega, ?_⟩
          have s6 := s5.put (o := dN P w db (putK kb' r.2.2.1 (.int (xl + r.2.2.2)))) hdb0
          have htp6 : SqT K (upd H2' db (dN P w db (putK kb' r.2.2.1 (.int (xl + r.2.2.2))))) r.1 (ruleVs r.2) := SqT.of (s6 _ _ (etup r hr1))
          refine ⟨_, rfl, _, rfl, _, rfl, r.1, _, _, _, rfl, rfl, htp6, rfl, dl, kl', r.2.2.1, rfl, rfl, by rw [upd_ne (Ne.symm nbl)]; exact hkl', by rw [sizeLine_eq]; omega, ?_⟩
          have s7 := s6.put (o := dN P w dl (putK kl' r.2.2.1 (.ref r.1))) hdl0
          have hdr7 : upd (upd H2' db (dN P w db (putK kb' r.2.2.1 (.int (xl + r.2.2.2))))) dl (dN P w dl (putK kl' r.2.2.1 (.ref r.1))) dr = some (.lst (acc.map ndV)) := by rw [upd_ne (Ne.symm nld), upd_ne (Ne.symm nbd)]; exact hacc
          have htp7 : SqT K (upd (upd H2' db (dN P w db (putK kb' r.2.2.1 (.int (xl + r.2.2.2))))) dl (dN P w dl (putK kl' r.2.2.1 (.ref r.1)))) r.1 (ruleVs r.2) := SqT.of (s7 _ _ (etup r hr1))
          refine ⟨_, rfl, .inl ⟨rfl, _, SqL.of hdr7⟩, _, rfl, r.1, _, _, _, rfl, rfl, htp7, rfl, dr, _, _, rfl, rfl, hdr7, by rw [List.length_map, sizeLine_eq]; omega, ?_⟩
          refine ⟨s7.put hdr0, ?_, ?_, ⟨acc ++ [r.2.2.1], ?_, ?_, ?_, ?_⟩, _, _, rfl⟩
          · rw [eT1]
            obtain ⟨k8, q1, q2, q3⟩ := best_put (P := P) (w := w) (H := H2') (d := db) (k := r.2.2.1) (y := xl + r.2.2.2) hvb' hlb'
            exact ⟨k8, by rw [upd_ne nbd, upd_ne nbl]; exact q1, q2, q3⟩
          · exact ⟨putK kl' r.2.2.1 (.ref r.1), (upd_ne nld).trans upd_same, Nat.le_trans (length_putK kl' r.2.2.1 (.ref r.1)) (by omega)⟩
          · rw [upd_same, List.map_append]; rfl
          · rw [List.length_append]; exact Nat.succ_le_succ hal
          · rw [eT1]; exact ⟨fun z => absurd z (by simp), fun z => nomatch z⟩
          · intro v hv
            rcases List.mem_append.mp hv with z | z
            · exact ham v z
            · rw [List.mem_singleton.mp z]; exact mem_things (hends r hr1).2
        · have eT1 : T (j + 1) = T j := by
            rw [hT1]
            unfold rx
            rw [show (T j).b (eT r) = some xl from hxl]
            simp only
            rw [if_neg (show ¬ worth ((T j).b (eH r)) (xl + eP r) = true by rw [show (T j).b (eH r) = some xh from hxh]; intro z; exact hw (of_decide_eq_true z))]
          refine iteDF hw ?_
          refine ⟨s5, by rw [eT1]; exact ⟨kb', hkb', hvb', by omega⟩, ⟨kl', hkl', by omega⟩, ⟨acc, hacc, by omega, by rw [eT1]; exact hai, ham⟩, _, _, rfl⟩
      · obtain ⟨s5, hb5, hl5, ⟨acc, hacc, hal, hai, ham⟩, w3, w5, rfl⟩ := p
        have hT : T (refsR rl).length = S (i + 1) := by
          show pass eT eH eP (rl.take (refsR rl).length) _ = pass eT eH eP rl _
          rw [refsR, List.length_map, List.take_length]
        rw [hT] at hb5 hai
        have rlen : (refsR rl).length = rl.length := List.length_map ..
        have okv : ∀ v ∈ acc, okN v := fun v hv => by
          cases v with
          | none => rfl
          | some z =>
            obtain e | e := List.mem_cons.mp (ham _ hv)
            · cases e
            · obtain ⟨z', hz', e'⟩ := List.mem_map.mp e
              cases e'
              exact hso z hz'
        have fixd : i = ss.length → acc = [] := fun e => hai.mpr (by
          have hf : Fix eT eH eP rl (S i).b := enough (pi := fun v => pi v + ((things ss).map fun v => (pi v).natAbs).sum) (fun r hr => by have := hadm r hr; show r.2.2.2 ≤ (pi r.2.2.1 + ((things ss).map fun v => (pi v).natAbs).sum) - (pi r.2.1 + ((things ss).map fun v => (pi v).natAbs).sum); omega) (fun v y hv => by
            by_cases h : v ∈ things ss
            · have hv' : (if v ∈ things ss then some 0 else none) = some y := hv
              rw [if_pos h] at hv'
              cases hv'
              have hm : (pi v).natAbs ≤ ((things ss).map fun v => (pi v).natAbs).sum := le_sum (List.mem_map_of_mem h)
              omega
            · have hv' : (if v ∈ things ss then some 0 else none) = some y := hv
              rw [if_neg h] at hv'
              cases hv') (V := things ss) (fun r hr => mem_things (hends r hr).2) (fun v y hv => by
            have hv' : (if v ∈ things ss then some 0 else none) = some y := hv
            by_cases h : v ∈ things ss
            · exact h
            · rw [if_neg h] at hv'; cases hv') (by rw [hlenV]; omega)
          show (pass eT eH eP rl (fresh (S i))).imp = false
          rw [still_of_fix (s := fresh (S i)) hf rfl]
          rfl)
        refine ⟨_, rfl, Nat.zero_le _, fun le hle => ⟨.list (acc.map ndD), .list [], ?_, .lst (SqL.of upd_same) .nil, shaped_nd okv, rfl, _, rfl, ?_⟩⟩
        · exact .lst (SqL.of (by rw [upd_ne (ne_of_none hacc hle)]; exact hacc)) (dpAll_nd acc)
        · rw [eqv_nil]
          by_cases ha : acc = []
          · exact iteD ha (q _ (s5.trans (Same.new hle)))
          · refine iteDF ha ⟨?_, s5.trans (Same.new hle), ?_, ?_, _, _, _, rfl⟩
            · have : i ≠ ss.length := fun e => ha (fixd e)
              omega
            · obtain ⟨k8, q1, q2, q3⟩ := hb5
              exact ⟨k8, by rw [upd_ne (ne_of_none q1 hle)]; exact q1, q2, by rw [rlen] at q3; omega⟩
            · obtain ⟨k8, q1, q3⟩ := hl5
              exact ⟨k8, by rw [upd_ne (ne_of_none q1 hle)]; exact q1, by rw [rlen] at q3; omega⟩
    · have := p.1
      omega
end
end Ws
end
section
/-! check_consistent, is_strained -/
namespace Ws
open PySem PySem.Spec PyProof.Rows L2
abbrev sCons : Stmt := top 27
abbrev sStr : Stmt := top 30
/-- a task's numbers by name -/
def oldF (ss : List Str) (old : Str → Int) : Str → Option Int := fun n => if n ∈ ss then some (old n) else none
theorem valV_old {ss : List Str} {old : Str → Int} (nd : ss.Nodup) (n : Str) : valV (oldK ss old) (.inr n : Key) = (oldF ss old n).map V.int := by
  unfold oldK oldF
  by_cases h : n ∈ ss
  · rw [if_pos h]
    refine valV_mem (p := ((.inr n : Key), V.int (old n))) ?_ (List.mem_map_of_mem (f := fun n => ((Sum.inr n : Key), V.int (old n))) h)
    rw [List.map_map]
    exact List.pairwise_map.mpr (nd.imp fun h z => h (Sum.inr.inj z))
  · rw [if_neg h]
    cases e : valV (ss.map fun n => ((Sum.inr n : Key), V.int (old n))) (.inr n : Key) with
    | none => rfl
    | some v =>
      obtain ⟨m, hm, em⟩ := List.mem_map.mp (valV_in e)
      have := (Prod.mk.inj em).1
      exact absurd (Sum.inr.inj this ▸ hm) h
theorem TaskAt.num {C : TAd} {H : Hp} {x sy pr od : Addr} {t : Tk} (a : TaskAt C H x t sy pr od) (nd : t.ss.Nodup) : NumD H od (oldF t.ss t.old) := ⟨_, a.old, valV_old nd⟩
def Tk.at (t : Tk) : Nd → Int
  | none => 0
  | some n => t.old n
theorem Tk.numAt {t : Tk} {v : Nd} (h : ∀ z, v = some z → z ∈ t.ss) : numAt (oldF t.ss t.old) v = some (t.at v) := by
  cases v with
  | none => rfl
  | some z => show oldF t.ss t.old z = _; unfold oldF; rw [if_pos (h z rfl)]; rfl
/-- what a task's parts are -/
structure Tk.Ok (t : Tk) : Prop where
  nd : t.ss.Nodup
  len : t.ss.length < 50
  rlen : t.rl.length ≤ 1000
  ends : endsIn t.ss t.rl
  sok : ∀ n ∈ t.ss, PyData.strOk n = true
def Tk.strained (t : Tk) (low high : Nd) (total : Int) : Bool := decide (low ≠ high) && t.firm low && t.firm high && decide (t.at high - t.at low < total)
def spStr (C : TAd) : Sp := fun vs H Q _ => ∃ x t sy pr od lo hi k, vs = [.ref x, ndV lo, ndV hi, .int k] ∧ TaskAt C H x t sy pr od ∧ t.ss.Nodup ∧ (∀ z, lo = some z → z ∈ t.ss) ∧ (∀ z, hi = some z → z ∈ t.ss) ∧ Q (.bl (t.strained lo hi k)) H
section
variable {P : Program} {w : World} {K : PySem.W.Frag} {mg : Str → Option Value} {base : Heap} {f CS : Addr} {C : TAd} {fd : FuncData}
theorem sc_cons : FnScope ["system"] ["system"] (defScope sCons) := ⟨rfl, rfl, rfl, by decide +kernel, rfl, by decide +kernel, by decide +kernel⟩
theorem ok_cons (F : Fun K "check_consistent" "check_consistent" sCons f fd) (c1 : Cal P w K mg base 3 "contradiction" (spContra CS)) : FnOk P w K mg base CX0 4 f fd ["system"] (spContra CS) := by
  refine F.ok sc_cons (fun vs H Q E h => ?_) (fun cdv A outer s H vs Q E hr h => ?_)
  · obtain ⟨x, ss, rl, rfl, _⟩ := h
    rfl
  · obtain ⟨x, ss, rl, rfl, h1, h2, h3, h4, h5, h6, h7, q⟩ := h
    refine ⟨_, pss_one (ps_if (pt_cmp (pc_notN (pe_f (X := Cx.nox _) c1 hr (pa_cons (pv 0) pa_nil)))) pss_never pss_nil), ?_⟩
    exact ⟨_, rfl, x, ss, rl, rfl, h1, h2, h3, h4, h5, h6, h7, fun H' s' => ⟨_, rfl, iteF (q _ s')⟩⟩
theorem sc_str : FnScope ["task", "low", "high", "total"] ["task", "low", "high", "total"] (defScope sStr) := ⟨rfl, rfl, rfl, by decide +kernel, rfl, by decide +kernel, by decide +kernel⟩
theorem ndV_dec (a b : Nd) : decide (ndV a = ndV b) = decide (a = b) := by
  by_cases h : a = b
  · rw [h, decide_eq_true rfl, decide_eq_true rfl]
  · rw [decide_eq_false h, decide_eq_false fun z => h (ndV_inj z)]
theorem ndV_scal (a b : Nd) : scal (ndV a) (ndV b) = true := by cases a <;> cases b <;> rfl
theorem ok_str (F : Fun K "is_strained" "is_strained" sStr f fd) (c : TaskC K C.CT) (c1 : Mth P w K mg base 2 C.CT "is_firm" (spFirm C)) (c2 : Cal P w K mg base 1 "number_at" spNumAt) : FnOk P w K mg base CX0 3 f fd ["task", "low", "high", "total"] (spStr C) := by
  refine F.ok sc_str (fun vs H Q E h => ?_) (fun cdv A outer s H vs Q E hr h => ?_)
  · obtain ⟨x, t, sy, pr, od, lo, hi, k, rfl, _⟩ := h
    rfl
  · obtain ⟨x, t, sy, pr, od, lo, hi, k, rfl, ta, nd, hlo, hhi, q⟩ := h
    obtain ⟨dx, tp, hx, htp⟩ := ta.ex
    refine ⟨_, pss_cons (ps_if (PW.pt (pw_or (pt_cmpR op_eq (pv 1) (pv 2) (nomark _)) (pw_or (pt_not (pt_val (pe_m (X := Cx.nox _) c1 hr (pv 0) (pa_cons (pv 1) pa_nil)))) (pw_or1 (pt_not (pt_val (pe_m (X := Cx.nox _) c1 hr (pv 0) (pa_cons (pv 2) pa_nil)))))))) (pss_one (ps_ret pe_bl)) pss_nil)
      (pss_one (ps_ret (pe_cmp (pc_gt (pv 3) (pe_sub (pe_f (X := Cx.nox _) c2 hr (pa_cons (pe_fld (pv 0) rfl) (pa_cons (pv 2) pa_nil))) (pe_f (X := Cx.nox _) c2 hr (pa_cons (pe_fld (pv 0) rfl) (pa_cons (pv 1) pa_nil)))))))), ?_⟩
    refine ⟨_, rfl, _, rfl, ndV_scal lo hi, _, rfl, ?_⟩
    unfold Tk.strained at q
    rw [ndV_dec]
    by_cases h : lo = hi
    · refine iteD h (iteT ?_)
      rw [decide_eq_false (not_not_intro h)] at q
      exact q
    · refine iteDF h ⟨_, rfl, x, dx, _, rfl, hx, rfl, _, rfl, x, t, sy, pr, od, lo, rfl, ta.p, _, rfl, ?_⟩
      rw [decide_eq_true h] at q
      cases e1 : t.firm lo with
      | false => rw [e1] at q; exact iteT (iteT q)
      | true =>
        refine iteF ⟨_, rfl, x, dx, _, rfl, hx, rfl, _, rfl, x, t, sy, pr, od, hi, rfl, ta.p, _, rfl, ?_⟩
        cases e2 : t.firm hi with
        | false => rw [e1, e2] at q; exact iteT q
        | true =>
          rw [e1, e2] at q
          refine iteF ⟨_, rfl, _, rfl, x, C.CT, dx, _, _, rfl, hx, c.c, c.o, rfl, _, rfl, od, _, hi, t.at hi, rfl, ta.num nd, Tk.numAt hhi, ?_⟩
          refine ⟨_, rfl, x, C.CT, dx, _, _, rfl, hx, c.c, c.o, rfl, _, rfl, od, _, lo, t.at lo, rfl, ta.num nd, Tk.numAt hlo, _, _, rfl, rfl, _, _, rfl, rfl, ?_⟩
          exact q
end
end Ws
end
section
/-! Reach -/
namespace Ws
open PySem PySem.Spec PyProof.Rows L2
abbrev sRInit : Stmt := mth 28 0
/-- keys of V, none twice -/
def KW (W : List Nd) (kvs : List (Nd × V)) : Prop := (kvs.map (·.1)).Nodup ∧ ∀ k ∈ kvs.map (·.1), k ∈ W
theorem putK_keys (kvs : List (Nd × V)) (k : Nd) (v : V) : (putK kvs k v).map (·.1) = if k ∈ kvs.map (·.1) then kvs.map (·.1) else kvs.map (·.1) ++ [k] := by
  unfold putK
  by_cases h : (kvs.any fun kv => decide (kv.1 = k)) = true
  · rw [if_pos h, if_pos]
    · rw [List.map_map]
      refine List.map_congr_left fun p _ => ?_
      show (if p.1 = k then (p.1, v) else p).1 = p.1
      split <;> rfl
    · obtain ⟨p, hp, e⟩ := List.any_eq_true.mp h
      exact List.mem_map.mpr ⟨p, hp, of_decide_eq_true e⟩
  · rw [if_neg h, if_neg]
    · rw [List.map_append]; rfl
    · intro z
      obtain ⟨p, hp, e⟩ := List.mem_map.mp z
      exact h (List.any_eq_true.mpr ⟨p, hp, decide_eq_true e⟩)
theorem KW.put {W : List Nd} {kvs : List (Nd × V)} {k : Nd} {v : V} (h : KW W kvs) (hk : k ∈ W) : KW W (putK kvs k v) := by
  unfold KW
  rw [putK_keys]
  by_cases e : k ∈ kvs.map (·.1)
  · rw [if_pos e]; exact h
  · rw [if_neg e]
    refine ⟨List.nodup_append.mpr ⟨h.1, by simp, fun a ha b hb => ?_⟩, fun j hj => ?_⟩
    · rw [List.mem_singleton.mp hb]
      exact fun z => e (z ▸ ha)
    · rcases List.mem_append.mp hj with z | z
      · exact h.2 j z
      · rw [List.mem_singleton.mp z]; exact hk
theorem KW.len {W : List Nd} {kvs : List (Nd × V)} (h : KW W kvs) : kvs.length ≤ W.length := by
  have := nodup_le h.1 h.2
  rw [List.length_map] at this
  exact this
def BestV (P : Program) (w : World) (H : Hp) (d : Addr) (B : Nd → Option Int) (W : List Nd) : Prop := ∃ kvs, H d = some (dN P w d kvs) ∧ (∀ k, valV kvs k = (B k).map V.int) ∧ KW W kvs
theorem bestV_put {P : Program} {w : World} {H : Hp} {d : Addr} {B : Nd → Option Int} {kvs : List (Nd × V)} {W : List Nd} {k : Nd} {y : Int} (hv : ∀ k, valV kvs k = (B k).map V.int) (hl : KW W kvs) (hk : k ∈ W) : BestV P w (upd H d (dN P w d (putK kvs k (.int y)))) d (put B k y) W := by
  refine ⟨_, upd_same, fun j => ?_, hl.put hk⟩
  rw [valV_put]
  by_cases h : j = k
  · rw [if_pos h, h, put_same]; rfl
  · rw [if_neg h, put_ne h, hv]
/-- the edges by which things were reached, by their objects -/
def LastV {ε : Type} (q : ε → Addr) (P : Program) (w : World) (H : Hp) (d : Addr) (L : Nd → Option ε) (W : List Nd) : Prop := ∃ kvs, H d = some (dN P w d kvs) ∧ (∀ k, valV kvs k = (L k).map fun e => V.ref (q e)) ∧ KW W kvs
theorem lastV_put {ε : Type} {q : ε → Addr} {P : Program} {w : World} {H : Hp} {d : Addr} {L : Nd → Option ε} {kvs : List (Nd × V)} {W : List Nd} {k : Nd} {e : ε} (hv : ∀ k, valV kvs k = (L k).map fun e => V.ref (q e)) (hl : KW W kvs) (hk : k ∈ W) : LastV q P w (upd H d (dN P w d (putK kvs k (.ref (q e))))) d (put L k e) W := by
  refine ⟨_, upd_same, fun j => ?_, hl.put hk⟩
  rw [valV_put]
  by_cases h : j = k
  · rw [if_pos h, h, put_same]; rfl
  · rw [if_neg h, put_ne h, hv]
structure ReachC (K : PySem.W.Frag) (CR : Addr) : Prop where
  c : Cls K CR
  s : NoAttr K CR "start"
  b : NoAttr K CR "best"
  l : NoAttr K CR "last"
structure ReachAt (P : Program) (w : World) (CR : Addr) (H : Hp) (x : Addr) (v : Nd) (s : RS Nd (Addr × Rule)) (W : List Nd) : Prop where
  ex : ∃ dx db dl, dl ≠ db ∧ H x = some (.ins CR dx [("start", ndV v), ("best", .ref db), ("last", .ref dl)]) ∧ BestV P w H db s.b W ∧ LastV (fun e => e.1) P w H dl s.l W
def b1 (v : Nd) : Nd → Option Int := fun u => if u = v then some 0 else none
def spRInit (CS CR : Addr) (P : Program) (w : World) : Sp := fun vs H Q _ => ∃ x dx sy ss rl v, vs = [.ref x, .ref sy, ndV v] ∧ H x = some (.ins CR dx []) ∧ SysAt CS H sy ss rl ∧ ss.length < 50 ∧ rl.length ≤ 1000 ∧ endsIn ss rl ∧ (∀ z, v = some z → z ∈ ss) ∧ (∃ pi, Adm rl pi) ∧
  ∀ H' m, (∀ y u, y ≠ x → H y = some u → H' y = some u) → ReachAt P w CR H' x v (runP eT eH eP rl m ⟨b1 v, fun _ => none, true⟩) (things ss) → Fix eT eH eP rl (runP eT eH eP rl m ⟨b1 v, fun _ => none, true⟩).b → Q .non H'
section
variable {P : Program} {w : World} {K : PySem.W.Frag} {mg : Str → Option Value} {base : Heap} {f CS CR : Addr} {fd : FuncData}
abbrev nRI : List Str := ["self", "system", "start", "improved", "rule", "low", "high", "gap"]
theorem sc_rinit : FnScope nRI ["self", "system", "start"] (defScope sRInit) := ⟨rfl, rfl, rfl, by decide +kernel, rfl, by decide +kernel, by decide +kernel⟩
theorem ok_rinit (F : Fun K "__init__" "Reach.__init__" sRInit f fd) (c : ReachC K CR) (cs : SysC K CS) : FnOk P w K mg base CX0 2 f fd ["self", "system", "start"] (spRInit CS CR P w) := by
  refine F.ok sc_rinit (fun vs H Q E h => ?_) (fun cdv A outer s H vs Q E hr h => ?_)
  · obtain ⟨x, dx, sy, ss, rl, v, rfl, _⟩ := h
    rfl
  · obtain ⟨x, dx, sy, ss, rl, v, rfl, hx, hsys, hlen, hrl, hends, hv, ⟨pi, hadm⟩, q⟩ := h
    have nd := sc_rinit.nd
    refine ⟨_, (pss_cons (ps_fld (pv 0) (pv 2) rfl)
      (pss_cons (ps_fld (pv 0) (pe_none1 (pv 2) pe_int) rfl)
      (pss_cons (ps_fld (pv 0) pe_nnew rfl)
      (pss_cons (ps_set (i := 3) nd rfl (Or.inl rfl) pe_bl)
      (pss_one (ps_while PassesOwn.never (pt_val (pv 3))
        (pss_cons (ps_set (i := 3) nd rfl (Or.inl rfl) pe_bl)
        (pss_one (ps_for PassesOwn.never rfl (pi_list (pe_fld (pv 1) rfl)) (pg_name (i := 4) nd rfl (Or.inl rfl))
          (pss_cons (ps_asg (pv 4) (pg_tup (n := 3) rfl (pgs_cons (pg_name (i := 5) nd rfl (Or.inl rfl)) (pgs_cons (pg_name (i := 6) nd rfl (Or.inl rfl)) (pgs_cons (pg_name (i := 7) nd rfl (Or.inl rfl)) pgs_nil)))))
          (pss_one (ps_if (PW.pt (pw_and (pt_cmpR or_nin (pv 5) (pe_fld (pv 0) rfl) rfl) (pw_and1 (PW.pt (pw_or (pt_cmpR or_nnotin (pv 6) (pe_fld (pv 0) rfl) rfl) (pw_or1 (pt_cmp (pc_gt (pe_add (pe_nget (pe_fld (pv 0) rfl) (pv 5)) (pv 7)) (pe_nget (pe_fld (pv 0) rfl) (pv 6))))))))))
            (pss_cons (ps_nput (pe_fld (pv 0) rfl) (pv 6) (pe_add (pe_nget (pe_fld (pv 0) rfl) (pv 5)) (pv 7)))
            (pss_cons (ps_nput (pe_fld (pv 0) rfl) (pv 6) (pv 4))
            (pss_one (ps_set (i := 3) nd rfl (Or.inl rfl) pe_bl)))) pss_nil)))))))))))), ?_⟩
    refine ⟨_, rfl, _, rfl, x, CR, dx, _, rfl, hx, c.c, c.s, by show 0 < 1000; decide, fun db hdb => ⟨_, rfl, upd_same, v, .int 0, rfl, ?_⟩⟩
    have nbx : db ≠ x := fun e => by rw [e, upd_same] at hdb; cases hdb
    rw [upd_ne nbx] at hdb
    refine ⟨_, rfl, x, CR, dx, _, rfl, by rw [upd_ne (Ne.symm nbx), upd_ne (Ne.symm nbx), upd_same], c.c, c.b, by show 1 < 1000; decide, fun dl hdl => ?_⟩
    have nlx : dl ≠ x := fun e => by rw [e, upd_same] at hdl; cases hdl
    rw [upd_ne nlx] at hdl
    have nlb : dl ≠ db := fun e => by rw [e, upd_same] at hdl; cases hdl
    rw [upd_ne nlb, upd_ne nlb, upd_ne nlx] at hdl
    refine ⟨_, rfl, x, CR, dx, _, rfl, by rw [upd_ne (Ne.symm nlx), upd_same], c.c, c.l, by show 2 < 1000; decide, ?_⟩
    obtain ⟨⟨ds, sa, ga, e1, e2, e3⟩, etup⟩ := id hsys
    have nsx : sy ≠ x := ne_of e1 hx (fun z => List.cons_ne_nil _ _ (HO.ins.inj z).2.2)
    have ngx : ga ≠ x := ne_of e3 hx (by intro z; cases z)
    have ntx : ∀ r ∈ rl, r.1 ≠ x := fun r hr => ne_of (etup r hr) hx (by intro z; cases z)
    let S : Nat → RS Nd (Addr × Rule) := fun i => runP eT eH eP rl i ⟨b1 v, fun _ => none, true⟩
    let Fr : Hp → RS Nd (Addr × Rule) → Prop := fun H' s => (∀ y u, y ≠ x → H y = some u → H' y = some u) ∧ H' x = some (.ins CR dx [("start", ndV v), ("best", .ref db), ("last", .ref dl)]) ∧ BestV P w H' db s.b (things ss) ∧ LastV (fun e => e.1) P w H' dl s.l (things ss)
    have hvT : v ∈ things ss := mem_things hv
    let W : Nat → L2.St → Hp → Prop := fun m σ H' => ∃ i, Fr H' (S i) ∧ Ws.Fin eT eH eP rl m (S i) ∧ ∃ v4 v5 v6 v7, σ = [some (.ref x), some (.ref sy), some (ndV v), some (.bl (S i).imp), v4, v5, v6, v7]
    have fin0 : ∃ m, Ws.Fin eT eH eP rl m (S 0) := fin_ex (pi := fun u => pi u - pi v) (b0 := b1 v) (fun r hr => by have := hadm r hr; show r.2.2.2 ≤ (pi r.2.2.1 - pi v) - (pi r.2.1 - pi v); omega) (V := things ss) (fun r hr => mem_things (hends r hr).2) _ _ _ rfl rfl (Jv.start fun u y hu => by
      have hu' : (if u = v then some 0 else none) = some y := hu
      by_cases h : u = v
      · rw [if_pos h] at hu'; cases hu'; rw [h]; omega
      · rw [if_neg h] at hu'; cases hu')
    obtain ⟨m0, hm0⟩ := fin0
    refine ⟨W, ⟨m0, 0, ⟨fun y u hy e => ?_, ?_, ⟨[(v, .int 0)], ?_, fun k => ?_, ?_⟩, ⟨[], ?_, fun k => rfl, ?_⟩⟩, hm0, _, _, _, _, rfl⟩, fun m σ H' hW => ?_⟩
    · rw [upd_ne hy, upd_ne (ne_of_none e hdl), upd_ne hy, upd_ne (ne_of_none e hdb), upd_ne (ne_of_none e hdb), upd_ne hy]; exact e
    · exact upd_same
    · exact (upd_ne nbx).trans ((upd_ne (Ne.symm nlb)).trans ((upd_ne nbx).trans upd_same))
    · refine (valV_zero (ks := [v]) (k := k) (by simp)).trans ?_
      show _ = (if k = v then some 0 else none : Option Int).map V.int
      by_cases h : k = v
      · rw [if_pos h, if_pos (List.mem_singleton.mpr h)]
      · rw [if_neg h, if_neg fun z => h (List.mem_singleton.mp z)]
    · exact ⟨by simp, fun k hk => by rw [List.mem_singleton.mp hk]; exact hvT⟩
    · exact (upd_ne nlx).trans upd_same
    · exact ⟨List.nodup_nil, fun k hk => nomatch hk⟩
    · obtain ⟨i, fr, hm, v4, v5, v6, v7, rfl⟩ := hW
      refine ⟨_, rfl, _, rfl, ?_⟩
      cases hi : (S i).imp with
      | false =>
        refine iteF ?_
        obtain ⟨k1, k2, k3, k4⟩ := fr
        refine q H' i k1 ⟨dx, db, dl, nlb, k2, k3, k4⟩ ?_
        cases i with
        | zero => cases hi
        | succ k =>
          have e : S (k + 1) = fresh (S k) := pass_still rl (fresh (S k)) hi
          have e2 : Fix eT eH eP rl (fresh (S k)).b := fix_of_still hi
          rw [← e] at e2
          exact e2
      | true =>
        refine iteT ?_
        cases m with
        | zero => rw [show (S i).imp = false from hm] at hi; cases hi
        | succ m =>
          refine ⟨W m, fun σ' H' hw => ⟨m, Nat.lt_succ_self _, hw⟩, ?_⟩
          let T : Nat → RS Nd (Addr × Rule) := fun j => pass eT eH eP (rl.take j) (fresh (S i))
          let Iv : Nat → L2.St → Hp → Prop := fun j σ H2 => Fr H2 (T j) ∧ ∃ v4 v5 v6 v7, σ = [some (.ref x), some (.ref sy), some (ndV v), some (.bl (T j).imp), v4, v5, v6, v7]
          have sr : ∀ {H2 s}, Fr H2 s → SqL K H2 ga (refsR rl) := fun f => SqL.of (f.1 _ _ ngx e3)
          refine ⟨_, rfl, sy, CS, ds, _, _, rfl, fr.1 _ _ nsx e1, cs.c, cs.g, rfl, ga, rfl, ⟨_, sr fr⟩, ?_⟩
          refine for_it walk_list Iv ⟨fr, _, _, _, _, rfl⟩ (fun _ _ _ _ p => sr p.1) (fun j u σ H2 H2' hj p y => ?_) (fun σ H2 p => ?_)
          · obtain ⟨rfl, hu⟩ := y
            rw [refsR, List.getElem?_map] at hu
            obtain ⟨r, hn, rfl⟩ := Option.map_eq_some_iff.mp hu
            have hr1 := List.mem_of_getElem? hn
            obtain ⟨⟨k1, k2, ⟨kb, hkb, hvb, hwb⟩, ⟨kl, hkl, hvl, hwl⟩⟩, w4, w5, w6, w7, rfl⟩ := p
            have htp : SqT K H2' r.1 (ruleVs r.2) := SqT.of (k1 _ _ (ntx r hr1) (etup r hr1))
            have hT1 : T (j + 1) = rx eT eH eP (T j) r := by
              show pass eT eH eP (rl.take (j + 1)) _ = rx eT eH eP (pass eT eH eP (rl.take j) _) r
              rw [List.take_add_one, hn]
              unfold pass
              rw [Option.toList_some, List.foldl_append]
              rfl
            have hhT : r.2.2.1 ∈ things ss := mem_things (hends r hr1).2
            have hlb := hwb.len
            have hll := hwl.len
            have hVl : (things ss).length = ss.length + 1 := by rw [things, List.length_cons, List.length_map]
            refine ⟨_, rfl, r.1, _, rfl, htp, rfl, _, _, rfl, _, _, rfl, _, _, rfl, rfl, ?_⟩
            refine ⟨_, rfl, _, rfl, x, CR, dx, _, _, rfl, k2, c.c, c.b, rfl, db, kb, r.2.1, rfl, rfl, Rd.of hkb, _, rfl, ?_⟩
            cases hl0 : (T j).b r.2.1 with
            | none =>
              have vl : valV kb r.2.1 = none := by rw [hvb, hl0]; rfl
              have eT1 : T (j + 1) = T j := by
                rw [hT1]
                unfold rx
                rw [show (T j).b (eT r) = none from hl0]
              rw [vl]
              refine iteF (iteF ?_)
              exact ⟨by rw [eT1]; exact ⟨k1, k2, ⟨kb, hkb, hvb, hwb⟩, ⟨kl, hkl, hvl, hwl⟩⟩, _, _, _, _, by rw [eT1]; rfl⟩
            | some xl =>
              have vl : valV kb r.2.1 = some (.int xl) := by rw [hvb, hl0]; rfl
              rw [vl]
              refine iteT ⟨_, rfl, _, rfl, x, CR, dx, _, _, rfl, k2, c.c, c.b, rfl, db, kb, r.2.2.1, rfl, rfl, Rd.of hkb, _, rfl, ?_⟩
              have still : worth ((T j).b r.2.2.1) (xl + r.2.2.2) = false → Iv (j + 1) [some (.ref x), some (.ref sy), some (ndV v), some (.bl (T j).imp), some (.ref r.1), some (ndV r.2.1), some (ndV r.2.2.1), some (.int r.2.2.2)] H2' := fun hw => by
                have eT1 : T (j + 1) = T j := by
                  rw [hT1]
                  unfold rx
                  rw [show (T j).b (eT r) = some xl from hl0]
                  simp only
                  rw [if_neg (show ¬ worth ((T j).b (eH r)) (xl + eP r) = true by rw [show worth ((T j).b (eH r)) (xl + eP r) = false from hw]; exact Bool.false_ne_true)]
                exact ⟨by rw [eT1]; exact ⟨k1, k2, ⟨kb, hkb, hvb, hwb⟩, ⟨kl, hkl, hvl, hwl⟩⟩, _, _, _, _, by rw [eT1]⟩
              have done : worth ((T j).b r.2.2.1) (xl + r.2.2.2) = true → Iv (j + 1) [some (.ref x), some (.ref sy), some (ndV v), some (.bl true), some (.ref r.1), some (ndV r.2.1), some (ndV r.2.2.1), some (.int r.2.2.2)] (upd (upd H2' db (dN P w db (putK kb r.2.2.1 (.int (xl + r.2.2.2))))) dl (dN P w dl (putK kl r.2.2.1 (.ref r.1)))) := fun hw => by
                have eT1 : T (j + 1) = ⟨put (T j).b r.2.2.1 (xl + r.2.2.2), put (T j).l r.2.2.1 r, true⟩ := by
                  rw [hT1]
                  unfold rx
                  rw [show (T j).b (eT r) = some xl from hl0]
                  simp only
                  rw [if_pos (show worth ((T j).b (eH r)) (xl + eP r) = true from hw)]
                rw [show Iv (j + 1) = fun σ H2 => Fr H2 (T (j + 1)) ∧ ∃ v4 v5 v6 v7, σ = [some (.ref x), some (.ref sy), some (ndV v), some (.bl (T (j + 1)).imp), v4, v5, v6, v7] from rfl, eT1]
                refine ⟨⟨fun y u hy e => ?_, ?_, ?_, ?_⟩, _, _, _, _, rfl⟩
                · rw [upd_ne (ne_of_none e hdl), upd_ne (ne_of_none e hdb)]; exact k1 y u hy e
                · exact (upd_ne (Ne.symm nlx)).trans ((upd_ne (Ne.symm nbx)).trans k2)
                · obtain ⟨k8, q1, q2, q3⟩ := bestV_put (P := P) (w := w) (H := H2') (d := db) (k := r.2.2.1) (y := xl + r.2.2.2) hvb hwb hhT
                  exact ⟨k8, (upd_ne (Ne.symm nlb)).trans q1, q2, q3⟩
                · exact lastV_put (q := fun e => e.1) (e := r) hvl hwl hhT
              cases hh : (T j).b r.2.2.1 with
              | none =>
                have vh : valV kb r.2.2.1 = none := by rw [hvb, hh]; rfl
                have hw : worth ((T j).b r.2.2.1) (xl + r.2.2.2) = true := by rw [hh]; rfl
                rw [vh]
                refine iteT (iteT ?_)
                refine ⟨_, rfl, x, CR, dx, _, _, rfl, k2, c.c, c.b, rfl, _, rfl, db, kb, r.2.1, .int xl, rfl, rfl, Rd.of hkb, vl, _, rfl, _, _, rfl, rfl, ?_⟩
                refine ⟨_, rfl, x, CR, dx, _, _, rfl, k2, c.c, c.b, rfl, _, rfl, db, kb, r.2.2.1, rfl, rfl, hkb, by rw [sizeLine_eq]; omega, ?_⟩
                refine ⟨_, rfl, _, rfl, x, CR, dx, _, _, rfl, (upd_ne (Ne.symm nbx)).trans k2, c.c, c.l, rfl, _, rfl, dl, kl, r.2.2.1, rfl, rfl, (upd_ne nlb).trans hkl, by rw [sizeLine_eq]; omega, ?_⟩
                exact done hw
              | some xh =>
                have vh : valV kb r.2.2.1 = some (.int xh) := by rw [hvb, hh]; rfl
                rw [vh]
                refine iteF ⟨_, rfl, x, CR, dx, _, _, rfl, k2, c.c, c.b, rfl, _, rfl, db, kb, r.2.1, .int xl, rfl, rfl, Rd.of hkb, vl, _, rfl, _, _, rfl, rfl, ?_⟩
                refine ⟨_, rfl, x, CR, dx, _, _, rfl, k2, c.c, c.b, rfl, _, rfl, db, kb, r.2.2.1, .int xh, rfl, rfl, Rd.of hkb, vh, _, _, rfl, rfl, _, rfl, ?_⟩
                by_cases hlt : xh < xl + r.2.2.2
                · have hw : worth ((T j).b r.2.2.1) (xl + r.2.2.2) = true := by rw [hh]; exact decide_eq_true hlt
                  refine iteD hlt ?_
                  refine ⟨_, rfl, x, CR, dx, _, _, rfl, k2, c.c, c.b, rfl, _, rfl, db, kb, r.2.1, .int xl, rfl, rfl, Rd.of hkb, vl, _, rfl, _, _, rfl, rfl, ?_⟩
                  refine ⟨_, rfl, x, CR, dx, _, _, rfl, k2, c.c, c.b, rfl, _, rfl, db, kb, r.2.2.1, rfl, rfl, hkb, by rw [sizeLine_eq]; omega, ?_⟩
                  refine ⟨_, rfl, _, rfl, x, CR, dx, _, _, rfl, (upd_ne (Ne.symm nbx)).trans k2, c.c, c.l, rfl, _, rfl, dl, kl, r.2.2.1, rfl, rfl, (upd_ne nlb).trans hkl, by rw [sizeLine_eq]; omega, ?_⟩
                  exact done hw
                · refine iteDF hlt ?_
                  exact still (by rw [hh]; exact decide_eq_false hlt)
          · obtain ⟨f, w4, w5, w6, w7, rfl⟩ := p
            have hT : T (refsR rl).length = S (i + 1) := by
              show pass eT eH eP (rl.take (refsR rl).length) _ = pass eT eH eP rl _
              rw [refsR, List.length_map, List.take_length]
            rw [hT] at f
            exact ⟨i + 1, f, hm.2, _, _, _, _, by rw [hT]⟩
end
end Ws
end
section
/-! Reach.rules_to -/
namespace Ws
open PySem PySem.Spec PyProof.Rows L2
abbrev sRules : Stmt := mth 28 2
/-- a reach whose totals may be locked -/
structure ReachR (P : Program) (w : World) (CR : Addr) (H : Hp) (x : Addr) (v : Nd) (s : RS Nd (Addr × Rule)) (W : List Nd) : Prop where
  ex : ∃ dx db dl kvs, H x = some (.ins CR dx [("start", ndV v), ("best", .ref db), ("last", .ref dl)]) ∧ Rd H db (dN P w db kvs) ∧ (∀ k, valV kvs k = (s.b k).map V.int) ∧ LastV (fun e => e.1) P w H dl s.l W
def spRules (CR : Addr) (P : Program) (w : World) : Sp := fun vs H Q _ => ∃ x v s ss rl pi hi y, vs = [.ref x, ndV hi] ∧ ReachR P w CR H x v s (things ss) ∧ Jv eT eH eP rl pi (b1 v) s ∧ s.b hi = some y ∧ (∀ r ∈ rl, H r.1 = some (.tup (ruleVs r.2))) ∧ ss.length < 50 ∧ endsIn ss rl ∧ hi ∈ things ss ∧
  ∀ q H', Same H H' → Q (.ref q) H'
section
variable {P : Program} {w : World} {K : PySem.W.Frag} {mg : Str → Option Value} {base : Heap} {f CR : Addr} {fd : FuncData}
abbrev nRu : List Str := ["self", "high", "found", "thing"]
theorem sc_rules : FnScope nRu ["self", "high"] (defScope sRules) := ⟨rfl, rfl, rfl, by decide +kernel, rfl, by decide +kernel, by decide +kernel⟩
theorem ok_rules (F : Fun K "rules_to" "Reach.rules_to" sRules f fd) (c : ReachC K CR) : FnOk P w K mg base CX0 2 f fd ["self", "high"] (spRules CR P w) := by
  refine F.ok sc_rules (fun vs H Q E h => ?_) (fun cdv A outer s H vs Q E hr h => ?_)
  · obtain ⟨x, v, s, ss, rl, pi, hi, y, rfl, _⟩ := h
    rfl
  · obtain ⟨x, v, S, ss, rl, pi, hi, y, rfl, ⟨⟨dx, db, dl, kb, hx, hkb, hvb, ⟨kl, hkl, hvl, hwl⟩⟩⟩, jv, hy, htup, hlen, hends, hiT, q⟩ := h
    have nd := sc_rules.nd
    have hu := hu_of hr
    refine ⟨_, (pss_cons (ps_if (pt_cmpR or_nnotin (pv 1) (pe_fld (pv 0) rfl) rfl) (pss_one (ps_ret pe_non)) pss_nil)
      (pss_cons (ps_set (i := 2) nd rfl (Or.inl rfl) (pe_lst pa_nil))
      (pss_cons (ps_set (i := 3) nd rfl (Or.inl rfl) (pv 1))
      (pss_cons (ps_while PassesOwn.never (pt_cmpR op_ne (pv 3) (pe_fld (pv 0) rfl) (nomark _))
        (pss_cons (ps_expr (pe_bm PySem.F.plainAttrs_list PySem.F.slot_list_insert PySem.F.type_list_insert mt_insert (pv 2) (pa_cons pe_int (pa_cons (pe_nget (pe_fld (pv 0) rfl) (pv 3)) pa_nil))))
        (pss_one (ps_set (i := 3) nd rfl (Or.inl rfl) (pe_ix ix_tup (pe_nget (pe_fld (pv 0) rfl) (pv 3)) pe_int (fun _ _ => rfl))))))
      (pss_one (ps_ret (pv 2))))))), ?_⟩
    have vh : valV kb hi = some (.int y) := by rw [hvb, hy]; rfl
    refine ⟨_, rfl, _, rfl, x, CR, dx, _, _, rfl, hx, c.c, c.b, rfl, db, kb, hi, rfl, rfl, hkb, _, rfl, ?_⟩
    rw [vh]
    refine iteF ⟨Nat.zero_le _, fun fo hfo => ⟨_, rfl, ?_⟩⟩
    have lin : ∀ u e, S.l u = some e → e ∈ rl ∧ ∃ z, S.b (eT e) = some z := fun u e he => by
      obtain ⟨yu, hyu⟩ := jv.lnb u e he
      rcases jv.par u yu hyu with ⟨q, _⟩ | ⟨e', h1, h2, _, z, h3, _⟩
      · rw [he] at q; cases q
      · rw [he] at h2; cases h2
        exact ⟨h1, z, h3⟩
    obtain ⟨d0, hd0⟩ := jv.dep hi y hy
    have hd60 : d0 < 60 := by
      obtain ⟨ch, c1, c2, _, _, c5⟩ := dp_chain hd0
      have : ch.length ≤ (things ss).length := nodup_le c2 fun u hu => by
        rcases c5 u hu with rfl | ⟨u', e, h1, rfl, _⟩
        · exact hiT
        · exact mem_things (hends e (lin u' e h1).1).1
      rw [things, List.length_cons, List.length_map] at this
      omega
    let W : Nat → L2.St → Hp → Prop := fun m σ H' => ∃ th acc, Ws.Dp eT S.l th m ∧ (∃ z, S.b th = some z) ∧ Same H H' ∧ H' fo = some (.lst acc) ∧ acc.length + m ≤ 60 ∧ σ = [some (.ref x), some (ndV hi), some (.ref fo), some (ndV th)]
    refine ⟨W, ⟨d0, hi, [], hd0, ⟨y, hy⟩, Same.new hfo, upd_same, by show 0 + d0 ≤ 60; omega, rfl⟩, fun m σ H' hW => ?_⟩
    obtain ⟨th, acc, hdp, ⟨z, hz⟩, sH, hac, hlen2, rfl⟩ := hW
    refine ⟨_, rfl, _, rfl, x, CR, dx, _, _, rfl, sH _ _ hx, c.c, c.s, rfl, ndV_scal th v, _, rfl, ?_⟩
    rw [ndV_dec]
    by_cases htv : th = v
    · rw [decide_eq_true htv]
      refine iteF ⟨_, rfl, q _ _ sH⟩
    · rw [decide_eq_false htv]
      refine iteT ?_
      cases hdp with
      | base hl =>
        rcases jv.par th z hz with ⟨_, h2⟩ | ⟨e, _, h2, _⟩
        · have h2' : (if th = v then some 0 else none) = some z := h2
          rw [if_neg htv] at h2'; cases h2'
        · rw [hl] at h2; cases h2
      | @step _ e d hl hd =>
        obtain ⟨her, z', hz'⟩ := lin th e hl
        have vl : valV kl th = some (.ref e.1) := by rw [hvl, hl]; rfl
        have nfl : dl ≠ fo := fun e => by rw [← e, sH _ _ hkl] at hac; cases hac
        refine ⟨W d, fun σ' H' hw => ⟨d, Nat.lt_succ_self _, hw⟩, ?_⟩
        refine ⟨_, rfl, .inl ⟨rfl, _, SqL.of hac⟩, _, rfl, x, CR, dx, _, _, rfl, sH _ _ hx, c.c, c.l, rfl, _, rfl, dl, kl, th, .ref e.1, rfl, rfl, Rd.of (sH _ _ hkl), vl, ?_⟩
        have hfo0 : H fo = none := hfo
        refine ⟨fo, _, 0, _, rfl, rfl, hac, by rw [sizeLine_eq]; omega, Int.le_refl _, by decide, ?_⟩
        have s6 := sH.put (o := .lst ((acc.take (0 : Int).toNat) ++ [V.ref e.1] ++ acc.drop (0 : Int).toNat)) hfo0
        refine ⟨_, rfl, x, CR, dx, _, _, rfl, s6 _ _ hx, c.c, c.l, rfl, _, rfl, dl, kl, th, .ref e.1, rfl, rfl, Rd.of (s6 _ _ hkl), vl, e.1, _, _, _, rfl, rfl, SqT.of (s6 _ _ (htup e her)), rfl, ?_⟩
        refine ⟨eT e, _, hd, ⟨z', hz'⟩, s6, upd_same, ?_, rfl⟩
        rw [List.length_append, List.length_append, List.length_take, List.length_drop]
        show min 0 acc.length + 1 + (acc.length - 0) + d ≤ 60
        omega
end
end Ws
end
section
/-! for k, v in d.items(), d a dict with None among its keys -/
namespace Ws
open PySem PySem.Spec PyProof.Rows L2
theorem nd_rel {P : Program} {w : World} {k : Nd} {u : Value} (h : (ndKind P w).is k u = true) : RelV (ndV k) u := by
  cases k with
  | none =>
    have e : Leaf.isOf .none u = true := h
    cases u <;> first | rfl | (simp [Leaf.isOf] at e)
  | some x =>
    have e : Value.isStrOf x u = true := h
    obtain ⟨t, e⟩ := Value.isStrOf_shape e
    exact ⟨t, e⟩
def ItiN (P : Program) (w : World) (d : Addr) (o : Obj) (kvs : List (Nd × V)) : It :=
  ⟨fun i H => H d = some (.frz o (dN P w d kvs)) ∧ i < kvs.length, fun i H x H' => ∃ T k v, kvs[i]? = some (k, v) ∧ x = .ref T ∧ H T = none ∧ H' = upd H T (.tup [ndV k, v]), fun i H => H d = some (.frz o (dN P w d kvs)) ∧ kvs.length ≤ i⟩
section
variable {X : Cx} {pins : List (Addr × Obj)} {σ : L2.St} {H : Hp} {s : Shared} {d : Addr} {o : Obj}
theorem frzN {kvs : List (Nd × V)} (I : Inv X pins σ H s) (h : H d = some (.frz o (dN X.prog X.w d kvs))) :
    (d == sysModules) = false ∧ s.heap.get? d = some o ∧ o.ExactDict ∧ ∃ (es : Array DictEntry) (ep : Nat) (vs : List (Nd × Value)), o.data = .dict es ep ∧ es.size = kvs.length ∧ KV kvs vs ∧ s.heap.DictAt (ndKind X.prog X.w) d vs ep := by
  obtain ⟨hd, ⟨z, hs, vs, kv, o', es, ep, ho, hx, hdt, r⟩, _⟩ := I.hok d _ h
  rw [hd] at ho
  cases ho
  refine ⟨hs, hd, hx, es, ep, vs, hdt, ?_, kv, o, es, hd, hx, hdt, r⟩
  have l1 := r.2.1.length
  have l2 : kvs.length = vs.length := Paired.length kv
  rw [Array.length_toList] at l1
  omega
end
section
variable {P : Program} {w : World} {K : PySem.W.Frag} {d : Addr} {o : Obj} {es : Array DictEntry} {ep : Nat}
theorem turn_itemsN {kvs : List (Nd × V)} {elts : List Expr} {kk : Nat} {tpos : Pos} (it : Addr) (hod : o.data = .dict es ep) :
    Turn P w K (.Tuple elts kk tpos) (ItiN P w d o kvs) [it] it (fun i h => ∃ ok ov, IsItemIter h it d i kvs.length ep ok ov) where
  mem := by simp
  obj := fun i h st b hb => by
    have e : b = it := by simpa using hb
    subst e
    obtain ⟨ok, ov, e⟩ := st
    exact ⟨_, e, fun v z => nomatch z⟩
  keep := fun i h h' st k => let ⟨ok, ov, e⟩ := st; ⟨ok, ov, k it (by simp) _ e⟩
  item := by
    intro X hP hw hK hc i pins s σ H E I hf st hg
    subst hP hw hK
    obtain ⟨hd, hi⟩ := hg
    obtain ⟨hs, hgd, hx, es', ep', vs, hdt, hsz, kv, hm⟩ := frzN I hd
    obtain ⟨rfl, rfl⟩ := dict_ep hod hdt
    obtain ⟨⟨k, v⟩, hkv⟩ : ∃ p, kvs[i]? = some p := ⟨kvs[i], List.getElem?_eq_getElem hi⟩
    obtain ⟨u, hu, ru⟩ := kv_get kv hkv
    have hl : kvs.length = vs.length := Paired.length kv
    obtain ⟨ok, ov, he⟩ := st
    rw [hl] at he
    have hlt : it < s.heap.objs.size := Heap.lt_size he
    refine wpAny_pyNext_items_item he hm hu fun key h' hkey ho hT hz hk => ?_
    refine ⟨_, rfl, wpAny_letOwnedTupleGo_items (s := { s with heap := h' }) ho fun h'' he' sb => ?_⟩
    have hT2 : h''.get? s.heap.objs.size = some { cls := .type "tuple", data := .seq #[key, u] } := (sb.2 _ (Nat.ne_of_gt hlt)).trans hT
    have new : ObjOk X.prog X.w (upd H s.heap.objs.size (.tup [ndV k, v])) h'' s.heap.objs.size (.tup [ndV k, v]) :=
      ⟨by show 2 ≤ sizeLine; decide, [key, u], .cons (nd_rel (show (ndKind X.prog X.w).is k key = true from hkey)) (.cons ru .nil), ⟨_, hT2, rfl, _, rfl⟩⟩
    have I1 : Inv X pins σ (upd H s.heap.objs.size (.tup [ndV k, v])) { s with heap := h'' } :=
      I.turnedNew (t' := s.toks) (ch := [it]) (fun b ob hb e => (sb.2 b (by simpa using hb)).trans (hk b ob (by simpa using hb) e)) hf (Nat.le_refl _) new
    refine ⟨.ref s.heap.objs.size, _, I1, rfl, ⟨_, k, v, hkv, rfl, I.hok.fresh (Nat.le_refl _), rfl⟩, ⟨key, u, ?_⟩, fun b hb => ?_⟩
    · rw [hl]; exact he'
    · have e : b = it := by simpa using hb
      rw [e, upd_ne (Nat.ne_of_lt hlt)]
      exact (hf it (by simp)).1
  done := by
    intro X hP hw hK hc i pins s σ H E I hf st hg
    subst hP hw hK
    obtain ⟨hd, hi⟩ := hg
    obtain ⟨f0, f1, f2, f3, f4, f5⟩ := hf it (by simp)
    obtain ⟨hs, hgd, hx, es', ep', vs, hdt, hsz, kv, hm⟩ := frzN I hd
    obtain ⟨rfl, rfl⟩ := dict_ep hod hdt
    have hl : kvs.length = vs.length := Paired.length kv
    obtain ⟨ok, ov, he⟩ := st
    rw [hl] at he
    exact wpAny_pyNext_items_end (I.ok.hd hc) he hm (List.getElem?_eq_none (by omega)) fun h' eb => ⟨rfl, I.turned (t' := s.toks) (fun b ob hb e => eb b ob hb e) f0 f1 f3 f4 f5⟩
  self := fun A i s Q E st h => let ⟨_, _, e⟩ := st; PySem.W.kcp_self e h
end
def iItemsN (P : Program) (w : World) (td : TE) : L2.TI := fun σ H R => td σ H fun x H1 => ∃ d o kvs, x = .ref d ∧ H1 d = some (.frz o (dN P w d kvs)) ∧ R (ItiN P w d o kvs) H1
section
variable {X : Cx} {tg e : Expr} {td : TE} {apos cpos : Pos}
theorem pi_itemsN {elts : List Expr} {kk : Nat} {tpos : Pos} (he : PE X e td) (hbase : attributeBase e "items" X.env (eval e X.env) = eval e X.env := by rfl) (hline : (apos.endLine == cpos.line) = true := by rfl) :
    PI X (.Tuple elts kk tpos) (.Call (.Attribute e "items" apos) [] [] cpos) (iItemsN X.prog X.w td) := by
  refine ⟨fun pins s σ H R I h => ?_⟩
  refine wpAny_Call_method (T := "dict") (id := "dict.items") hbase rfl hline F.plainAttrs_dict F.slot_dict_items F.type_dict_items (thn (he.run pins s σ H _ I h) fun u s1 ⟨x, H1, I1, rx, d, o, kvs, ex, hd, q⟩ => ?_)
  subst ex
  obtain rfl : u = Value.ref d := rx
  obtain ⟨hs, hgd, hx, es, ep, vs, hdt, hsz, kv, hm⟩ := frzN I1 hd
  have hl : kvs.length = vs.length := Paired.length kv
  refine ⟨hm.dictOf.typeIs, hm.dictOf.mapOf.noDict, ?_⟩
  have I2 : Inv X pins σ H1 { s1 with heap := s1.heap.push { cls := .type "dict_items", data := .fields #[.ref d] } } := I1.kept (t' := s1.toks) fun b ob q => Heap.get?_push_of_some _ q
  have fin : wpAny (model X.prog X.w) X.A (pyIter (.ref s1.heap.objs.size)) (PIE X pins σ (.Tuple elts kk tpos) R) X.xe { s1 with heap := s1.heap.push { cls := .type "dict_items", data := .fields #[.ref d] } } := by
    refine wpAny_pyIter_items (d := d) (knd := ndKind X.prog X.w) ⟨_, Heap.get?_push_size _ rfl, rfl, rfl⟩ (hm.push _) (pi_one (tk := s1.toks) I2 _ (turn_itemsN _ hdt) ⟨.none, .none, ?_⟩ q)
    rw [hl]
    exact Heap.get?_push_size _ rfl
  show wpAny _ _ (callWith cpos (.builtin "dict.items") [.ref d] [] []) _ X.xe s1
  exact method_meetsIn F.slot_dict_items F.entry_dict_items rfl (PySem.evalArgs_none ⟨rfl, hm.dictOf.typeIs, F.args_dict_items_1 _, _, meets_dict_items (ndKind X.prog X.w) d hs, ⟨vs, hm.dictOf⟩, fin⟩)
end
theorem walk_itemsN {P : Program} {w : World} {d : Addr} {o : Obj} {kvs : List (Nd × V)} : Walk (ItiN P w d o kvs) kvs.length (fun H => H d = some (.frz o (dN P w d kvs))) (YPair (fun i => kvs[i]?.map fun kv => ndV kv.1) (fun i => kvs[i]?.map Prod.snd)) := by
  refine ⟨fun _ _ hi q => ⟨q, hi⟩, fun _ q => ⟨q, Nat.le_refl _⟩, fun i H x H' _ _ y => ?_⟩
  obtain ⟨T, k, v, h1, h2, h3, h4⟩ := y
  exact ⟨T, ndV k, v, h2, h3, h4, by simp [h1], by simp [h1]⟩
end Ws
end
section
/-! bind -/
namespace Ws
open PySem PySem.Spec PyProof.Rows L2
abbrev sBind : Stmt := top 31
/-- a property -/
structure Prp (P : Program) (w : World) (K : PySem.W.Frag) (mg : Str → Option Value) (base : Heap) (k : Nat) (C : Addr) (m : Str) (sp : Sp) : Prop where
  ex : ∃ (p g : Addr) (fd : FuncData) (ps : List Str), Cls K C ∧ PropOf K C m p g ∧ FnOk P w K mg base CX0 k g fd ps sp ∧ Binds K fd ps []
theorem pe_pr {X : Cx} {k j : Nat} {C : Addr} {m : Str} {sp : Sp} {e : Expr} {pos : Pos} {ta : TE} (c : Prp X.prog X.w X.K X.mg X.base k C m sp) (hr : Room j X.A) (he : PE X e ta) (hk : k + 1 ≤ j := by decide) (hab : attributeBase e m X.env (eval e X.env) = eval e X.env := by rfl) :
    PE X (.Attribute e m pos) (tProp C sp [] E0 ta) := by
  obtain ⟨p, g, fd, ps, hc, hp, F, b⟩ := c.ex
  exact pe_prop he hc hp F (hr.mono hk) b .nil pass0 hab
/-- all is kept but dicts of the .ext kind (locked or not) -/
def SameN (H H' : Hp) : Prop := ∀ z u, H z = some u → (∀ φ, u ≠ .ext φ) → H' z = some u
theorem SysAt.sameN {CS : Addr} {H H' : Hp} {x : Addr} {ns : List Str} {rl : List (Addr × Rule)} (a : SysAt CS H x ns rl) (s : SameN H H') : SysAt CS H' x ns rl :=
  let ⟨dx, sa, ga, h1, h2, h3⟩ := a.ex
  ⟨⟨dx, sa, ga, s _ _ h1 (fun _ z => nomatch z), s _ _ h2 (fun _ z => nomatch z), s _ _ h3 (fun _ z => nomatch z)⟩, fun r hr => s _ _ (a.tup r hr) (fun _ z => nomatch z)⟩
theorem TaskAt.sameN {C : TAd} {H H' : Hp} {x sy pr od : Addr} {t : Tk} (a : TaskAt C H x t sy pr od) (s : SameN H H') : TaskAt C H' x t sy pr od :=
  ⟨let ⟨dx, tp, h1, h2⟩ := a.ex; ⟨dx, tp, s _ _ h1 (fun _ z => nomatch z), s _ _ h2 (fun _ z => nomatch z)⟩, s _ _ a.old (fun _ z => nomatch z), a.sys.sameN s,
    let ⟨dx, gp, od, h1, h2, h3⟩ := a.pr; ⟨dx, gp, od, s _ _ h1 (fun _ z => nomatch z), s _ _ h2 (fun _ z => nomatch z), s _ _ h3 (fun _ z => nomatch z)⟩, fun dp gp op h => by
    obtain ⟨d1, g1, o1, h1, _, _⟩ := a.pr
    refine a.sep dp gp op ?_
    rw [h1, ← s _ _ h1 (fun _ z => nomatch z), h]⟩
def Tk.binds (t : Tk) : Prop := ∃ lo, lo ∈ things t.ss ∧ t.firm lo = true ∧ ∃ m hi k, (runP eT eH eP t.rl m ⟨b1 lo, fun _ => none, true⟩).b hi = some k ∧ t.strained lo hi k = true
def spBind (C : TAd) : Sp := fun vs H Q _ => ∃ x t sy pr od, vs = [.ref x] ∧ TaskAt C H x t sy pr od ∧ t.Ok ∧ (∃ pi, Adm t.rl pi) ∧
  (∀ H', Same H H' → (∀ lo, lo ∈ things t.ss → t.firm lo = true → ∃ m, Fix eT eH eP t.rl (runP eT eH eP t.rl m ⟨b1 lo, fun _ => none, true⟩).b ∧ ∀ hi k, (runP eT eH eP t.rl m ⟨b1 lo, fun _ => none, true⟩).b hi = some k → t.strained lo hi k = false) → Q .non H') ∧
  (∀ q H', Same H H' → t.binds → Q (.ref q) H')
section
variable {P : Program} {w : World} {K : PySem.W.Frag} {mg : Str → Option Value} {base : Heap} {f CR : Addr} {C : TAd} {fd : FuncData}
abbrev nBind : List Str := ["task", "low", "reach", "high", "total"]
theorem sc_bind : FnScope nBind ["task"] (defScope sBind) := ⟨rfl, rfl, rfl, by decide +kernel, rfl, by decide +kernel, by decide +kernel⟩
theorem ok_bind (F : Fun K "bind" "bind" sBind f fd) (c : TaskC K C.CT) (cr : ReachC K CR) (c1 : Cal P w K mg base 4 "check_consistent" (spContra C.CS)) (c2 : Prp P w K mg base 1 C.CT "system" (spTSys C)) (c3 : Mth P w K mg base 2 C.CT "is_firm" (spFirm C))
    (c4 : Mkr P w K mg base 2 "Reach" CR (spRInit C.CS CR P w)) (c5 : Cal P w K mg base 3 "is_strained" (spStr C)) (c6 : Mth P w K mg base 2 CR "rules_to" (spRules CR P w)) :
    FnOk P w K mg base CX0 5 f fd ["task"] (spBind C) := by
  refine F.ok sc_bind (fun vs H Q E h => ?_) (fun cdv A outer s H vs Q E hr h => ?_)
  · obtain ⟨x, t, sy, pr, od, rfl, _⟩ := h
    rfl
  · obtain ⟨x, t, sy, pr, od, rfl, ta, tok, ⟨pi, hadm⟩, q1, q2⟩ := h
    have nd := sc_bind.nd
    refine ⟨_, (pss_cons (ps_expr (pe_f (X := Cx.nox _) c1 hr (pa_cons (pe_pr c2 hr (pv 0)) pa_nil)))
      (pss_cons (ps_for PassesOwn.never rfl (pi_list (pe_lst (pa_cons pe_non (pa_starD rfl (pe_fld (pv 0) rfl) pa_nil)))) (pg_name (i := 1) nd rfl (Or.inl rfl))
        (pss_one (ps_if (pt_val (pe_m (X := Cx.nox _) c3 hr (pv 0) (pa_cons (pv 1) pa_nil)))
          (pss_cons (ps_set (i := 2) nd rfl (Or.inl rfl) (pe_new (X := Cx.nox _) c4 hr (pa_cons (pe_pr c2 hr (pv 0)) (pa_cons (pv 1) pa_nil))))
          (pss_one (ps_lock (ps_for PassesOwn.never rfl (pi_itemsN (pe_fld (pv 2) rfl)) (pg_tup (n := 2) rfl (pgs_cons (pg_name (i := 3) nd rfl (Or.inl rfl)) (pgs_cons (pg_name (i := 4) nd rfl (Or.inl rfl)) pgs_nil)))
            (pss_one (ps_if (pt_val (pe_f (X := Cx.nox _) c5 hr (pa_cons (pv 0) (pa_cons (pv 1) (pa_cons (pv 3) (pa_cons (pv 4) pa_nil))))))
              (pss_one (ps_ret (pe_m (X := Cx.nox _) c6 hr (pv 2) (pa_cons (pv 3) pa_nil)))) pss_nil)))))) pss_nil)))
      (pss_one (ps_ret pe_non)))), ?_⟩
    obtain ⟨dx, tp, hx, htp⟩ := ta.ex
    refine ⟨_, rfl, x, dx, _, rfl, hx, x, t, sy, pr, od, rfl, ta, sy, t.ss, t.rl, rfl, ta.sys, tok.len, tok.nd, tok.rlen, tok.ends, tok.sok, ⟨pi, hadm⟩, fun H1 s1 => ?_⟩
    have hkv : (oldK t.ss t.old).map (fun kv => kV kv.1) = t.ss.map V.str := by rw [oldK, List.map_map]; rfl
    refine ⟨_, rfl, x, C.CT, dx, _, _, rfl, s1 _ _ hx, c.c, c.o, rfl, od, _, rfl, s1 _ _ ta.old, by rw [hkv, List.length_cons, List.length_append, List.length_map, sizeLine_eq]; have := tok.len; show t.ss.length + 0 + 1 ≤ _; omega, fun la hla => ?_⟩
    have hla0 : H la = none := by
      cases e : H la with
      | none => rfl
      | some u => rw [s1 _ _ e] at hla; cases hla
    rw [hkv, things_vs]
    let Good : Nd → Prop := fun lo => t.firm lo = true → ∃ m, Fix eT eH eP t.rl (runP eT eH eP t.rl m ⟨b1 lo, fun _ => none, true⟩).b ∧ ∀ hi k, (runP eT eH eP t.rl m ⟨b1 lo, fun _ => none, true⟩).b hi = some k → t.strained lo hi k = false
    let Pv : Nat → L2.St → Hp → Prop := fun i σ H' => Same H H' ∧ H' la = some (.lst ((things t.ss).map ndV)) ∧ (∀ j lo, j < i → (things t.ss)[j]? = some lo → Good lo) ∧ ∃ v1 v2 v3 v4, σ = [some (.ref x), v1, v2, v3, v4]
    refine ⟨la, rfl, ⟨_, SqL.of upd_same⟩, for_it walk_list Pv ⟨s1.put hla0, upd_same, fun j lo hj => absurd hj (Nat.not_lt_zero _), _, _, _, _, rfl⟩ (fun _ _ _ _ p => SqL.of p.2.1) (fun i v σ H2 H2' hi p y => ?_) (fun σ H2 p => ?_)⟩
    · obtain ⟨rfl, hv⟩ := y
      rw [List.getElem?_map] at hv
      obtain ⟨lo, hn, rfl⟩ := Option.map_eq_some_iff.mp hv
      obtain ⟨s2, hla2, hg, w1, w2, w3, w4, rfl⟩ := p
      have hloT : lo ∈ things t.ss := List.mem_of_getElem? hn
      refine ⟨_, rfl, x, dx, _, rfl, s2 _ _ hx, rfl, _, rfl, x, t, sy, pr, od, lo, rfl, (ta.same s2).p, _, rfl, ?_⟩
      cases hf : t.firm lo with
      | false =>
        refine iteF ⟨s2, hla2, fun j lo' hj hlo' hf' => ?_, _, _, _, _, rfl⟩
        rcases Nat.lt_or_eq_of_le (Nat.le_of_lt_succ hj) with h | h
        · exact hg j lo' h hlo' hf'
        · rw [h, hn] at hlo'; cases hlo'; rw [hf] at hf'; cases hf'
      | true =>
        refine iteT ?_
        refine ⟨_, rfl, x, dx, _, rfl, s2 _ _ hx, x, t, sy, pr, od, rfl, ta.same s2, _, rfl, fun y dy hy hdy nyd => ?_⟩
        have hloS : ∀ z, lo = some z → z ∈ t.ss := fun z e => by
          subst e
          rcases List.mem_cons.mp hloT with e | e
          · cases e
          · obtain ⟨z', hz', e'⟩ := List.mem_map.mp e
            cases e'; exact hz'
        have s2n : Same H2' (upd (upd H2' dy (.own y)) y (.ins CR dy [])) := fun z u e => by rw [upd_ne (ne_of_none e hy), upd_ne (ne_of_none e hdy)]; exact e
        refine ⟨y, dy, sy, t.ss, t.rl, lo, rfl, upd_same, (ta.sys.same s2).same s2n, tok.len, tok.rlen, tok.ends, hloS, ⟨pi, hadm⟩, fun H3 m k3 ra fixm => ⟨rfl, ?_⟩⟩
        have s23 : Same H2' H3 := fun z u e => k3 z u (ne_of_none e hy) (s2n z u e)
        have s3 := s2.trans s23
        obtain ⟨dy2, db, dl, nlb, hy3, ⟨kb, hkb, hvb, hwb⟩, hlast⟩ := ra
        obtain ⟨kl, hkl, hvl, hwl⟩ := hlast
        refine ⟨db, _, hkb, True.intro, fun od' => ?_⟩
        let Hf := upd H3 db (.frz od' (dN P w db kb))
        have lockN : SameN H3 Hf := fun z u e ne => by
          have hz : z ≠ db := fun e2 => by rw [e2, hkb] at e; cases e; exact ne _ rfl
          show upd H3 db _ z = _
          rw [upd_ne hz]; exact e
        have hfd : Hf db = some (.frz od' (dN P w db kb)) := upd_same
        have nyb : y ≠ db := ne_of hy3 hkb (fun z => nomatch z)
        let B := (runP eT eH eP t.rl m ⟨b1 lo, fun _ => none, true⟩).b
        have hB : ∀ k, valV kb k = (B k).map V.int := hvb
        let Iv : Nat → L2.St → Hp → Prop := fun j σ H' => Same Hf H' ∧ (∀ i hi k, i < j → kb[i]? = some (hi, V.int k) → t.strained lo hi k = false) ∧ ∃ v3 v4, σ = [some (.ref x), some (ndV lo), some (.ref y), v3, v4]
        have unlk : ∀ {H'}, Same Hf H' → Same H (upd H' db (dN P w db kb)) := fun sf z u e => by
          have e3 := s3 _ _ e
          by_cases hz : z = db
          · subst hz
            rw [hkb] at e3
            rw [upd_same]; exact e3
          · rw [upd_ne hz]
            exact sf _ _ (by show upd H3 db _ z = _; rw [upd_ne hz]; exact e3)
        refine ⟨_, rfl, y, CR, dy2, _, _, rfl, (upd_ne nyb).trans hy3, cr.c, cr.b, rfl, db, od', kb, rfl, hfd, for_it walk_itemsN Iv ⟨Same.refl, fun i hi k h => absurd h (Nat.not_lt_zero _), _, _, rfl⟩ (fun _ _ _ _ p => p.1 _ _ hfd) (fun j v σ H4 H5 hj p yy => ?_) (fun σ H4 p => ?_)⟩
        · obtain ⟨T, a, b, rfl, hT, rfl, ha, hb⟩ := yy
          obtain ⟨s4, hst, v3, v4, rfl⟩ := p
          obtain ⟨p, hp, rfl⟩ := Option.map_eq_some_iff.mp ha
          obtain ⟨hi, vv⟩ := p
          have hb' : kb[j]?.map Prod.snd = some b := hb
          rw [hp] at hb'
          obtain rfl : vv = b := Option.some.inj hb'
          have vk : valV kb hi = some vv := valV_mem (p := (hi, vv)) hwb.1 (List.mem_of_getElem? hp)
          obtain ⟨k, hk, rfl⟩ : ∃ k, B hi = some k ∧ vv = V.int k := by
            rw [hB] at vk
            cases e : B hi with
            | none => rw [e] at vk; cases vk
            | some k => rw [e] at vk; cases vk; exact ⟨k, rfl, rfl⟩
          have hiT : hi ∈ things t.ss := hwb.2 hi (List.mem_map.mpr ⟨_, List.mem_of_getElem? hp, rfl⟩)
          have hiS : ∀ z, hi = some z → z ∈ t.ss := fun z e => by
            subst e
            rcases List.mem_cons.mp hiT with e | e
            · cases e
            · obtain ⟨z', hz', e'⟩ := List.mem_map.mp e
              cases e'; exact hz'
          have s5 : Same Hf (upd H4 T (.tup [ndV hi, .int k])) := s4.trans (Same.new hT)
          have ta5 := (((ta.same s3).sameN lockN).same s5)
          refine ⟨T, _, rfl, SqT.of upd_same, rfl, _, _, rfl, _, _, rfl, rfl, ?_⟩
          refine ⟨_, rfl, _, rfl, _, rfl, _, rfl, x, t, sy, pr, od, lo, hi, k, rfl, ta5, tok.nd, hloS, hiS, _, rfl, ?_⟩
          cases hstr : t.strained lo hi k with
          | false =>
            refine iteF ⟨s5, fun i' hi' k' hlt hik => ?_, _, _, rfl⟩
            rcases Nat.lt_or_eq_of_le (Nat.le_of_lt_succ hlt) with h | h
            · exact hst i' hi' k' h hik
            · rw [h, hp] at hik; cases hik; exact hstr
          | true =>
            refine iteT ?_
            have hl5 : ∀ z u, z ≠ db → H3 z = some u → upd H4 T (.tup [ndV hi, .int k]) z = some u := fun z u hz e => s5 _ _ (by show upd H3 db _ z = _; rw [upd_ne hz]; exact e)
            have jv : Jv eT eH eP t.rl (fun u => pi u - pi lo) (b1 lo) (runP eT eH eP t.rl m ⟨b1 lo, fun _ => none, true⟩) := Jv.runP (fun r hr => by have := hadm r hr; show r.2.2.2 ≤ (pi r.2.2.1 - pi lo) - (pi r.2.1 - pi lo); omega) (Jv.start fun u y hu => by
              have hu' : (if u = lo then some 0 else none) = some y := hu
              by_cases h : u = lo
              · rw [if_pos h] at hu'; cases hu'; rw [h]; omega
              · rw [if_neg h] at hu'; cases hu') m
            refine ⟨_, rfl, y, dy2, _, rfl, hl5 _ _ nyb hy3, rfl, _, rfl, y, lo, _, t.ss, t.rl, _, hi, k, rfl, ⟨dy2, db, dl, kb, hl5 _ _ nyb hy3, .inr ⟨od', s5 _ _ hfd⟩, hvb, kl, hl5 _ _ nlb hkl, hvl, hwl⟩, jv, hk, fun r hr => ta5.sys.tup r hr, tok.len, tok.ends, hiT, fun q' H6 s6 => ⟨s6 _ _ (s5 _ _ hfd), q2 q' _ (unlk (s5.trans s6)) ⟨lo, hloT, hf, m, hi, k, hk, hstr⟩⟩⟩
        · obtain ⟨s4, hst, v3, v4, rfl⟩ := p
          refine ⟨s4 _ _ hfd, unlk s4, ?_, fun j lo' hj hlo' hf' => ?_, _, _, _, _, rfl⟩
          · have h3 := s23 _ _ hla2
            have hlb : la ≠ db := ne_of h3 hkb (fun z => nomatch z)
            rw [upd_ne hlb]
            exact s4 _ _ (by show upd H3 db _ la = _; rw [upd_ne hlb]; exact h3)
          · rcases Nat.lt_or_eq_of_le (Nat.le_of_lt_succ hj) with h | h
            · exact hg j lo' h hlo' hf'
            · rw [h, hn] at hlo'; cases hlo'
              refine ⟨m, fixm, fun hi k hk => ?_⟩
              have vk : valV kb hi = some (.int k) := by rw [hvb, hk]; rfl
              obtain ⟨i', hi'⟩ := List.mem_iff_getElem?.mp (valV_in vk)
              exact hst i' hi k (List.getElem?_eq_some_iff.mp hi').1 hi'
    · refine q1 H2 p.1 fun lo hlo hf => ?_
      obtain ⟨j, hj⟩ := List.mem_iff_getElem?.mp hlo
      have hjl := (List.getElem?_eq_some_iff.mp hj).1
      exact p.2.2.1 j lo (by rw [List.length_map]; exact hjl) hj hf
end
end Ws
end
section
/-! Line -/
namespace Ws
open PySem PySem.Spec PyProof.Rows L2
abbrev sLI : Stmt := mth 33 0
/-- a line, its fields told -/
def LineX (C : Addr) (H : Hp) (l : Addr) (d : Ln) : Prop := ∃ dx e, H l = some (.ins C dx [("ends", .ref e), ("most", oiV d.m), ("profit", .int d.p), ("amount", .int d.a)]) ∧ H e = some (.tup [ndV d.t, ndV d.h])
theorem LineX.same {C : Addr} {H H' : Hp} {l : Addr} {d : Ln} (h : LineX C H l d) (s : ∀ b u, H b = some u → H' b = some u) : LineX C H' l d := let ⟨dx, e, h1, h2⟩ := h; ⟨dx, e, s _ _ h1, s _ _ h2⟩
theorem LineX.at {C : Addr} {H : Hp} {l : Addr} {d : Ln} (h : LineX C H l d) : LineAt C H l d := let ⟨dx, e, h1, h2⟩ := h; ⟨dx, _, e, h1, rfl, h2, rfl, rfl, rfl, rfl⟩
def spLI (CL : Addr) : Sp := fun vs H Q _ => ∃ x dx t h m p, vs = [.ref x, ndV t, ndV h, oiV m, .int p] ∧ H x = some (.ins CL dx []) ∧ ∀ H', (∀ y u, y ≠ x → H y = some u → H' y = some u) → LineX CL H' x ⟨t, h, m, p, 0⟩ → Q .non H'
section
variable {P : Program} {w : World} {K : PySem.W.Frag} {mg : Str → Option Value} {base : Heap} {f CL : Addr} {fd : FuncData}
theorem sc_li : FnScope ["self", "tail", "head", "most", "profit"] ["self", "tail", "head", "most", "profit"] (defScope sLI) := ⟨rfl, rfl, rfl, by decide +kernel, rfl, by decide +kernel, by decide +kernel⟩
theorem ok_li (F : Fun K "__init__" "Line.__init__" sLI f fd) (c : LineCls K CL) : FnOk P w K mg base CX0 1 f fd ["self", "tail", "head", "most", "profit"] (spLI CL) := by
  refine F.ok sc_li (fun vs H Q E h => ?_) (fun cdv A outer s H vs Q E hr h => ?_)
  · obtain ⟨x, dx, t, h, m, p, rfl, _⟩ := h
    rfl
  · obtain ⟨x, dx, t, h, m, p, rfl, hx, q⟩ := h
    refine ⟨_, pss_cons (ps_fld (pv 0) (pe_tup (pa_cons (pv 1) (pa_cons (pv 2) pa_nil))) rfl) (pss_cons (ps_fld (pv 0) (pv 3) rfl) (pss_cons (ps_fld (pv 0) (pv 4) rfl) (pss_one (ps_fld (pv 0) pe_int rfl)))), ?_⟩
    refine ⟨_, rfl, _, rfl, by show 2 ≤ sizeLine; decide, fun e he => ?_⟩
    have nxe : x ≠ e := ne_of_none hx he
    refine ⟨_, rfl, x, CL, dx, _, rfl, by rw [upd_ne nxe]; exact hx, c.c, c.e, by show 0 < 1000; decide, ?_⟩
    refine ⟨_, rfl, _, rfl, x, CL, dx, _, rfl, upd_same, c.c, c.m, by show 1 < 1000; decide, ?_⟩
    refine ⟨_, rfl, _, rfl, x, CL, dx, _, rfl, upd_same, c.c, c.p, by show 2 < 1000; decide, ?_⟩
    refine ⟨_, rfl, x, CL, dx, _, rfl, upd_same, c.c, c.a, by show 3 < 1000; decide, ?_⟩
    refine q _ (fun y u hy e' => ?_) ⟨dx, e, upd_same, ?_⟩
    · rw [upd_ne hy, upd_ne hy, upd_ne hy, upd_ne hy, upd_ne (ne_of_none e' he)]; exact e'
    · rw [upd_ne (Ne.symm nxe), upd_ne (Ne.symm nxe), upd_ne (Ne.symm nxe), upd_ne (Ne.symm nxe), upd_same]
end
end Ws
end
section
/-! Flow.line_of -/
namespace Ws
open PySem PySem.Spec PyProof.Rows L2
abbrev sLineOf : Stmt := mth 34 1
/-- a thing as the flow sees it: firm things are the ground -/
def Tk.nt (t : Tk) (v : Nd) : Nd := if t.firm v = true then none else v
def Tk.line (t : Tk) (r : Rule) : Ln := ⟨t.nt r.1, t.nt r.2.1, none, t.at r.1 + r.2.2 - t.at r.2.1, 0⟩
structure FlowC (K : PySem.W.Frag) (CF : Addr) : Prop where
  c : Cls K CF
  t : NoAttr K CF "task"
  l : NoAttr K CF "lines"
  s : NoAttr K CF "spare"
def spLineOf (C : TAd) (CL CF : Addr) : Sp := fun vs H Q _ => ∃ fl r dx fs tk t sy pr od, vs = [.ref fl, .ref r.1] ∧ H fl = some (.ins CF dx fs) ∧ fs.lookup ("task" : Str) = some (.ref tk) ∧ TaskAt C H tk t sy pr od ∧ t.Ok ∧ H r.1 = some (.tup (ruleVs r.2)) ∧ r ∈ t.rl ∧
  ∀ l H', H l = none → Same H H' → LineX CL H' l (t.line r.2) → Q (.ref l) H'
section
variable {P : Program} {w : World} {K : PySem.W.Frag} {mg : Str → Option Value} {base : Heap} {f CL CF : Addr} {C : TAd} {fd : FuncData}
abbrev nLO : List Str := ["self", "rule", "ends", "thing"]
theorem sc_lo : FnScope nLO ["self", "rule"] (defScope sLineOf) := ⟨rfl, rfl, rfl, by decide +kernel, rfl, by decide +kernel, by decide +kernel⟩
theorem ok_lineOf (F : Fun K "line_of" "Flow.line_of" sLineOf f fd) (c : FlowC K CF) (ct : TaskC K C.CT) (c1 : Mth P w K mg base 2 C.CT "is_firm" (spFirm C)) (c2 : Mkr P w K mg base 1 "Line" CL (spLI CL)) (c3 : Cal P w K mg base 2 "short_by" spShort) : FnOk P w K mg base CX0 4 f fd ["self", "rule"] (spLineOf C CL CF) := by
  refine F.ok sc_lo (fun vs H Q E h => ?_) (fun cdv A outer s H vs Q E hr h => ?_)
  · obtain ⟨fl, r, dx, fs, tk, t, sy, pr, od, rfl, _⟩ := h
    rfl
  · obtain ⟨fl, r, dx, fs, tk, t, sy, pr, od, rfl, hfl, hft, ta, tok, hrt, hrl, q⟩ := h
    have nd := sc_lo.nd
    refine ⟨_, pss_cons (ps_setLc (i := 2) (own := [("thing", 3)]) (g := gName 3) (tt := tYes) (wi := iTup K (tSl (rSlT K) (tVar 1) tNoPart (tPart (tC (.int 2))))) (te := tIf (tB (tMeth C.CT "is_firm" (spFirm C) [] E0 (tFld K (tVar 0) "task") (tCons (tVar 3) tNil))) (tC .non) (tVar 3)) rfl nd rfl rfl (sw_true rfl rfl rfl (by decide +kernel))
        (by exact pi_tup (pe_slice sl_tup (pv 1) po_none (po_some pe_int))) (blkOk_by (own := [("thing", 3)]) (N := nLO) (sc := defScope sLineOf) (by decide +kernel))
        (fun _ _ _ _ _ => pg_name (i := 3) nd rfl (Or.inl rfl)) (fun _ _ _ _ _ => pts_nil) (fun _ _ _ _ _ => by exact pe_ifExp (pt_val (pe_m c1 hr (pe_fld (pv 0) rfl) (pa_cons (pv 3) pa_nil))) pe_non (pv 3)))
      (pss_one (ps_ret (pe_new (X := Cx.nox _) c2 hr (pa_cons (pe_ix ix_list (pv 2) pe_int (fun _ _ => rfl)) (pa_cons (pe_ix ix_list (pv 2) pe_int (fun _ _ => rfl)) (pa_cons pe_non (pa_cons (pe_f (X := Cx.nox _) c3 hr (pa_cons (pe_fld (pe_fld (pv 0) rfl) rfl) (pa_cons (pv 1) pa_nil))) pa_nil))))))), ?_⟩
    have hep := tok.ends r hrl
    have tp : SqT K H r.1 (ruleVs r.2) := SqT.of hrt
    refine ⟨_, rfl, _, rfl, r.1, _, rfl, tp, by intro z; have : (2 : Nat) = 3 := z.2; omega, fun e he => ⟨e, rfl, ⟨_, SqT.of upd_same⟩, ?_⟩⟩
    intro D hD
    have w2 : Walk (Itt K e) 2 (fun H => SqT K H e [ndV r.2.1, ndV r.2.2.1]) (YAt [ndV r.2.1, ndV r.2.2.1]) := walk_tup (K := K) (a := e) (xs := [ndV r.2.1, ndV r.2.2.1])
    refine lc_map w2 (fun i H v H' y => by rw [y.1]; exact Same.refl) (fun i => ndV (t.nt (if i = 0 then r.2.1 else r.2.2.1))) (by decide) hD (fun H' s' => SqT.of (s' _ _ upd_same)) (fun i v H1 H2 R hi s1 y k => ?_) fun H1 s1 hl => ?_
    · obtain ⟨rfl, hv⟩ := y
      have s2 : Same H H2 := (Same.new he).trans s1
      obtain ⟨dtk, tp2, htk, _⟩ := ta.ex
      have hv2 : v = ndV (if i = 0 then r.2.1 else r.2.2.1) := by
        match i, hi, hv with
        | 0, _, hv => cases hv; rfl
        | 1, _, hv => cases hv; rfl
      subst hv2
      refine ⟨rfl, _, rfl, fl, CF, dx, fs, _, rfl, s2 _ _ hfl, c.c, c.t, hft, tk, dtk, _, rfl, s2 _ _ htk, rfl, _, rfl, tk, t, sy, pr, od, _, rfl, (ta.same s2).p, _, rfl, ?_⟩
      have kk := k _ Same.refl
      unfold Tk.nt at kk
      cases hf : t.firm (if i = 0 then r.2.1 else r.2.2.1) with
      | true => rw [hf, if_pos rfl] at kk; exact iteT kk
      | false => rw [hf, if_neg Bool.false_ne_true] at kk; exact iteF ⟨_, rfl, kk⟩
    · have s2 : Same H H1 := (Same.new he).trans s1
      have hlv : H1 D = some (.lst [ndV (t.nt r.2.1), ndV (t.nt r.2.2.1)]) := hl
      have lD : SqL K H1 D [ndV (t.nt r.2.1), ndV (t.nt r.2.2.1)] := SqL.of hlv
      obtain ⟨dtk, tp2, htk, htp2⟩ := ta.ex
      refine ⟨_, rfl, D, _, _, _, rfl, rfl, lD, rfl, _, rfl, D, _, _, _, rfl, rfl, lD, rfl, ?_⟩
      refine ⟨_, rfl, fl, CF, dx, fs, _, rfl, s2 _ _ hfl, c.c, c.t, hft, tk, C.CT, dtk, _, _, rfl, s2 _ _ htk, ct.c, ct.o, rfl, _, rfl, od, _, r.2, r.1, t.at r.2.1 + r.2.2.2 - t.at r.2.2.1, rfl, (ta.same s2).num tok.nd, s2 _ _ hrt, ?_, ?_⟩
      · rw [shortF, Tk.numAt hep.1, Tk.numAt hep.2]; rfl
      · intro l dl hl1 hdl ndl
        refine ⟨l, dl, t.nt r.2.1, t.nt r.2.2.1, none, _, rfl, upd_same, fun H2 s3 la => ⟨rfl, q l H2 (by cases e : H l with | none => rfl | some u => rw [s2 _ _ e] at hl1; cases hl1) (fun z u e' => ?_) la⟩⟩
        have e2 := s2 _ _ e'
        exact s3 z u (ne_of_none e2 hl1) (by rw [upd_ne (ne_of_none e2 hl1), upd_ne (ne_of_none e2 hdl)]; exact e2)
end
end Ws
end
section
set_option autoImplicit false
/-! Where no chain between firm things asks for more than they have, there are numbers that keep the rules and the firm things. -/
namespace Ws
section
variable {N ε : Type} [DecidableEq N] {t h : ε → N} {p : ε → Int}
/-- what the firm things ask of v -/
def asks (V : List N) (firm : N → Bool) (at0 : N → Int) (B : N → N → Option Int) (v : N) : List Int := (V.filter firm).filterMap fun lo => (B lo v).map fun y => at0 lo + y
def most (V : List N) (firm : N → Bool) (at0 : N → Int) (B : N → N → Option Int) (v : N) : Int := (asks V firm at0 B v).max?.getD 0
theorem mem_asks {V : List N} {firm : N → Bool} {at0 : N → Int} {B : N → N → Option Int} {v : N} {x : Int} : x ∈ asks V firm at0 B v ↔ ∃ lo, lo ∈ V ∧ firm lo = true ∧ ∃ y, B lo v = some y ∧ at0 lo + y = x := by
  unfold asks
  rw [List.mem_filterMap]
  constructor
  · rintro ⟨lo, hl, e⟩
    obtain ⟨h1, h2⟩ := List.mem_filter.mp hl
    obtain ⟨y, hy, ey⟩ := Option.map_eq_some_iff.mp e
    exact ⟨lo, h1, h2, y, hy, ey⟩
  · rintro ⟨lo, h1, h2, y, hy, ey⟩
    exact ⟨lo, List.mem_filter.mpr ⟨h1, h2⟩, Option.map_eq_some_iff.mpr ⟨y, hy, ey⟩⟩
theorem most_ge {V : List N} {firm : N → Bool} {at0 : N → Int} {B : N → N → Option Int} {v : N} {x : Int} (hx : x ∈ asks V firm at0 B v) : x ≤ most V firm at0 B v := by
  unfold most
  cases e : (asks V firm at0 B v).max? with
  | none => rw [List.max?_eq_none_iff] at e; rw [e] at hx; cases hx
  | some m =>
    exact ((List.max?_eq_some_iff).mp e).2 x hx
theorem most_in {V : List N} {firm : N → Bool} {at0 : N → Int} {B : N → N → Option Int} {v : N} {x : Int} (hx : x ∈ asks V firm at0 B v) : most V firm at0 B v ∈ asks V firm at0 B v := by
  unfold most
  cases e : (asks V firm at0 B v).max? with
  | none => rw [List.max?_eq_none_iff] at e; rw [e] at hx; cases hx
  | some m => exact ((List.max?_eq_some_iff).mp e).1
theorem sol_of_fix {es : List ε} {V : List N} {firm : N → Bool} {at0 : N → Int} {B : N → N → Option Int}
    (hends : ∀ e ∈ es, t e ∈ V ∧ h e ∈ V)
    (hfix : ∀ lo, lo ∈ V → firm lo = true → Fix t h p es (B lo))
    (hself : ∀ lo, lo ∈ V → firm lo = true → B lo lo = some 0)
    (hstr : ∀ lo, lo ∈ V → firm lo = true → ∀ hi, hi ∈ V → firm hi = true → lo ≠ hi → ∀ k, B lo hi = some k → k ≤ at0 hi - at0 lo)
    (hreach : ∀ v, v ∈ V → ∃ lo, lo ∈ V ∧ firm lo = true ∧ ∃ y, B lo v = some y) :
    (∀ e ∈ es, p e ≤ most V firm at0 B (h e) - most V firm at0 B (t e)) ∧ ∀ v, v ∈ V → firm v = true → most V firm at0 B v = at0 v := by
  refine ⟨fun e he => ?_, fun v hv hf => ?_⟩
  · obtain ⟨h1, h2⟩ := hends e he
    obtain ⟨lo, l1, l2, y, l3⟩ := hreach _ h1
    obtain ⟨lo', m1, m2, y', m3, m4⟩ := mem_asks.mp (most_in (mem_asks.mpr ⟨lo, l1, l2, y, l3, rfl⟩))
    obtain ⟨z, z1, z2⟩ := hfix lo' m1 m2 e he y' m3
    have q := most_ge (mem_asks.mpr ⟨lo', m1, m2, z, z1, rfl⟩ : at0 lo' + z ∈ asks V firm at0 B (h e))
    have m4' : at0 lo' + y' = most V firm at0 B (t e) := m4
    have z2' : y' + p e ≤ z := z2
    omega
  · have h1 : at0 v + 0 ∈ asks V firm at0 B v := mem_asks.mpr ⟨v, hv, hf, 0, hself v hv hf, rfl⟩
    have h2 := most_ge h1
    obtain ⟨lo, m1, m2, y, m3, m4⟩ := mem_asks.mp (most_in h1)
    by_cases e : lo = v
    · subst e
      rw [hself lo m1 m2] at m3
      cases m3
      omega
    · have := hstr lo m1 m2 v hv hf e y m3
      omega
end
end Ws
end
section
/-! The flow's lines as a net. -/
namespace Ws
open PySem PySem.Spec PyProof.Rows L2
theorem sides_nodup {S : Type} [DecidableEq S] (G : Net S) (a : Nat → Int) : (G.sides a).Nodup := by
  unfold Net.sides
  unfold List.Nodup
  rw [List.pairwise_flatMap]
  refine ⟨fun i _ => ?_, ?_⟩
  · unfold Net.sidesAt
    split
    · exact List.Pairwise.filter _ (by simp)
    · exact List.Pairwise.nil
  · refine List.Pairwise.imp ?_ (List.nodup_range (n := G.n))
    intro i j hij x hx y hy e
    subst e
    have f : ∀ k, x ∈ G.sidesAt a k → x.1 = k := fun k hk => by
      unfold Net.sidesAt at hk
      split at hk
      · have := (List.mem_filter.mp hk).1
        simp at this
        rcases this with rfl | rfl <;> rfl
      · cases hk
    exact hij ((f i hx).symm.trans (f j hy))
theorem pairs_nodup {S : Type} [DecidableEq S] (G : Net S) (a : Nat → Int) : (G.pairs a).Nodup := List.Pairwise.filter _ (sides_nodup G a)
def lnOf (G : Net Str) (a : Nat → Int) (i : Nat) : Ln := ⟨G.t i, G.h i, G.m i, G.p i, a i⟩
def lnsOf (G : Net Str) (ad : Nat → Addr) (a : Nat → Int) : List (Addr × Ln) := (List.range G.n).map fun i => (ad i, lnOf G a i)
def sideV (G : Net Str) (a : Nat → Int) (e : Eg) : List V := [ndV (G.et e), ndV (G.eh e), .int (G.ep e), oiV (G.room a e), .int (sg e)]
theorem sides_one (G : Net Str) (ad : Nat → Addr) (a : Nat → Int) (i : Nat) : (if bare2 (lnOf G a i) = true then [] else (sidesL (lnOf G a i)).map fun y => (ad i, y)) = (G.sidesAt a i).map fun e => (ad e.1, sideV G a e) := by
  have hb : bare2 (lnOf G a i) = true ↔ ¬ G.out i := by
    unfold bare2 Net.out lnOf
    rw [Bool.and_eq_true, decide_eq_true_iff, decide_eq_true_iff, Decidable.not_not]
  unfold Net.sidesAt
  by_cases h : G.out i
  · rw [if_neg (fun z => (hb.mp z) h), if_pos h]
    have f1 : openF (lnOf G a i) = G.free a (i, true) := by
      unfold openF lnOf Net.free
      rw [if_pos rfl]
      all_goals (cases G.m i <;> rfl)
    have f2 : decide (0 < a i) = G.free a (i, false) := by
      unfold Net.free
      rw [if_neg (by exact Bool.false_ne_true)]
    have e1 : sideF (lnOf G a i) = sideV G a (i, true) := rfl
    have e2 : sideB (lnOf G a i) = sideV G a (i, false) := rfl
    unfold sidesL
    rw [f1, e1, e2]
    rw [show (if 0 < (lnOf G a i).a then [sideV G a (i, false)] else []) = if G.free a (i, false) = true then [sideV G a (i, false)] else [] by
      rw [← f2]
      by_cases q : 0 < a i
      · rw [if_pos (show 0 < (lnOf G a i).a from q), if_pos (decide_eq_true q)]
      · rw [if_neg (show ¬ 0 < (lnOf G a i).a from q), if_neg (fun z => q (of_decide_eq_true z))]]
    cases g1 : G.free a (i, true) <;> cases g2 : G.free a (i, false) <;> simp [List.filter_cons, g1, g2]
  · rw [if_pos (hb.mpr h), if_neg h]; rfl
theorem items_map (G : Net Str) (ad : Nat → Addr) (a : Nat → Int) : ∀ l : List Nat, itemsO (l.map fun i => (ad i, lnOf G a i)) = (l.flatMap (G.sidesAt a)).map fun e => (ad e.1, sideV G a e)
  | [] => rfl
  | i :: l => by
    rw [List.map_cons, List.flatMap_cons, List.map_append, ← items_map G ad a l, ← sides_one]
    rfl
theorem items_net (G : Net Str) (ad : Nat → Addr) (a : Nat → Int) : itemsO (lnsOf G ad a) = (G.sides a).map fun e => (ad e.1, sideV G a e) := items_map G ad a _
theorem keep_net (G : Net Str) (a : Nat → Int) (e : Eg) : keepS (sideV G a e) = G.good e := by
  unfold keepS sideV Net.good sg
  have q : inV .non [ndV (G.et e), ndV (G.eh e)] = (decide (G.et e = none) || decide (G.eh e = none)) := by
    cases G.et e <;> cases G.eh e <;> rfl
  simp only [q]
  obtain ⟨i, u⟩ := e
  cases u with
  | true => simp
  | false => simp
theorem pairs_net (G : Net Str) (ad : Nat → Addr) (a : Nat → Int) : (itemsO (lnsOf G ad a)).filter (fun x => keepS x.2) = (G.pairs a).map fun e => (ad e.1, sideV G a e) := by
  rw [items_net, List.filter_map]
  unfold Net.pairs
  congr 1
  refine List.filter_congr fun e _ => ?_
  exact keep_net G a e
/-- a pair and its side by its edge -/
def EdAt (H : Hp) (G : Net Str) (ad : Nat → Addr) (a : Nat → Int) (q sp : Eg → Addr) (e : Eg) : Prop := H (q e) = some (.tup [.ref (ad e.1), .ref (sp e)]) ∧ H (sp e) = some (.tup (sideV G a e))
theorem EdAt.same {H H' : Hp} {G : Net Str} {ad : Nat → Addr} {a : Nat → Int} {q sp : Eg → Addr} {e : Eg} (h : EdAt H G ad a q sp e) (s : Same H H') : EdAt H' G ad a q sp e := ⟨s _ _ h.1, s _ _ h.2⟩
theorem by_edges {H : Hp} {G : Net Str} {ad : Nat → Addr} {a : Nat → Int} : ∀ {es : List Eg} {rs : List PR}, es.Nodup → PairsAt H rs → rs.map (fun r => (r.l, r.sd)) = es.map (fun e => (ad e.1, sideV G a e)) →
    ∃ q sp : Eg → Addr, rs.map (fun r => V.ref r.q) = es.map (fun e => V.ref (q e)) ∧ ∀ e ∈ es, EdAt H G ad a q sp e
  | [], [], _, _, _ => ⟨fun _ => 0, fun _ => 0, rfl, fun _ h => nomatch h⟩
  | [], _ :: _, _, _, h => nomatch h
  | _ :: _, [], _, _, h => nomatch h
  | e :: es, r :: rs, nd, pa, h => by
    obtain ⟨nd1, nd2⟩ := List.nodup_cons.mp nd
    rw [List.map_cons, List.map_cons] at h
    obtain ⟨h1, h2⟩ := List.cons.inj h
    obtain ⟨q, sp, e1, e2⟩ := by_edges nd2 (fun r hr => pa r (List.mem_cons_of_mem _ hr)) h2
    refine ⟨fun x => if x = e then r.q else q x, fun x => if x = e then r.p else sp x, ?_, fun x hx => ?_⟩
    · rw [List.map_cons, List.map_cons, e1]
      congr 1
      · show V.ref r.q = V.ref (if e = e then r.q else q e)
        rw [if_pos rfl]
      · refine List.map_congr_left fun x hx => ?_
        show V.ref (q x) = V.ref (if x = e then r.q else q x)
        rw [if_neg (fun z : x = e => nd1 (z ▸ hx))]
    · obtain ⟨p1, p2⟩ := Prod.mk.inj h1
      by_cases z : x = e
      · subst z
        obtain ⟨t1, t2⟩ := pa r List.mem_cons_self
        refine ⟨?_, ?_⟩
        · show H (if x = x then r.q else q x) = some (.tup [.ref (ad x.1), .ref (if x = x then r.p else sp x)])
          rw [if_pos rfl, if_pos rfl, ← p1]; exact t1
        · show H (if x = x then r.p else sp x) = _
          rw [if_pos rfl, ← p2]; exact t2
      · have hx' : x ∈ es := by
          rcases List.mem_cons.mp hx with w | w
          · exact absurd w z
          · exact w
        obtain ⟨t1, t2⟩ := e2 x hx'
        refine ⟨?_, ?_⟩
        · show H (if x = e then r.q else q x) = some (.tup [.ref (ad x.1), .ref (if x = e then r.p else sp x)])
          rw [if_neg z, if_neg z]; exact t1
        · show H (if x = e then r.p else sp x) = _
          rw [if_neg z]; exact t2
/-! ### a flow -/
def lref (ad : Nat → Addr) (l : List Nat) : List V := l.map fun i => V.ref (ad i)
structure FlowAt (CL CF : Addr) (H : Hp) (fl tk : Addr) (nr : Nat) (G : Net Str) (ad : Nat → Addr) (a : Nat → Int) : Prop where
  ex : ∃ dx l1 l2, H fl = some (.ins CF dx [("task", .ref tk), ("lines", .ref l1), ("spare", .ref l2)]) ∧ H l1 = some (.lst (lref ad (List.range nr))) ∧ H l2 = some (.lst (lref ad (List.range' nr (G.n - nr))))
  le : nr ≤ G.n
  small : G.n ≤ 3000
  line : ∀ i, i < G.n → LineX CL H (ad i) (lnOf G a i)
  inj : ∀ i j, i < G.n → j < G.n → ad i = ad j → i = j
  ok : ∀ i, i < G.n → okN (G.t i) ∧ okN (G.h i)
theorem FlowAt.same {CL CF : Addr} {H H' : Hp} {fl tk : Addr} {nr : Nat} {G : Net Str} {ad : Nat → Addr} {a : Nat → Int} (f : FlowAt CL CF H fl tk nr G ad a) (s : Same H H') : FlowAt CL CF H' fl tk nr G ad a :=
  ⟨let ⟨dx, l1, l2, h1, h2, h3⟩ := f.ex; ⟨dx, l1, l2, s _ _ h1, s _ _ h2, s _ _ h3⟩, f.le, f.small, fun i hi => (f.line i hi).same s, f.inj, f.ok⟩
theorem range_cut {nr n : Nat} (h : nr ≤ n) : List.range n = List.range nr ++ List.range' nr (n - nr) := by
  rw [List.range_eq_range', List.range_eq_range']
  have := List.range'_append (s := 0) (m := nr) (n := n - nr) (step := 1)
  rw [Nat.one_mul, Nat.zero_add] at this
  rw [this]
  congr 1
  omega
theorem refs_map (G : Net Str) (ad : Nat → Addr) (a : Nat → Int) (l : List Nat) : refs (l.map fun i => (ad i, lnOf G a i)) = lref ad l := by
  unfold refs lref
  rw [List.map_map]
  rfl
theorem FlowAt.lines {CL CF : Addr} {H : Hp} {fl tk : Addr} {nr : Nat} {G : Net Str} {ad : Nat → Addr} {a : Nat → Int} (f : FlowAt CL CF H fl tk nr G ad a) : LinesAt CL CF H fl (lnsOf G ad a) := by
  obtain ⟨dx, l1, l2, h1, h2, h3⟩ := f.ex
  refine ⟨dx, _, l1, l2, (List.range nr).map fun i => (ad i, lnOf G a i), (List.range' nr (G.n - nr)).map fun i => (ad i, lnOf G a i), h1, rfl, rfl, by rw [refs_map]; exact h2, by rw [refs_map]; exact h3, ?_, ?_, rfl, fun x hx => ?_⟩
  · rw [← List.map_append, ← range_cut f.le]; rfl
  · rw [lnsOf, List.length_map, List.length_range, sizeLine_eq]; have := f.small; omega
  · obtain ⟨i, hi, rfl⟩ := List.mem_map.mp hx
    have hi' := List.mem_range.mp hi
    exact ⟨(f.line i hi').at, (f.ok i hi').1, (f.ok i hi').2⟩
theorem length_items (G : Net Str) (ad : Nat → Addr) (a : Nat → Int) : (itemsO (lnsOf G ad a)).length ≤ 2 * G.n := by
  rw [items_net, List.length_map]
  unfold Net.sides
  have : ∀ l : List Nat, (l.flatMap (G.sidesAt a)).length ≤ 2 * l.length := fun l => by
    induction l with
    | nil => exact Nat.le_refl _
    | cons i l ih =>
      rw [List.flatMap_cons, List.length_append, List.length_cons]
      have : (G.sidesAt a i).length ≤ 2 := by
        unfold Net.sidesAt
        split
        · exact Nat.le_trans (List.length_filter_le _ _) (Nat.le_refl 2)
        · exact Nat.zero_le _
      omega
  have := this (List.range G.n)
  rw [List.length_range] at this
  exact this
end Ws
end
section
/-! Flow.relax -/
namespace Ws
open PySem PySem.Spec PyProof.Rows L2
abbrev sRelax : Stmt := mth 34 4
/-- the totals but the ground's own -/
def nl (B : Nd → Option Int) : Nd → Option Int := fun v => if v = none then none else B v
theorem nl_some (B : Nd → Option Int) (z : Str) : nl B (some z) = B (some z) := if_neg (fun e => nomatch e)
theorem nl_put (B : Nd → Option Int) (z : Str) (y : Int) : nl (put B (some z) y) = put (nl B) (some z) y := by
  funext v
  unfold nl put
  show (if v = none then none else if v = some z then some y else B v) = if v = some z then some y else if v = none then none else B v
  by_cases h : v = none
  · rw [if_pos h, if_neg (fun e => by rw [h] at e; cases e), if_pos h]
  · rw [if_neg h, if_neg h]
/-- all but two dicts stand -/
def But2 (d1 d2 : Addr) (H H' : Hp) : Prop := ∀ y u, y ≠ d1 → y ≠ d2 → H y = some u → H' y = some u
abbrev passI (G : Net Str) (a : Nat → Int) (s : RS Nd Eg) : RS Nd Eg := pass G.et G.eh G.ep (G.inner a) (fresh s)
def spRelax (P : Program) (w : World) : Sp := fun vs H Q _ => ∃ fl lp db dl G ad a q sp s W, vs = [.ref fl, .ref lp, .ref db, .ref dl] ∧ H lp = some (.lst ((G.pairs a).map fun e => V.ref (q e))) ∧ (∀ e ∈ G.pairs a, EdAt H G ad a q sp e) ∧ db ≠ dl ∧
  BestV P w H db (nl s.b) W ∧ LastV q P w H dl s.l W ∧ s.b none = some 0 ∧ (∀ e ∈ G.pairs a, G.eh e ≠ none → G.eh e ∈ W) ∧ W.length ≤ 100 ∧
  ∀ H', But2 db dl H H' → BestV P w H' db (nl (passI G a s).b) W → LastV q P w H' dl (passI G a s).l W → (passI G a s).b none = some 0 → Q (.bl (passI G a s).imp) H'
section
variable {P : Program} {w : World} {K : PySem.W.Frag} {mg : Str → Option Value} {base : Heap} {f : Addr} {fd : FuncData}
abbrev nRx : List Str := ["self", "pairs", "best", "last", "improved", "pair", "tail", "head", "profit"]
theorem sc_relax : FnScope nRx ["self", "pairs", "best", "last"] (defScope sRelax) := ⟨rfl, rfl, rfl, by decide +kernel, rfl, by decide +kernel, by decide +kernel⟩
theorem ok_relax (F : Fun K "relax" "Flow.relax" sRelax f fd) : FnOk P w K mg base CX0 1 f fd ["self", "pairs", "best", "last"] (spRelax P w) := by
  refine F.ok sc_relax (fun vs H Q E h => ?_) (fun cdv A outer s H vs Q E hr h => ?_)
  · obtain ⟨fl, lp, db, dl, G, ad, a, q, sp, s, W, rfl, _⟩ := h
    rfl
  · obtain ⟨fl, lp, db, dl, G, ad, a, q, sp, S, W, rfl, hlp, hed, nbl, hb0, hl0, hs0, hW, hW1, fin⟩ := h
    have nd := sc_relax.nd
    refine ⟨_, (pss_cons (ps_set (i := 4) nd rfl (Or.inl rfl) pe_bl)
      (pss_cons (ps_for PassesOwn.never rfl (pi_list (pv 1)) (pg_name (i := 5) nd rfl (Or.inl rfl))
        (pss_cons (ps_asg (pe_slice sl_tup (pe_ix ix_tup (pv 5) pe_int (fun _ _ => rfl)) po_none (po_some pe_int)) (pg_tup (n := 3) rfl (pgs_cons (pg_name (i := 6) nd rfl (Or.inl rfl)) (pgs_cons (pg_name (i := 7) nd rfl (Or.inl rfl)) (pgs_cons (pg_name (i := 8) nd rfl (Or.inl rfl)) pgs_nil)))))
        (pss_cons (ps_if (PW.pt (pw_or (pt_cmp (pc_isN (pv 7))) (pw_or1 (PW.pt (pw_and (pt_cmp (pc_notN (pv 6))) (pw_and1 (pt_cmpR or_nnotin (pv 6) (pv 2) rfl))))))) (pss_one ps_continue) pss_nil)
        (pss_cons (ps_aug (i := 8) nd rfl (.inl rfl) (pe_ifExp (pt_cmp (pc_isN (pv 6))) pe_int (pe_nget (pv 2) (pv 6))) ip_add)
        (pss_one (ps_if (PW.pt (pw_or (pt_cmpR or_nnotin (pv 7) (pv 2) rfl) (pw_or1 (pt_cmp (pc_gt (pv 8) (pe_nget (pv 2) (pv 7))))))) (pss_cons (ps_nput (pv 2) (pv 7) (pv 8)) (pss_cons (ps_nput (pv 3) (pv 7) (pv 5)) (pss_one (ps_set (i := 4) nd rfl (Or.inl rfl) pe_bl)))) pss_nil))))))
      (pss_one (ps_ret (pv 4))))), ?_⟩
    let es := G.pairs a
    let T : Nat → RS Nd Eg := fun j => pass G.et G.eh G.ep ((es.take j).filter fun e => decide (G.eh e ≠ none)) (fresh S)
    let Iv : Nat → L2.St → Hp → Prop := fun j σ H2 => But2 db dl H H2 ∧ BestV P w H2 db (nl (T j).b) W ∧ LastV q P w H2 dl (T j).l W ∧ (T j).b none = some 0 ∧ ∃ v5 v6 v7 v8, σ = [some (.ref fl), some (.ref lp), some (.ref db), some (.ref dl), some (.bl (T j).imp), v5, v6, v7, v8]
    obtain ⟨kb0, hkb0, _⟩ := id hb0
    obtain ⟨kl0, hkl0, _⟩ := id hl0
    have nlb : lp ≠ db := ne_of hlp hkb0 (fun z => nomatch z)
    have nll : lp ≠ dl := ne_of hlp hkl0 (fun z => nomatch z)
    have sl : ∀ {H2}, But2 db dl H H2 → SqL K H2 lp (es.map fun e => V.ref (q e)) := fun b => SqL.of (b _ _ nlb nll hlp)
    refine ⟨_, rfl, lp, rfl, ⟨_, sl (fun _ _ _ _ e => e)⟩, for_it walk_list Iv ⟨fun _ _ _ _ e => e, hb0, hl0, hs0, _, _, _, _, rfl⟩ (fun _ _ _ _ p => sl p.1) (fun j v σ H2 H2' hj p y => ?_) (fun σ H2 p => ?_)⟩
    · obtain ⟨rfl, hv⟩ := y
      rw [List.getElem?_map] at hv
      obtain ⟨e, hn, rfl⟩ := Option.map_eq_some_iff.mp hv
      have hem : e ∈ G.pairs a := List.mem_of_getElem? hn
      obtain ⟨bt, ⟨kb, hkb, hvb, hwb⟩, ⟨kl, hkl, hvl, hwl⟩, hz0, w5, w6, w7, w8, rfl⟩ := p
      obtain ⟨e1, e2⟩ := hed e hem
      have ne : ∀ (z : Addr) (xs : List V), H z = some (.tup xs) → z ≠ db ∧ z ≠ dl := fun z xs hz => ⟨ne_of hz hkb0 (fun z => nomatch z), ne_of hz hkl0 (fun z => nomatch z)⟩
      have tq : SqT K H2' (q e) [.ref (ad e.1), .ref (sp e)] := SqT.of (bt _ _ (ne _ _ e1).1 (ne _ _ e1).2 e1)
      have ts : SqT K H2' (sp e) (sideV G a e) := SqT.of (bt _ _ (ne _ _ e2).1 (ne _ _ e2).2 e2)
      have hT1 : T (j + 1) = if G.eh e ≠ none then rx G.et G.eh G.ep (T j) e else T j := by
        show pass G.et G.eh G.ep ((es.take (j + 1)).filter _) (fresh S) = _
        rw [List.take_add_one, hn, Option.toList_some, List.filter_append]
        unfold pass
        rw [List.foldl_append]
        by_cases h : G.eh e ≠ none
        · rw [if_pos h, List.filter_cons_of_pos (by exact decide_eq_true h)]; rfl
        · rw [if_neg h, List.filter_cons_of_neg (by rw [decide_eq_false h]; exact Bool.false_ne_true)]; rfl
      refine ⟨_, rfl, _, _, _, _, rfl, rfl, tq, rfl, _, rfl, _, _, rfl, ts, by intro z; have : (3 : Nat) = 5 := z.2; omega, fun t ht => ?_⟩
      have ec : cutV (sideV G a e) none (some 3) = [ndV (G.et e), ndV (G.eh e), .int (G.ep e)] := rfl
      rw [ec]
      refine ⟨t, _, rfl, SqT.of upd_same, rfl, _, _, rfl, _, _, rfl, _, _, rfl, rfl, ?_⟩
      have ntb : db ≠ t := ne_of_none hkb ht
      have ntl : dl ≠ t := ne_of_none hkl ht
      have bt2 : But2 db dl H (upd H2' t (.tup [ndV (G.et e), ndV (G.eh e), .int (G.ep e)])) := fun y u h1 h2 e => by
        rw [upd_ne (ne_of_none (bt y u h1 h2 e) ht)]; exact bt y u h1 h2 e
      have hkb2 : upd H2' t (.tup [ndV (G.et e), ndV (G.eh e), .int (G.ep e)]) db = some (dN P w db kb) := (upd_ne ntb).trans hkb
      have hkl2 : upd H2' t (.tup [ndV (G.et e), ndV (G.eh e), .int (G.ep e)]) dl = some (dN P w dl kl) := (upd_ne ntl).trans hkl
      generalize upd H2' t (.tup [ndV (G.et e), ndV (G.eh e), .int (G.ep e)]) = H3 at bt2 hkb2 hkl2 ⊢
      have skip : T (j + 1) = T j → ∀ v5 v6 v7 v8, Iv (j + 1) [some (.ref fl), some (.ref lp), some (.ref db), some (.ref dl), some (.bl (T j).imp), v5, v6, v7, v8] H3 := fun e v5 v6 v7 v8 => by
        show _ ∧ BestV P w H3 db (nl (T (j + 1)).b) W ∧ LastV q P w H3 dl (T (j + 1)).l W ∧ (T (j + 1)).b none = some 0 ∧ _
        rw [e]
        exact ⟨bt2, ⟨kb, hkb2, hvb, hwb⟩, ⟨kl, hkl2, hvl, hwl⟩, hz0, _, _, _, _, rfl⟩
      cases hh : G.eh e with
      | none => exact ⟨_, rfl, _, rfl, iteT (iteT (skip (by rw [hT1, if_neg (fun z => z hh)]) _ _ _ _))⟩
      | some z =>
        refine ⟨_, rfl, _, rfl, iteF ?_⟩
        have hT2 : T (j + 1) = rx G.et G.eh G.ep (T j) e := by rw [hT1, if_pos (by rw [hh]; exact fun z => nomatch z)]
        have hzW : some z ∈ W := by have := hW e hem (by rw [hh]; exact fun z => nomatch z); rwa [hh] at this
        have hlb := hwb.len
        have hll := hwl.len
        have vz : valV kb (some z) = ((T j).b (some z)).map V.int := by rw [hvb, nl_some]
        have store : ∀ x v6 v8, (T j).b (G.et e) = some x → worth ((T j).b (some z)) (x + G.ep e) = true → Iv (j + 1) [some (.ref fl), some (.ref lp), some (.ref db), some (.ref dl), some (.bl true), some (.ref (q e)), v6, some (ndV (some z)), v8] (upd (upd H3 db (dN P w db (putK kb (some z) (.int (G.ep e + x))))) dl (dN P w dl (putK kl (some z) (.ref (q e))))) := fun x v6 v8 hx hw => by
          have eT : T (j + 1) = ⟨put (T j).b (some z) (x + G.ep e), put (T j).l (some z) e, true⟩ := by
            rw [hT2]
            unfold rx
            rw [hx]
            simp only
            rw [hh, if_pos hw]
          show _ ∧ BestV P w _ db (nl (T (j + 1)).b) W ∧ LastV q P w _ dl (T (j + 1)).l W ∧ (T (j + 1)).b none = some 0 ∧ _
          rw [eT, Int.add_comm (G.ep e) x]
          refine ⟨fun y u h1 h2 e => ?_, ?_, ?_, ?_, _, _, _, _, rfl⟩
          · rw [upd_ne h2, upd_ne h1]; exact bt2 y u h1 h2 e
          · obtain ⟨k8, q1, q2, q3⟩ := bestV_put (P := P) (w := w) (H := H3) (d := db) (B := nl (T j).b) (kvs := kb) (W := W) (k := some z) (y := x + G.ep e) hvb hwb hzW
            exact ⟨k8, (upd_ne nbl).trans q1, by rw [nl_put]; exact q2, q3⟩
          · exact lastV_put (q := q) (e := e) hvl hwl hzW
          · have pn : put (T j).b (some z) (x + G.ep e) none = (T j).b none := put_ne (by intro h; cases h)
            exact pn.trans hz0
        have stay : ∀ x, (T j).b (G.et e) = some x → worth ((T j).b (some z)) (x + G.ep e) = false → T (j + 1) = T j := fun x hx hw => by
          rw [hT2]
          unfold rx
          rw [hx]
          simp only
          rw [hh, hw]
          rfl
        have last : ∀ x v6, (T j).b (G.et e) = some x → tIfS (tOr (tTest (tOp (fun x y H Q => ∃ a kvs k, x = ndV k ∧ y = .ref a ∧ Rd H a (dN P w a kvs) ∧ Q (.bl (!(valV kvs k).isSome)) H) (tVar 7) (tVar 2))) (tB (tGt (tVar 8) (tNGet P w (tVar 2) (tVar 7)))))
            (tSeq (sNPut P w (tVar 2) (tVar 7) (tVar 8)) (tSeq (sNPut P w (tVar 3) (tVar 7) (tVar 5)) (tAsg (tC (.bl true)) (gName 4)))) tNext ⟨Iv (j + 1), fun _ _ => False, fun _ _ => False, Iv (j + 1)⟩ [some (.ref fl), some (.ref lp), some (.ref db), some (.ref dl), some (.bl (T j).imp), some (.ref (q e)), v6, some (ndV (some z)), some (.int (G.ep e + x))] H3 := fun x v6 hx => by
          refine ⟨_, rfl, _, rfl, db, kb, some z, rfl, rfl, Rd.of hkb2, _, rfl, ?_⟩
          rw [vz]
          have put2 : worth ((T j).b (some z)) (x + G.ep e) = true → tSeq (sNPut P w (tVar 2) (tVar 7) (tVar 8)) (tSeq (sNPut P w (tVar 3) (tVar 7) (tVar 5)) (tAsg (tC (.bl true)) (gName 4))) ⟨Iv (j + 1), fun _ _ => False, fun _ _ => False, Iv (j + 1)⟩ [some (.ref fl), some (.ref lp), some (.ref db), some (.ref dl), some (.bl (T j).imp), some (.ref (q e)), v6, some (ndV (some z)), some (.int (G.ep e + x))] H3 := fun hw => by
            refine ⟨_, rfl, _, rfl, _, rfl, db, kb, some z, rfl, rfl, hkb2, by rw [sizeLine_eq]; omega, ?_⟩
            refine ⟨_, rfl, _, rfl, _, rfl, dl, kl, some z, rfl, rfl, (upd_ne (Ne.symm nbl)).trans hkl2, by rw [sizeLine_eq]; omega, ?_⟩
            exact store x _ _ hx hw
          cases hbz : (T j).b (some z) with
          | none =>
            refine iteT (iteT (put2 ?_))
            rw [hbz]; rfl
          | some y =>
            refine iteF ⟨_, rfl, _, rfl, _, rfl, db, kb, some z, .int y, rfl, rfl, Rd.of hkb2, by rw [vz, hbz]; rfl, _, _, rfl, rfl, _, rfl, ?_⟩
            by_cases hlt : y < G.ep e + x
            · refine iteD hlt (put2 ?_)
              rw [hbz]; exact decide_eq_true (by omega)
            · refine iteDF hlt ?_
              exact skip (stay x hx (by rw [hbz]; exact decide_eq_false (by omega))) _ _ _ _
        cases ht6 : G.et e with
        | none =>
          refine ⟨_, rfl, _, rfl, iteF (iteF ?_)⟩
          refine ⟨_, rfl, _, rfl, _, rfl, iteT ⟨_, _, rfl, rfl, ?_⟩⟩
          exact last 0 _ (by rw [ht6]; exact hz0)
        | some u =>
          have vu : valV kb (some u) = ((T j).b (some u)).map V.int := by rw [hvb, nl_some]
          refine ⟨_, rfl, _, rfl, iteT ⟨_, rfl, _, rfl, db, kb, some u, rfl, rfl, Rd.of hkb2, _, rfl, ?_⟩⟩
          rw [vu]
          cases hbu : (T j).b (some u) with
          | none =>
            refine iteT (skip ?_ _ _ _ _)
            rw [hT2]
            unfold rx
            rw [ht6, hbu]
          | some x =>
            refine iteF ?_
            refine ⟨_, rfl, _, rfl, _, rfl, iteF ⟨_, rfl, _, rfl, db, kb, some u, .int x, rfl, rfl, Rd.of hkb2, by rw [vu, hbu]; rfl, ⟨_, _, rfl, rfl, ?_⟩⟩⟩
            exact last x _ (by rw [ht6]; exact hbu)
    · obtain ⟨bt, hb, hl, hz0, w5, w6, w7, w8, rfl⟩ := p
      have hT : T (es.map fun e => V.ref (q e)).length = passI G a S := by
        show pass G.et G.eh G.ep ((es.take (es.map fun e => V.ref (q e)).length).filter _) (fresh S) = _
        rw [List.length_map, List.take_length]
        rfl
      rw [hT] at hb hl hz0
      exact ⟨_, by rw [hT]; rfl, fin H2 bt hb hl hz0⟩
end
end Ws
end
section
/-! Flow.way_to, Flow.fill -/
namespace Ws
open PySem PySem.Spec PyProof.Rows L2
abbrev sWayTo : Stmt := mth 34 5
abbrev sFill : Stmt := mth 34 6
theorem Wk.back {S : Type} [DecidableEq S] {G : Net S} {e : Eg} : ∀ {c : List Eg} {u v : Option S}, Wk G u v (c ++ [e]) → G.eh e = v ∧ Wk G u (G.et e) c
  | [], u, v, h => ⟨h.2, h.1.symm⟩
  | f :: c, u, v, h => let ⟨h1, h2⟩ := Wk.back (c := c) h.2; ⟨h1, h.1, h2⟩
def spWayTo (P : Program) (w : World) : Sp := fun vs H Q _ => ∃ fl dl G ad a q sp l W f c, vs = [.ref fl, .ref (q f), .ref dl] ∧ (∀ e ∈ G.pairs a, EdAt H G ad a q sp e) ∧ LastV q P w H dl l W ∧ f ∈ G.pairs a ∧ (∀ e ∈ c, e ∈ G.pairs a ∧ G.eh e ≠ none) ∧ Ch G l (G.et f) c ∧ Wk G none (G.et f) c ∧ c.length ≤ 3000 ∧
  ∀ H' p, Same H H' → H' p = some (.lst ((c ++ [f]).map fun e => V.ref (q e))) → Q (.ref p) H'
def spFill (CL CF : Addr) : Sp := fun vs H Q _ => ∃ fl tk nr wl G ad a q sp wy, vs = [.ref fl, .ref wl] ∧ FlowAt CL CF H fl tk nr G ad a ∧ H wl = some (.lst (wy.map fun e => V.ref (q e))) ∧ (∀ e ∈ wy, EdAt H G ad a q sp e ∧ e.1 < G.n) ∧ (∃ e ∈ wy, ∃ r, G.room a e = some r) ∧ wy.length ≤ 6000 ∧
  ∀ m H', (∃ e ∈ wy, G.room a e = some m) → (∀ e ∈ wy, ∀ r, G.room a e = some r → m ≤ r) → FlowAt CL CF H' fl tk nr G ad (addW a m wy) → (∀ y u, (∀ i, i < G.n → y ≠ ad i) → H y = some u → H' y = some u) → Q .non H'
section
variable {P : Program} {w : World} {K : PySem.W.Frag} {mg : Str → Option Value} {base : Heap} {f CL CF : Addr} {fd : FuncData}
abbrev nWT : List Str := ["self", "final", "last", "found"]
theorem sc_wayTo : FnScope nWT ["self", "final", "last"] (defScope sWayTo) := ⟨rfl, rfl, rfl, by decide +kernel, rfl, by decide +kernel, by decide +kernel⟩
theorem ok_wayTo (F : Fun K "way_to" "Flow.way_to" sWayTo f fd) : FnOk P w K mg base CX0 1 f fd ["self", "final", "last"] (spWayTo P w) := by
  refine F.ok sc_wayTo (fun vs H Q E h => ?_) (fun cdv A outer s H vs Q E hr h => ?_)
  · obtain ⟨fl, dl, G, ad, a, q, sp, l, W, fe, c, rfl, _⟩ := h
    rfl
  · obtain ⟨fl, dl, G, ad, a, q, sp, l, W, fe, c, rfl, hed, ⟨kl, hkl, hvl, hwl⟩, hfe, hc, hch, hwk, hlen, fin⟩ := h
    have nd := sc_wayTo.nd
    refine ⟨_, (pss_cons (ps_set (i := 3) nd rfl (Or.inl rfl) (pe_lst (pa_cons (pv 1) pa_nil)))
      (pss_cons (ps_while PassesOwn.never (pt_cmp (pc_notN (pe_ix ix_tup (pe_ix ix_tup (pe_ix ix_list (pv 3) pe_int (fun _ _ => rfl)) pe_int (fun _ _ => rfl)) pe_int (fun _ _ => rfl))))
        (pss_one (ps_expr (pe_bm PySem.F.plainAttrs_list PySem.F.slot_list_insert PySem.F.type_list_insert mt_insert (pv 3) (pa_cons pe_int (pa_cons (pe_nget (pv 2) (pe_ix ix_tup (pe_ix ix_tup (pe_ix ix_list (pv 3) pe_int (fun _ _ => rfl)) pe_int (fun _ _ => rfl)) pe_int (fun _ _ => rfl))) pa_nil))))))
      (pss_one (ps_ret (pv 3))))), ?_⟩
    refine ⟨_, rfl, by rw [sizeLine_eq]; show 1 ≤ _; omega, fun fo hfo => ?_⟩
    have hfo0 : H fo = none := hfo
    let Wi : Nat → L2.St → Hp → Prop := fun m σ H' => ∃ c1 e0 r, c ++ [fe] = c1 ++ (e0 :: r) ∧ Ch G l (G.et e0) c1 ∧ Wk G none (G.et e0) c1 ∧ m = c1.length ∧ Same H H' ∧ H' fo = some (.lst ((e0 :: r).map fun e => V.ref (q e))) ∧ σ = [some (.ref fl), some (.ref (q fe)), some (.ref dl), some (.ref fo)]
    refine ⟨Wi, ⟨_, c, fe, [], rfl, hch, hwk, rfl, Same.new hfo, upd_same, rfl⟩, fun m σ H' hW => ?_⟩
    obtain ⟨c1, e0, r, hcc, h1, h2, rfl, sH, hl, rfl⟩ := hW
    have he0 : e0 ∈ G.pairs a := by
      have : e0 ∈ c ++ [fe] := by rw [hcc]; simp
      rcases List.mem_append.mp this with z | z
      · exact (hc e0 z).1
      · rw [List.mem_singleton.mp z]; exact hfe
    obtain ⟨e1, e2⟩ := hed e0 he0
    have sq : SqL K H' fo ((e0 :: r).map fun e => V.ref (q e)) := SqL.of hl
    have tq : SqT K H' (q e0) [.ref (ad e0.1), .ref (sp e0)] := SqT.of (sH _ _ e1)
    have ts : SqT K H' (sp e0) (sideV G a e0) := SqT.of (sH _ _ e2)
    have rd : ∀ R : V → Hp → Prop, R (ndV (G.et e0)) H' → tOp (rIxT K) (tOp (rIxT K) (tOp (rIxL K) (tVar 3) (tC (.int 0))) (tC (.int 1))) (tC (.int 0)) [some (.ref fl), some (.ref (q fe)), some (.ref dl), some (.ref fo)] H' R := fun R hR =>
      ⟨_, rfl, _, _, _, _, rfl, rfl, sq, atI_nat rfl, _, _, _, _, rfl, rfl, tq, rfl, _, _, _, _, rfl, rfl, ts, rfl, hR⟩
    refine rd _ ⟨_, rfl, ?_⟩
    cases het : G.et e0 with
    | none =>
      have hc1 : c1 = [] := by
        rcases List.eq_nil_or_concat c1 with z | ⟨c', e, z⟩
        · exact z
        · exfalso
          rw [List.concat_eq_append] at z
          have hm : e ∈ c := by
            have : e ∈ (c ++ [fe]).dropLast := by
              rw [hcc, z]
              rw [List.dropLast_append_of_ne_nil (by simp)]
              simp
            rwa [List.dropLast_concat] at this
          rw [z] at h2
          exact (hc e hm).2 (h2.back.1.trans het)
      refine iteF ⟨_, rfl, fin H' fo sH ?_⟩
      rw [hl, hcc, hc1]; rfl
    | some z =>
      refine iteT ?_
      rw [het] at h1 h2
      cases h1 with
      | nil => exact absurd (show (none : Option Str) = some z from h2) (fun z => nomatch z)
      | @snoc _ e c' hle hch' =>
        have h2' := h2.back.2
        have vl : valV kl (some z) = some (.ref (q e)) := by rw [hvl, hle]; rfl
        refine ⟨Wi c'.length, fun σ' H' hw => ⟨c'.length, by rw [List.length_append]; exact Nat.lt_succ_self _, hw⟩, ?_⟩
        refine ⟨_, rfl, .inl ⟨rfl, _, sq⟩, _, rfl, rd _ ?_⟩
        rw [het]
        refine ⟨dl, kl, some z, .ref (q e), rfl, rfl, Rd.of (sH _ _ hkl), vl, ?_⟩
        refine ⟨fo, _, 0, _, rfl, rfl, hl, ?_, Int.le_refl _, by decide, ?_⟩
        · have := congrArg List.length hcc
          rw [List.length_append, List.length_append] at this
          rw [List.length_map, sizeLine_eq]
          have h3 : [fe].length = 1 := rfl
          omega
        refine ⟨c', e, e0 :: r, ?_, hch', h2', rfl, sH.put hfo0, upd_same, rfl⟩
        rw [hcc, List.append_assoc]; rfl

theorem FlowAt.set {H : Hp} {fl tk : Addr} {nr : Nat} {G : Net Str} {ad : Nat → Addr} {a : Nat → Int} {i : Nat} {x : Int} {dx e : Addr} (F : FlowAt CL CF H fl tk nr G ad a) (hi : i < G.n) (h1 : H (ad i) = some (.ins CL dx [("ends", .ref e), ("most", oiV (G.m i)), ("profit", .int (G.p i)), ("amount", .int (a i))])) (h2 : H e = some (.tup [ndV (G.t i), ndV (G.h i)])) :
    FlowAt CL CF (upd H (ad i) (.ins CL dx [("ends", .ref e), ("most", oiV (G.m i)), ("profit", .int (G.p i)), ("amount", .int x)])) fl tk nr G ad (fun j => if j = i then x else a j) := by
  obtain ⟨⟨fx, l1, l2, f1, f2, f3⟩, fle, fsm, fline, finj, fok⟩ := F
  have nf : fl ≠ ad i := ne_of f1 h1 (fun z => by
    have := (HO.ins.inj z).2.2
    have := congrArg Prod.fst (List.cons.inj this).1
    exact absurd (show ("task" : Str) = "ends" from this) (by decide))
  refine ⟨⟨fx, l1, l2, (upd_ne nf).trans f1, (upd_ne (ne_of f2 h1 (fun z => nomatch z))).trans f2, (upd_ne (ne_of f3 h1 (fun z => nomatch z))).trans f3⟩, fle, fsm, fun j hj => ?_, finj, fok⟩
  by_cases hji : j = i
  · subst hji
    refine ⟨dx, e, ?_, (upd_ne (ne_of h2 h1 (fun z => nomatch z))).trans h2⟩
    rw [upd_same]
    unfold lnOf
    simp only [if_pos]
  · obtain ⟨dj, ej, j1, j2⟩ := fline j hj
    refine ⟨dj, ej, (upd_ne (fun z => hji (finj j i hj hi z))).trans ?_, (upd_ne (ne_of j2 h1 (fun z => nomatch z))).trans j2⟩
    rw [j1]
    unfold lnOf
    simp only [if_neg hji]
abbrev nFi : List Str := ["self", "way", "line", "side", "room"]
theorem sc_fill : FnScope nFi ["self", "way"] (defScope sFill) := ⟨rfl, rfl, rfl, by decide +kernel, rfl, by decide +kernel, by decide +kernel⟩
theorem ok_fill (F : Fun K "fill" "Flow.fill" sFill f fd) (g : Gm mg) (c : LineCls K CL) : FnOk P w K mg base CX0 1 f fd ["self", "way"] (spFill CL CF) := by
  refine F.ok sc_fill (fun vs H Q E h => ?_) (fun cdv A outer s H vs Q E hr h => ?_)
  · obtain ⟨fl, tk, nr, wl, G, ad, a, q, sp, wy, rfl, _⟩ := h
    rfl
  · obtain ⟨fl, tk, nr, wl, G, ad, a, q, sp, wy, rfl, hfl, hwl, hed, ⟨er, hem, r0, hr0⟩, hlen, fin⟩ := h
    have nd := sc_fill.nd
    refine ⟨_, (pss_cons (ps_set (i := 4) nd rfl (Or.inl rfl) (pe_callB (cr_min rfl) rfl g.min (by decide +kernel) (pa_cons (pe_lc (own := [("line", 2), ("side", 3)]) (g := gTup K 2 (gCons (gName 2) (gCons (gName 3) gNil))) (tt := tB (tNotN (tOp (rIxT K) (tVar 3) (tC (.int 3))))) (te := tOp (rIxT K) (tVar 3) (tC (.int 3))) rfl nd (pi_list (pv 1)) (blkOk_by (own := [("line", 2), ("side", 3)]) (N := nFi) (sc := defScope sFill) (by decide +kernel))
        (fun _ _ _ _ _ => by exact pg_tup (n := 2) rfl (pgs_cons (pg_name (i := 2) nd rfl (Or.inl rfl)) (pgs_cons (pg_name (i := 3) nd rfl (Or.inl rfl)) pgs_nil))) (fun _ _ _ _ _ => by exact pts_one (pt_cmp (pc_notN (pe_ix ix_tup (pv 3) pe_int (fun _ _ => rfl))))) (fun _ _ _ _ _ => by exact pe_ix ix_tup (pv 3) pe_int (fun _ _ => rfl))) pa_nil)))
      (pss_one (ps_for PassesOwn.never rfl (pi_list (pv 1)) (pg_tup (n := 2) rfl (pgs_cons (pg_name (i := 2) nd rfl (Or.inl rfl)) (pgs_cons (pg_name (i := 3) nd rfl (Or.inl rfl)) pgs_nil)))
        (pss_one (ps_fldaug (pv 2) (pe_op op_mul (pe_ix ix_tup (pv 3) pe_int (fun _ _ => rfl)) (pv 4)) in_add))))), ?_⟩
    have sl : ∀ {H1}, Same H H1 → SqL K H1 wl (wy.map fun e => V.ref (q e)) := fun s => SqL.of (s _ _ hwl)
    let rooms : Nat → List Int := fun i => (wy.take i).filterMap (G.room a)
    refine ⟨_, rfl, wl, rfl, ⟨_, sl Same.refl⟩, fun D hD => ?_⟩
    have hD0 : H D = none := hD
    refine walkP walk_list (fun i H1 => Same H H1 ∧ H1 D = some (.lst ((rooms i).map V.int))) ⟨Same.new hD, upd_same⟩ (fun i H1 _ p => sl p.1) (fun i x H1 H2 hi p y => ?_) (fun H1 p => ?_)
    · obtain ⟨rfl, hv⟩ := y
      rw [List.getElem?_map] at hv
      obtain ⟨e, hn, rfl⟩ := Option.map_eq_some_iff.mp hv
      obtain ⟨s1, hl1⟩ := p
      obtain ⟨⟨e1, e2⟩, _⟩ := hed e (List.mem_of_getElem? hn)
      have tq : SqT K H2 (q e) [.ref (ad e.1), .ref (sp e)] := SqT.of (s1 _ _ e1)
      have ts : SqT K H2 (sp e) (sideV G a e) := SqT.of (s1 _ _ e2)
      have hrs : rooms (i + 1) = rooms i ++ (match G.room a e with | none => [] | some r => [r]) := by
        show ((wy.take (i + 1)).filterMap (G.room a)) = _
        rw [List.take_add_one, hn, Option.toList_some, List.filterMap_append]
        congr 1
        cases hre : G.room a e <;> simp [hre]
      refine ⟨_, _, rfl, tq, rfl, _, _, rfl, _, _, rfl, rfl, rfl, ?_⟩
      refine ⟨_, rfl, _, _, _, _, rfl, rfl, ts, rfl, _, rfl, ?_⟩
      have hwi : i < wy.length := by rw [List.length_map] at hi; exact hi
      cases hre : G.room a e with
      | none =>
        refine iteF ⟨s1, ?_⟩
        rw [hrs, hre]; simpa using hl1
      | some r =>
        refine iteT ⟨_, rfl, _, _, _, _, rfl, rfl, ts, rfl, _, hl1, ?_, s1.put hD0, ?_⟩
        · rw [List.length_map, sizeLine_eq]
          have : (rooms i).length ≤ (wy.take i).length := List.length_filterMap_le _ _
          rw [List.length_take] at this
          omega
        · rw [upd_same, hrs, hre, List.map_append]; rfl
    · obtain ⟨s1, hl1⟩ := p
      have hall : rooms (wy.map fun e => V.ref (q e)).length = wy.filterMap (G.room a) := by
        show (wy.take _).filterMap _ = _
        rw [List.length_map, List.take_length]
      rw [hall] at hl1
      have hin : r0 ∈ wy.filterMap (G.room a) := List.mem_filterMap.mpr ⟨er, hem, hr0⟩
      refine ⟨D, _, rfl, SqL.of hl1, List.length_pos_of_mem hin, fun m hm hle => ?_⟩
      have F1 := hfl.same s1
      let Pv : Nat → L2.St → Hp → Prop := fun j σ H2 => FlowAt CL CF H2 fl tk nr G ad (addW a m (wy.take j)) ∧ (∀ y u, (∀ i, i < G.n → y ≠ ad i) → H1 y = some u → H2 y = some u) ∧ ∃ v2 v3, σ = [some (.ref fl), some (.ref wl), v2, v3, some (.int m)]
      have nw : ∀ (z : Addr) (u : HO), H1 z = some u → (∀ C dx fs, u ≠ .ins C dx fs) → ∀ i, i < G.n → z ≠ ad i := fun z u hz hu i hi => by
        obtain ⟨dx, e, j1, _⟩ := F1.line i hi
        exact ne_of hz j1 (hu _ _ _)
      have sl2 : ∀ {H2 : Hp}, (∀ y u, (∀ i, i < G.n → y ≠ ad i) → H1 y = some u → H2 y = some u) → SqL K H2 wl (wy.map fun e => V.ref (q e)) := fun k => SqL.of (k _ _ (nw _ _ (s1 _ _ hwl) (fun _ _ _ z => nomatch z)) (s1 _ _ hwl))
      refine ⟨_, rfl, wl, rfl, ⟨_, sl2 (fun _ _ _ e => e)⟩, for_it walk_list Pv ⟨F1, fun _ _ _ e => e, _, _, rfl⟩ (fun _ _ _ _ p => sl2 p.2.1) (fun j v σ H2 H2' hj p y => ?_) (fun σ H2 p => ?_)⟩
      · obtain ⟨rfl, hv⟩ := y
        rw [List.getElem?_map] at hv
        obtain ⟨e, hn, rfl⟩ := Option.map_eq_some_iff.mp hv
        obtain ⟨F2, k2, v2, v3, rfl⟩ := p
        obtain ⟨⟨e1, e2⟩, hen⟩ := hed e (List.mem_of_getElem? hn)
        have tq : SqT K H2' (q e) [.ref (ad e.1), .ref (sp e)] := SqT.of (k2 _ _ (nw _ _ (s1 _ _ e1) (fun _ _ _ z => nomatch z)) (s1 _ _ e1))
        have ts : SqT K H2' (sp e) (sideV G a e) := SqT.of (k2 _ _ (nw _ _ (s1 _ _ e2) (fun _ _ _ z => nomatch z)) (s1 _ _ e2))
        obtain ⟨dx, en, j1, j2⟩ := F2.line e.1 hen
        refine ⟨_, _, rfl, tq, rfl, _, _, rfl, _, _, rfl, rfl, ?_⟩
        refine ⟨_, rfl, ad e.1, CL, dx, _, _, rfl, j1, c.c, c.a, rfl, ?_⟩
        refine ⟨_, rfl, _, _, _, _, rfl, rfl, ts, rfl, _, rfl, _, _, rfl, rfl, ?_, ?_⟩
        · refine .inl ?_
          show -(2 ^ 64) < sg e ∧ sg e < 2 ^ 64
          unfold sg
          split <;> decide
        · refine ⟨_, _, rfl, rfl, dx, _, j1, by show 4 < 1000; decide, ?_⟩
          have hadd : addW a m (wy.take (j + 1)) = fun i => if i = e.1 then addW a m (wy.take j) e.1 + sg e * m else addW a m (wy.take j) i := by
            rw [List.take_add_one, hn, Option.toList_some]
            unfold addW
            rw [List.foldl_append]
            show add1 _ m e = _
            funext i
            unfold add1
            by_cases h : i = e.1
            · rw [if_pos h, if_pos h, h]
            · rw [if_neg h, if_neg h]
          refine ⟨?_, fun y u hy eu => ?_, _, _, rfl⟩
          · rw [hadd]
            exact F2.set hen j1 j2
          · rw [upd_ne (hy e.1 hen)]
            exact k2 y u hy eu
      · obtain ⟨F2, k2, v2, v3, rfl⟩ := p
        rw [List.length_map, List.take_length] at F2
        obtain ⟨e', he', hr'⟩ := List.mem_filterMap.mp hm
        refine fin m H2 ⟨e', he', hr'⟩ (fun e he r hr => hle r (List.mem_filterMap.mpr ⟨e, he, hr⟩)) F2 fun y u hy eu => k2 y u hy (s1 _ _ eu)
end
end Ws
end
section
/-! a, b, c = x, y, z with plain local names -/
namespace Ws
open PySem PySem.Spec PyProof.Rows L2
def tPar3 (i j k : Nat) (ta : TA) : TS := fun D σ H => ta σ H fun vs H1 => ∃ v w z, vs = [v, w, z] ∧ D.nx (((σ.set i (some v)).set j (some w)).set k (some z)) H1
theorem ps_par3 {X : Cx} {i j k : Nat} {x y z : Str} {a b c : Expr} {ta : TA} {px py pz pt pos : Pos} {kt k2 pt2} (hc : X.calm = true) (hN : X.N.Nodup) (hi : X.N[i]? = some x) (hj : X.N[j]? = some y) (hk : X.N[k]? = some z) (hij : i ≠ j) (hik : i ≠ k) (hjk : j ≠ k)
    (hx : X.env.scope.names.lookup x = some .local) (hy : X.env.scope.names.lookup y = some .local) (hz : X.env.scope.names.lookup z = some .local) (ha : PA X [a, b, c] ta)
    (hw : swappedStores [.Tuple [.Name x px, .Name y py, .Name z pz] kt pt] (.Tuple [a, b, c] k2 pt2) X.env = pure (some [x, y, z]))
    (hs : swapsWithSole [.Tuple [.Name x px, .Name y py, .Name z pz] kt pt] (.Tuple [a, b, c] k2 pt2) pos.line X.env = pure false := by rfl) :
    PS X (.Assign [.Tuple [.Name x px, .Name y py, .Name z pz] kt pt] (.Tuple [a, b, c] k2 pt2) pos) (tPar3 i j k ta) := by
  refine ⟨fun pins s σ H D I h => ?_⟩
  rw [exec_Assign_arm]
  refine wpAny_bind (wpAny_standAt ?_)
  rw [hs]
  refine wpAny_bind (wpAny_pure ?_)
  rw [if_neg (by decide)]
  refine wpAny_bind (Tuple_ (thn (ha.run _ pins s σ H _ I h) fun us s1 ⟨vs, H1, I1, r1, q1⟩ => ?_))
  obtain ⟨v, w, t, e1, q1⟩ := q1
  subst e1
  obtain ⟨u1, u2, u3, rfl, rv, rw', rt⟩ : ∃ u1 u2 u3, us = [u1, u2, u3] ∧ RelV v u1 ∧ RelV w u2 ∧ RelV t u3 := by
    cases r1 with
    | cons p q =>
      cases q with
      | cons p' q' =>
        cases q' with
        | cons p2 q2 =>
          cases q2
          exact ⟨_, _, _, rfl, p, p', p2⟩
  refine wpAny_newObj_type ?_ (by show 3 ≤ sizeLine; decide)
  have I2 : Inv X pins σ H1 { s1 with heap := s1.heap.push { cls := .type "tuple", data := .seq [u1, u2, u3].toArray } } := I1.kept (t' := s1.toks) fun b o e => Heap.get?_push_of_some _ e
  rw [hw]
  refine wpAny_bind (wpAny_pure ?_)
  show wpAny (model X.prog X.w) X.A (do rule "assign.swapped-stores"; let items ← unpackItems (.ref s1.heap.objs.size) 3 none; assignInOrder [fun v => bindName X.env z v, fun v => bindName X.env y v, fun v => bindName X.env x v] items.reverse; pure Flow.next) _ _ _
  refine wpAny_bind (wpAny_rule (wpAny_bind (unpackItems_tuple (items := #[u1, u2, u3]) (I.ok.hd hc) (IsTup.new s1.heap _) fun h' hx' => ?_)))
  have I3 := I2.kept (h' := h') (t' := s1.toks) fun b o e => hx' b o (Nat.ne_of_lt (Heap.lt_size e)) e
  show wpAny _ _ (assignInOrder [fun v => bindName X.env z v, fun v => bindName X.env y v, fun v => bindName X.env x v] [u3, u2, u1] >>= fun _ => pure Flow.next) _ _ _
  refine wpAny_bind (assignInOrder_cons (wpAny_bindName (store_ok I3 hN hk (.inl hz) rt (fun s2 I4 => ?_) (.inr hz))))
  refine assignInOrder_cons (wpAny_bindName (store_ok I4 hN hj (.inl hy) rw' (fun s3 I5 => ?_) (.inr hy)))
  refine assignInOrder_cons (wpAny_bindName (store_ok I5 hN hi (.inl hx) rv (fun s4 I6 => assignInOrder_nil (wpAny_pure ?_)) (.inr hx)))
  rw [List.set_comm _ _ (Ne.symm hij), List.set_comm _ _ (Ne.symm hik), List.set_comm _ _ (Ne.symm hjk)] at I6
  exact ⟨_, H1, I6, q1⟩
end Ws
end
section
/-! Flow.best_way -/
namespace Ws
open PySem PySem.Spec PyProof.Rows L2
abbrev sBestWay : Stmt := mth 34 3
def spBest (CL CF : Addr) : Sp := fun vs H Q _ => ∃ fl tk nr G ad a names, vs = [.ref fl] ∧ FlowAt CL CF H fl tk nr G ad a ∧ (∃ φ T, Pot G a φ T) ∧ NetOk G names ∧ names.length ≤ 50 ∧
  (∀ H', Same H H' → (∃ ψ, Pot G a ψ 0) → Q .non H') ∧
  (∀ H' wl wy q sp D ψ, Same H H' → H' wl = some (.lst (wy.map fun e => V.ref (q e))) → (∀ e ∈ wy, EdAt H' G ad a q sp e) → Way G a wy D ψ → Q (.ref wl) H')
/-- the best last pair so far -/
def Cand (G : Net Str) (b : Nd → Option Int) (es : List Eg) : Option Eg → Prop
  | none => ∀ e ∈ es, G.eh e = none → ∀ x, b (G.et e) = some x → x + G.ep e ≤ 0
  | some f => G.eh f = none ∧ ∃ x, b (G.et f) = some x ∧ 0 < x + G.ep f ∧ ∀ e ∈ es, G.eh e = none → ∀ y, b (G.et e) = some y → y + G.ep e ≤ x + G.ep f
def oTot (G : Net Str) (b : Nd → Option Int) : Option Eg → Int
  | none => 0
  | some f => ((b (G.et f)).getD 0) + G.ep f
def oRef (q : Eg → Addr) : Option Eg → V
  | none => .non
  | some e => .ref (q e)
theorem ends_in {G : Net Str} {a : Nat → Int} {names : List Str} (ok : NetOk G names) {e : Eg} (he : e.1 < G.n) : G.et e ∈ things names ∧ G.eh e ∈ things names := by
  obtain ⟨h1, h2⟩ := ok.ends e.1 he
  obtain ⟨i, u⟩ := e
  cases u with
  | true => exact ⟨mem_things h1, mem_things h2⟩
  | false => exact ⟨mem_things h2, mem_things h1⟩
section
variable {P : Program} {w : World} {K : PySem.W.Frag} {mg : Str → Option Value} {base : Heap} {f CL CF : Addr} {fd : FuncData}
abbrev nBW : List Str := ["self", "best", "last", "final", "pair", "pairs", "improved", "tail", "head", "profit"]
theorem sc_best : FnScope nBW ["self"] (defScope sBestWay) := ⟨rfl, rfl, rfl, by decide +kernel, rfl, by decide +kernel, by decide +kernel⟩
theorem ok_best (F : Fun K "best_way" "Flow.best_way" sBestWay f fd) (cc : SidesCls K CL CF) (c1 : Mth P w K mg base 1 CF "relax" (spRelax P w)) (c2 : Mth P w K mg base 1 CF "way_to" (spWayTo P w)) : FnOk P w K mg base CX0 7 f fd ["self"] (spBest CL CF) := by
  refine F.ok sc_best (fun vs H Q E h => ?_) (fun cdv A outer s H vs Q E hr h => ?_)
  · obtain ⟨fl, tk, nr, G, ad, a, names, rfl, _⟩ := h
    rfl
  · obtain ⟨fl, tk, nr, G, ad, a, names, rfl, hfl, ⟨φ, T, Pt⟩, ok, hnl, q1, q2⟩ := h
    have nd := sc_best.nd
    refine ⟨_, (pss_cons (ps_par3 (i := 1) (j := 2) (k := 3) rfl nd rfl rfl rfl (by decide) (by decide) (by decide) rfl rfl rfl (pa_cons pe_nnew (pa_cons pe_nnew (pa_cons pe_non pa_nil))) (by rfl))
      (pss_cons (ps_pairs (i := 0) (k := 5) cc (pv 0) hr nd rfl rfl (sw_true rfl rfl rfl (by decide +kernel)) (by decide +kernel) rfl (by decide +kernel) rfl)
      (pss_cons (ps_set (i := 6) nd rfl (Or.inl rfl) pe_bl)
      (pss_cons (ps_while PassesOwn.never (pt_val (pv 6)) (pss_one (ps_set (i := 6) nd rfl (Or.inl rfl) (pe_m (X := Cx.nox _) c1 hr (pv 0) (pa_cons (pv 5) (pa_cons (pv 1) (pa_cons (pv 2) pa_nil)))))))
      (pss_cons (ps_for PassesOwn.never rfl (pi_list (pv 5)) (pg_name (i := 4) nd rfl (Or.inl rfl))
        (pss_cons (ps_asg (pe_slice sl_tup (pe_ix ix_tup (pv 4) pe_int (fun _ _ => rfl)) po_none (po_some pe_int)) (pg_tup (n := 3) rfl (pgs_cons (pg_name (i := 7) nd rfl (Or.inl rfl)) (pgs_cons (pg_name (i := 8) nd rfl (Or.inl rfl)) (pgs_cons (pg_name (i := 9) nd rfl (Or.inl rfl)) pgs_nil)))))
        (pss_one (ps_if (PW.pt (pw_and (pt_cmp (pc_isN (pv 8))) (pw_and (pt_cmpR or_nin (pv 7) (pv 1) rfl) (pw_and1 (pt_cmp (pc_gt (pe_add (pe_nget (pv 1) (pv 7)) (pv 9)) pe_int))))))
          (pss_one (ps_if (PW.pt (pw_or (pt_cmp (pc_isN (pv 3))) (pw_or1 (pt_cmp (pc_gt (pe_add (pe_nget (pv 1) (pv 7)) (pv 9)) (pe_add (pe_nget (pv 1) (pe_ix ix_tup (pe_ix ix_tup (pv 3) pe_int (fun _ _ => rfl)) pe_int (fun _ _ => rfl))) (pe_ix ix_tup (pe_ix ix_tup (pv 3) pe_int (fun _ _ => rfl)) pe_int (fun _ _ => rfl)))))))) (pss_one (ps_set (i := 3) nd rfl (Or.inl rfl) (pv 4))) pss_nil)) pss_nil))))
      (pss_one (ps_ret (pe_ifExp (pt_cmp (pc_isN (pv 3))) pe_non (pe_m (X := Cx.nox _) c2 hr (pv 0) (pa_cons (pv 3) (pa_cons (pv 2) pa_nil))))))))))), ?_⟩
    intro db hdb dl hdl
    have nbl : db ≠ dl := fun e => by rw [← e, upd_same] at hdl; cases hdl
    have hdl0 : H dl = none := by rw [upd_ne (Ne.symm nbl)] at hdl; exact hdl
    refine ⟨_, _, _, rfl, ?_⟩
    have s3 : Same H (upd (upd H db (dN P w db [])) dl (dN P w dl [])) := (Same.new hdb).put hdl0
    have hl3 := (hfl.same s3).lines
    refine ⟨fl, lnsOf G ad a, rfl, hl3, ?_, fun H4 lp rs s4 hlp hlpn hpa hrs => ?_⟩
    · have := length_items G ad a
      have := hfl.small
      rw [sizeLine_eq]; omega
    rw [pairs_net] at hrs
    obtain ⟨q, sp, hq, hed⟩ := by_edges (pairs_nodup G a) hpa hrs
    rw [hq] at hlp
    have s04 := s3.trans s4
    have hdb4 : H4 db = some (dN P w db []) := s4 _ _ ((upd_ne nbl).trans upd_same)
    have hdl4 : H4 dl = some (dN P w dl []) := s4 _ _ upd_same
    -- the passes
    let S : Nat → RS Nd Eg := fun i => runP G.et G.eh G.ep (G.inner a) i ⟨src, fun _ => none, true⟩
    have hpi := pot_inner Pt
    have inT : ∀ e ∈ G.pairs a, G.et e ∈ things names ∧ G.eh e ∈ things names := fun e he => ends_in (a := a) ok (mem_pairs.mp he).1.1
    have hVl : (things names).length ≤ 51 := by rw [things, List.length_cons, List.length_map]; omega
    have fin0 : ∃ m, Ws.Fin G.et G.eh G.ep (G.inner a) m (S 0) := fin_ex (pi := tl φ) (b0 := src) hpi (V := things names) (fun e he => (inT e (List.mem_filter.mp he).1).2) _ _ _ rfl rfl (Jv.start src_le)
    obtain ⟨m0, hm0⟩ := fin0
    let Wi : Nat → L2.St → Hp → Prop := fun m σ H' => ∃ i, But2 db dl H4 H' ∧ BestV P w H' db (nl (S i).b) (things names) ∧ LastV q P w H' dl (S i).l (things names) ∧ (S i).b none = some 0 ∧ Ws.Fin G.et G.eh G.ep (G.inner a) m (S i) ∧ ∃ v4 v7 v8 v9, σ = [some (.ref fl), some (.ref db), some (.ref dl), some .non, v4, some (.ref lp), some (.bl (S i).imp), v7, v8, v9]
    have n4 : ∀ (z : Addr) (u : HO), H4 z = some u → (∀ φ, u ≠ .ext φ) → z ≠ db ∧ z ≠ dl := fun z u hz hu => ⟨ne_of hz hdb4 (hu _), ne_of hz hdl4 (hu _)⟩
    have lpOk : ∀ {H'}, But2 db dl H4 H' → H' lp = some (.lst ((G.pairs a).map fun e => V.ref (q e))) := fun b => b _ _ (n4 _ _ hlp (fun _ z => nomatch z)).1 (n4 _ _ hlp (fun _ z => nomatch z)).2 hlp
    have edOk : ∀ {H'}, But2 db dl H4 H' → ∀ e ∈ G.pairs a, EdAt H' G ad a q sp e := fun b e he => by
      obtain ⟨t1, t2⟩ := hed e he
      exact ⟨b _ _ (n4 _ _ t1 (fun _ z => nomatch z)).1 (n4 _ _ t1 (fun _ z => nomatch z)).2 t1, b _ _ (n4 _ _ t2 (fun _ z => nomatch z)).1 (n4 _ _ t2 (fun _ z => nomatch z)).2 t2⟩
    have sOk : ∀ {H'}, But2 db dl H4 H' → Same H H' := fun b y u e => b y u (ne_of_none e hdb) (ne_of_none e hdl0) (s04 y u e)
    obtain ⟨fx, l1, l2, f1, f2, f3⟩ := hfl.ex
    refine ⟨Wi, ⟨m0, 0, fun _ _ _ _ e => e, ⟨[], hdb4, fun k => ?_, List.nodup_nil, fun k hk => nomatch hk⟩, ⟨[], hdl4, fun k => rfl, List.nodup_nil, fun k hk => nomatch hk⟩, rfl, hm0, _, _, _, _, rfl⟩, fun m σ H' hW => ?_⟩
    · cases k with
      | none => rfl
      | some k => rfl
    obtain ⟨i, bt, hb, hl, hz0, hm, v4, v7, v8, v9, rfl⟩ := hW
    refine ⟨_, rfl, _, rfl, ?_⟩
    cases hi : (S i).imp with
    | true =>
      refine iteT ?_
      cases m with
      | zero => rw [show (S i).imp = false from hm] at hi; cases hi
      | succ m =>
        refine ⟨Wi m, fun σ' H' hw => ⟨m, Nat.lt_succ_self _, hw⟩, ?_⟩
        refine ⟨_, rfl, fl, fx, _, rfl, sOk bt _ _ f1, rfl, _, rfl, _, rfl, _, rfl, ?_⟩
        refine ⟨fl, lp, db, dl, G, ad, a, q, sp, S i, things names, rfl, lpOk bt, edOk bt, nbl, hb, hl, hz0, fun e he _ => (inT e he).2, by omega, fun H5 b5 hb5 hl5 hz5 => ?_⟩
        exact ⟨i + 1, fun y u h1 h2 e => b5 y u h1 h2 (bt y u h1 h2 e), hb5, hl5, hz5, hm.2, _, _, _, _, rfl⟩
    | false =>
      refine iteF ?_
      have hfix : Fix G.et G.eh G.ep (G.inner a) (S i).b := by
        cases i with
        | zero => cases hi
        | succ k =>
          have e : S (k + 1) = fresh (S k) := pass_still (G.inner a) (fresh (S k)) hi
          have e2 : Fix G.et G.eh G.ep (G.inner a) (fresh (S k)).b := fix_of_still hi
          rw [← e] at e2
          exact e2
      have hjv : Jv G.et G.eh G.ep (G.inner a) (tl φ) src (S i) := Jv.runP hpi (Jv.start src_le) i
      have fnd : Found G a (S i).b (S i).l := ⟨⟨φ, T, (S i).imp, Pt, hjv⟩, hfix⟩
      obtain ⟨kb, hkb, hvb, hwb⟩ := hb
      let Pv : Nat → L2.St → Hp → Prop := fun j σ H5 => Same H' H5 ∧ ∃ o : Option Eg, (∀ e, o = some e → e ∈ G.pairs a) ∧ Cand G (S i).b ((G.pairs a).take j) o ∧ ∃ v4 v6 v7 v8 v9, σ = [some (.ref fl), some (.ref db), some (.ref dl), some (oRef q o), v4, some (.ref lp), v6, v7, v8, v9]
      refine ⟨_, rfl, lp, rfl, ⟨_, SqL.of (lpOk bt)⟩, for_it walk_list Pv ⟨Same.refl, none, (by intro e z; cases z), (by intro e he; cases he), _, _, _, _, _, rfl⟩ (fun _ _ _ _ p => SqL.of (p.1 _ _ (lpOk bt))) (fun j v σ H5 H5' hj p y => ?_) (fun σ H5 p => ?_)⟩
      · obtain ⟨rfl, hv⟩ := y
        rw [List.getElem?_map] at hv
        obtain ⟨e, hn, rfl⟩ := Option.map_eq_some_iff.mp hv
        have hem : e ∈ G.pairs a := List.mem_of_getElem? hn
        obtain ⟨s5, o, ho, hcand, w4, w6, w7, w8, w9, rfl⟩ := p
        obtain ⟨e1, e2⟩ := edOk bt e hem
        have tq : SqT K H5' (q e) [.ref (ad e.1), .ref (sp e)] := SqT.of (s5 _ _ e1)
        have ts : SqT K H5' (sp e) (sideV G a e) := SqT.of (s5 _ _ e2)
        refine ⟨_, rfl, _, _, _, _, rfl, rfl, tq, rfl, _, rfl, _, _, rfl, ts, by intro z; have : (3 : Nat) = 5 := z.2; omega, fun t ht => ?_⟩
        have ec : cutV (sideV G a e) none (some 3) = [ndV (G.et e), ndV (G.eh e), .int (G.ep e)] := rfl
        rw [ec]
        refine ⟨t, _, rfl, SqT.of upd_same, rfl, _, _, rfl, _, _, rfl, _, _, rfl, rfl, ?_⟩
        have s6 : Same H' (upd H5' t (.tup [ndV (G.et e), ndV (G.eh e), .int (G.ep e)])) := s5.trans (Same.new ht)
        generalize upd H5' t (.tup [ndV (G.et e), ndV (G.eh e), .int (G.ep e)]) = H6 at s6 ⊢
        have htk : (G.pairs a).take (j + 1) = (G.pairs a).take j ++ [e] := by rw [List.take_add_one, hn]; rfl
        -- a pair that changes nothing
        have skip : (G.eh e = none → ∀ x, (S i).b (G.et e) = some x → x + G.ep e ≤ oTot G (S i).b o) → ∀ v4 v6 v7 v8 v9, Pv (j + 1) [some (.ref fl), some (.ref db), some (.ref dl), some (oRef q o), v4, some (.ref lp), v6, v7, v8, v9] H6 := fun hsk v4 v6 v7 v8 v9 => by
          refine ⟨s6, o, ho, ?_, _, _, _, _, _, rfl⟩
          rw [htk]
          cases o with
          | none =>
            intro e' he' h1 x hx
            rcases List.mem_append.mp he' with z | z
            · exact hcand e' z h1 x hx
            · rw [List.mem_singleton.mp z] at h1 hx ⊢
              exact hsk h1 x hx
          | some f =>
            obtain ⟨c1, x0, c2, c3, c4⟩ := hcand
            refine ⟨c1, x0, c2, c3, fun e' he' h1 x hx => ?_⟩
            rcases List.mem_append.mp he' with z | z
            · exact c4 e' z h1 x hx
            · rw [List.mem_singleton.mp z] at h1 hx ⊢
              have := hsk h1 x hx
              have this' : x + G.ep e ≤ ((S i).b (G.et f)).getD 0 + G.ep f := this
              rw [c2] at this'
              exact this'
        cases hh : G.eh e with
        | some z => exact ⟨_, rfl, _, rfl, iteF (iteF (skip (fun z' => by rw [hh] at z'; cases z') _ _ _ _ _))⟩
        | none =>
          refine ⟨_, rfl, _, rfl, iteT ?_⟩
          have hout : G.et e ≠ none := fun z => by
            have := (mem_pairs.mp hem).1.2.1
            refine this ?_
            obtain ⟨i, u⟩ := e
            cases u with
            | true => exact ⟨z, hh⟩
            | false => exact ⟨hh, z⟩
          obtain ⟨u, hu⟩ : ∃ u, G.et e = some u := by
            cases h : G.et e with
            | none => exact absurd h hout
            | some u => exact ⟨u, rfl⟩
          have vu : valV kb (some u) = ((S i).b (some u)).map V.int := by rw [hvb, nl_some]
          rw [hu]
          refine ⟨_, rfl, _, rfl, db, kb, some u, rfl, rfl, Rd.of (s6 _ _ hkb), _, rfl, ?_⟩
          rw [vu]
          cases hbu : (S i).b (some u) with
          | none => exact iteF (iteF (skip (fun _ x hx => by rw [hu, hbu] at hx; cases hx) _ _ _ _ _))
          | some x =>
            have vux : valV kb (some u) = some (.int x) := by rw [vu, hbu]; rfl
            refine iteT ⟨_, rfl, _, rfl, db, kb, some u, .int x, rfl, rfl, Rd.of (s6 _ _ hkb), vux, _, rfl, _, _, rfl, rfl, _, _, rfl, rfl, _, rfl, ?_⟩
            by_cases hpos : 0 < x + G.ep e
            · refine iteD hpos ?_
              have take : (∀ e' ∈ (G.pairs a).take j, G.eh e' = none → ∀ y, (S i).b (G.et e') = some y → y + G.ep e' ≤ x + G.ep e) → ∀ v4 v6 v7 v8 v9, Pv (j + 1) [some (.ref fl), some (.ref db), some (.ref dl), some (.ref (q e)), v4, some (.ref lp), v6, v7, v8, v9] H6 := fun hle v4 v6 v7 v8 v9 => by
                refine ⟨s6, some e, fun e' z => by cases z; exact hem, ⟨hh, x, by rw [hu]; exact hbu, hpos, fun e' he' h1 y hy => ?_⟩, _, _, _, _, _, rfl⟩
                rw [htk] at he'
                rcases List.mem_append.mp he' with z | z
                · exact hle e' z h1 y hy
                · rw [List.mem_singleton.mp z] at hy ⊢
                  rw [hu, hbu] at hy; cases hy
                  exact Int.le_refl _
              cases o with
              | none =>
                refine ⟨_, rfl, _, rfl, iteT (iteT ⟨_, rfl, take (fun e' he' h1 y hy => ?_) _ _ _ _ _⟩)⟩
                have := hcand e' he' h1 y hy
                omega
              | some f =>
                obtain ⟨c1, x0, c2, c3, c4⟩ := id hcand
                obtain ⟨g1, g2⟩ := edOk bt f (ho f rfl)
                have tqf : SqT K H6 (q f) [.ref (ad f.1), .ref (sp f)] := SqT.of (s6 _ _ g1)
                have tsf : SqT K H6 (sp f) (sideV G a f) := SqT.of (s6 _ _ g2)
                have hetf : G.et f ≠ none := fun z => by
                  have := (mem_pairs.mp (ho f rfl)).1.2.1
                  refine this ?_
                  obtain ⟨i, u⟩ := f
                  cases u with
                  | true => exact ⟨z, c1⟩
                  | false => exact ⟨c1, z⟩
                have vf : valV kb (G.et f) = some (.int x0) := by
                  rw [hvb]
                  unfold nl
                  rw [if_neg hetf, c2]; rfl
                refine ⟨_, rfl, _, rfl, iteF ⟨_, rfl, _, rfl, db, kb, some u, .int x, rfl, rfl, Rd.of (s6 _ _ hkb), vux, _, rfl, _, _, rfl, rfl, ?_⟩⟩
                refine ⟨_, rfl, _, rfl, _, _, _, _, rfl, rfl, tqf, rfl, _, _, _, _, rfl, rfl, tsf, rfl, db, kb, G.et f, .int x0, rfl, rfl, Rd.of (s6 _ _ hkb), vf, ?_⟩
                refine ⟨_, rfl, _, _, _, _, rfl, rfl, tqf, rfl, _, _, _, _, rfl, rfl, tsf, rfl, _, _, rfl, rfl, _, _, rfl, rfl, _, rfl, ?_⟩
                by_cases hgt : x0 + G.ep f < x + G.ep e
                · refine iteD hgt ⟨_, rfl, take (fun e' he' h1 y hy => ?_) _ _ _ _ _⟩
                  have := c4 e' he' h1 y hy
                  omega
                · refine iteDF hgt (skip (fun _ y hy => ?_) _ _ _ _ _)
                  rw [hu, hbu] at hy; cases hy
                  show x + G.ep e ≤ (((S i).b (G.et f)).getD 0) + G.ep f
                  rw [c2]
                  show x + G.ep e ≤ x0 + G.ep f
                  omega
            · refine iteDF hpos (skip (fun _ y hy => ?_) _ _ _ _ _)
              rw [hu, hbu] at hy; cases hy
              cases o with
              | none => show x + G.ep e ≤ 0; omega
              | some f =>
                obtain ⟨c1, x0, c2, c3, c4⟩ := id hcand
                show x + G.ep e ≤ (((S i).b (G.et f)).getD 0) + G.ep f
                rw [c2]
                show x + G.ep e ≤ x0 + G.ep f
                omega
      · obtain ⟨s5, o, ho, hcand, w4, w6, w7, w8, w9, rfl⟩ := p
        rw [List.length_map, List.take_length] at hcand
        cases o with
        | none => exact ⟨_, rfl, _, rfl, iteT (q1 H5 ((sOk bt).trans s5) (fnd.over hcand))⟩
        | some fe =>
          obtain ⟨c1, x0, c2, c3, c4⟩ := hcand
          have hfe := ho fe rfl
          obtain ⟨d, hd⟩ := hjv.dep _ _ c2
          obtain ⟨c, hc, hcl⟩ := ch_of_dp hd
          obtain ⟨t1, t2, t3⟩ := fnd.tree hc c2
          have hap := fnd.apart hc c2
          have hLs : Last G a (S i).b fe (x0 + G.ep fe) := ⟨hfe, c1, ⟨x0, c2, rfl⟩, c3, c4⟩
          obtain ⟨ψ, hway⟩ := fnd.way hLs hc
          have hcin : ∀ e ∈ c, e ∈ G.pairs a ∧ G.eh e ≠ none := fun e he => by
            have := (t2 e he).1
            exact ⟨(List.mem_filter.mp this).1, (mem_inner.mp this).2⟩
          have hlen : c.length ≤ 3000 := by
            have := nodup_le hap (V := List.range G.n) (fun v hv => by
              obtain ⟨e, he, rfl⟩ := List.mem_map.mp hv
              exact List.mem_range.mpr (mem_pairs.mp (hcin e he).1).1.1)
            rw [List.length_map, List.length_range] at this
            exact Nat.le_trans this hfl.small
          obtain ⟨kl, hkl, hvl, hwl⟩ := hl
          have s05 := (sOk bt).trans s5
          refine ⟨_, rfl, _, rfl, iteF ?_⟩
          refine ⟨_, rfl, fl, fx, _, rfl, s05 _ _ f1, rfl, _, rfl, _, rfl, ?_⟩
          refine ⟨fl, dl, G, ad, a, q, sp, (S i).l, things names, fe, c, rfl, fun e he => (edOk bt e he).same s5, ⟨kl, s5 _ _ hkl, hvl, hwl⟩, hfe, hcin, hc, t1, hlen, fun H7 p s7 hp => ?_⟩
          refine q2 H7 p (c ++ [fe]) q sp _ ψ (s05.trans s7) hp (fun e he => ?_) hway
          rcases List.mem_append.mp he with z | z
          · exact ((edOk bt e (hcin e z).1).same s5).same s7
          · rw [List.mem_singleton.mp z]; exact ((edOk bt fe hfe).same s5).same s7
end
end Ws
end
section
/-! Flow.amounts, Flow.total, Flow.figures -/
namespace Ws
open PySem PySem.Spec PyProof.Rows L2
abbrev sAmounts : Stmt := mth 34 7
abbrev sTotal : Stmt := mth 34 8
abbrev sFigs : Stmt := mth 34 9
def spAmounts (CL CF : Addr) : Sp := fun vs H Q _ => ∃ fl tk nr G ad a, vs = [.ref fl] ∧ FlowAt CL CF H fl tk nr G ad a ∧ ∀ H' p, Same H H' → H' p = some (.lst ((List.range nr).map fun i => V.int (a i))) → Q (.ref p) H'
def spTotal (CL CF : Addr) : Sp := fun vs H Q _ => ∃ fl tk nr G ad a, vs = [.ref fl] ∧ FlowAt CL CF H fl tk nr G ad a ∧ (∀ i, i < nr → -(2 ^ 64) < G.p i ∧ G.p i < 2 ^ 64) ∧ ∀ H', Same H H' → Q (.int (sumN nr fun i => a i * G.p i)) H'
theorem sum_range (n : Nat) (f : Nat → Int) : ((List.range n).map f).sum = sumN n f := by
  induction n with
  | zero => rfl
  | succ n ih => rw [List.range_succ, List.map_append, List.sum_append, ih]; show _ + (f n + 0) = sumN n f + f n; omega
/-- the totals behind k passes over all sides -/
def figB (G : Net Str) (a : Nat → Int) (k : Nat) : Nd → Option Int := (runP G.et G.eh G.ep (G.sides a) k ⟨src, fun _ => none, true⟩).b
def spFigs (C : TAd) (CL CF : Addr) : Sp := fun vs H Q _ => ∃ fl tk nr G ad a t sy pr od, vs = [.ref fl] ∧ FlowAt CL CF H fl tk nr G ad a ∧ TaskAt C H tk t sy pr od ∧ t.Ok ∧ NetOk G t.ss ∧
  ∀ H' p, H p = none → Same H H' → H' p = some (.dK (oldK t.ss fun n => t.old n + diff (figB G a (t.ss.length + 1)) n)) → Q (.ref p) H'
section
variable {P : Program} {w : World} {K : PySem.W.Frag} {mg : Str → Option Value} {base : Heap} {f CL CF : Addr} {C : TAd} {fd : FuncData}
theorem sc_amounts : FnScope ["self", "line"] ["self"] (defScope sAmounts) := ⟨rfl, rfl, rfl, by decide +kernel, rfl, by decide +kernel, by decide +kernel⟩
theorem ok_amounts (F : Fun K "amounts" "Flow.amounts" sAmounts f fd) (c : FlowC K CF) (cl : LineCls K CL) : FnOk P w K mg base CX0 1 f fd ["self"] (spAmounts CL CF) := by
  refine F.ok sc_amounts (fun vs H Q E h => ?_) (fun cdv A outer s H vs Q E hr h => ?_)
  · obtain ⟨fl, tk, nr, G, ad, a, rfl, _⟩ := h
    rfl
  · obtain ⟨fl, tk, nr, G, ad, a, rfl, hfl, fin⟩ := h
    have nd := sc_amounts.nd
    refine ⟨_, pss_one (ps_ret (pe_lc (own := [("line", 1)]) (g := gName 1) (tt := tYes) (te := tFld K (tVar 1) "amount") rfl nd (pi_list (pe_fld (pv 0) rfl)) (blkOk_by (own := [("line", 1)]) (N := ["self", "line"]) (sc := defScope sAmounts) (by decide +kernel))
      (fun _ _ _ _ _ => pg_name (i := 1) nd rfl (Or.inl rfl)) (fun _ _ _ _ _ => pts_nil) (fun _ _ _ _ _ => by exact pe_fld (pv 1) rfl))), ?_⟩
    obtain ⟨dx, l1, l2, f1, f2, f3⟩ := hfl.ex
    have sl : ∀ {H1}, Same H H1 → SqL K H1 l1 (lref ad (List.range nr)) := fun s => SqL.of (s _ _ f2)
    have hn : (lref ad (List.range nr)).length = nr := by rw [lref, List.length_map, List.length_range]
    refine ⟨_, rfl, fl, CF, dx, _, _, rfl, f1, c.c, c.l, rfl, l1, rfl, ⟨_, sl Same.refl⟩, fun D hD => lc_map walk_list (fun i H v H' y => by rw [y.1]; exact Same.refl) (fun i => .int (a i)) (by rw [hn, sizeLine_eq]; have := hfl.small; have := hfl.le; omega) hD (fun H' s' => sl s') (fun i v H1 H2 R hi s1 y k => ?_) fun H1 s1 hl => ?_⟩
    · obtain ⟨rfl, hv⟩ := y
      rw [lref, List.getElem?_map] at hv
      obtain ⟨j, hj, rfl⟩ := Option.map_eq_some_iff.mp hv
      obtain ⟨hji, ej⟩ := List.getElem?_eq_some_iff.mp hj
      rw [List.getElem_range] at ej
      subst ej
      rw [List.length_range] at hji
      obtain ⟨dl, e, j1, j2⟩ := hfl.line i (Nat.lt_of_lt_of_le hji hfl.le)
      exact ⟨rfl, _, rfl, _, CL, dl, _, _, rfl, s1 _ _ j1, cl.c, cl.a, rfl, k _ Same.refl⟩
    · rw [hn] at hl
      exact fin H1 D s1 hl
theorem sc_total : FnScope ["self", "line"] ["self"] (defScope sTotal) := ⟨rfl, rfl, rfl, by decide +kernel, rfl, by decide +kernel, by decide +kernel⟩
theorem ok_total (F : Fun K "total" "Flow.total" sTotal f fd) (g : Gm mg) (c : FlowC K CF) (cl : LineCls K CL) : FnOk P w K mg base CX0 1 f fd ["self"] (spTotal CL CF) := by
  refine F.ok sc_total (fun vs H Q E h => ?_) (fun cdv A outer s H vs Q E hr h => ?_)
  · obtain ⟨fl, tk, nr, G, ad, a, rfl, _⟩ := h
    rfl
  · obtain ⟨fl, tk, nr, G, ad, a, rfl, hfl, hp, fin⟩ := h
    have nd := sc_total.nd
    refine ⟨_, pss_one (ps_ret (pe_callB (cr_sum rfl) rfl g.sum (by decide +kernel) (pa_cons (pe_lc (own := [("line", 1)]) (g := gName 1) (tt := tYes) (te := tOp (rI CMul fun i j => .int (i * j)) (tFld K (tVar 1) "amount") (tFld K (tVar 1) "profit")) rfl nd (pi_list (pe_fld (pv 0) rfl)) (blkOk_by (own := [("line", 1)]) (N := ["self", "line"]) (sc := defScope sTotal) (by decide +kernel))
      (fun _ _ _ _ _ => pg_name (i := 1) nd rfl (Or.inl rfl)) (fun _ _ _ _ _ => pts_nil) (fun _ _ _ _ _ => by exact pe_op op_mul (pe_fld (pv 1) rfl) (pe_fld (pv 1) rfl))) pa_nil))), ?_⟩
    obtain ⟨dx, l1, l2, f1, f2, f3⟩ := hfl.ex
    have sl : ∀ {H1}, Same H H1 → SqL K H1 l1 (lref ad (List.range nr)) := fun s => SqL.of (s _ _ f2)
    have hn : (lref ad (List.range nr)).length = nr := by rw [lref, List.length_map, List.length_range]
    refine ⟨_, rfl, fl, CF, dx, _, _, rfl, f1, c.c, c.l, rfl, l1, rfl, ⟨_, sl Same.refl⟩, fun D hD => lc_map walk_list (fun i H v H' y => by rw [y.1]; exact Same.refl) (fun i => .int (a i * G.p i)) (by rw [hn, sizeLine_eq]; have := hfl.small; have := hfl.le; omega) hD (fun H' s' => sl s') (fun i v H1 H2 R hi s1 y k => ?_) fun H1 s1 hl => ?_⟩
    · obtain ⟨rfl, hv⟩ := y
      rw [lref, List.getElem?_map] at hv
      obtain ⟨j, hj, rfl⟩ := Option.map_eq_some_iff.mp hv
      obtain ⟨hji, ej⟩ := List.getElem?_eq_some_iff.mp hj
      rw [List.getElem_range] at ej
      subst ej
      rw [List.length_range] at hji
      obtain ⟨dl, e, j1, j2⟩ := hfl.line i (Nat.lt_of_lt_of_le hji hfl.le)
      exact ⟨rfl, _, rfl, _, CL, dl, _, _, rfl, s1 _ _ j1, cl.c, cl.a, rfl, _, rfl, _, CL, dl, _, _, rfl, s1 _ _ j1, cl.c, cl.p, rfl, _, _, rfl, rfl, .inr (hp i hji), k _ Same.refl⟩
    · rw [hn] at hl
      refine ⟨D, (List.range nr).map fun i => a i * G.p i, rfl, SqL.of (by rw [hl, List.map_map]; rfl), ?_⟩
      rw [sum_range]
      exact fin H1 s1
abbrev nFg : List Str := ["self", "best", "pairs", "turn", "line", "side", "name", "old"]
theorem sc_figs : FnScope nFg ["self"] (defScope sFigs) := ⟨rfl, rfl, rfl, by decide +kernel, rfl, by decide +kernel, by decide +kernel⟩
theorem ok_figs (F : Fun K "figures" "Flow.figures" sFigs f fd) (g : Gm mg) (c : FlowC K CF) (ct : TaskC K C.CT) (cc : SidesCls K CL CF) : FnOk P w K mg base CX0 10 f fd ["self"] (spFigs C CL CF) := by
  refine F.ok sc_figs (fun vs H Q E h => ?_) (fun cdv A outer s H vs Q E hr h => ?_)
  · obtain ⟨fl, tk, nr, G, ad, a, t, sy, pr, od, rfl, _⟩ := h
    rfl
  · obtain ⟨fl, tk, nr, G, ad, a, t, sy, pr, od, rfl, hfl, hta, tok, nok, fin⟩ := h
    have nd := sc_figs.nd
    refine ⟨_, (pss_cons (ps_set (i := 1) nd rfl (Or.inr rfl) (pe_none1 pe_non pe_int))
      (pss_cons (ps_set (i := 2) nd rfl (Or.inl rfl) (pe_listSides (i := 0) cc (pv 0) hr rfl g.list boot_list))
      (pss_cons (ps_for PassesOwn.never rfl (pi_range1 rfl g.range (pa_cons (pe_add (pe_callB call_lenD rfl g.len boot_len (pa_cons (pe_fld (pe_fld (pv 0) rfl) rfl) pa_nil)) pe_int) pa_nil)) (pg_name (i := 3) nd rfl (Or.inl rfl))
        (pss_one (ps_for PassesOwn.never rfl (pi_list (pv 2)) (pg_tup (n := 2) rfl (pgs_cons (pg_name (i := 4) nd rfl (Or.inl rfl)) (pgs_cons (pg_name (i := 5) nd rfl (Or.inl rfl)) pgs_nil)))
          (pss_one (ps_if (PW.pt (pw_and (pt_cmpR or_nin (pe_ix ix_tup (pv 5) pe_int (fun _ _ => rfl)) (pv 1) rfl) (pw_and1 (PW.pt (pw_or (pt_cmpR or_nnotin (pe_ix ix_tup (pv 5) pe_int (fun _ _ => rfl)) (pv 1) rfl) (pw_or1 (pt_cmp (pc_gt (pe_add (pe_nget (pv 1) (pe_ix ix_tup (pv 5) pe_int (fun _ _ => rfl))) (pe_ix ix_tup (pv 5) pe_int (fun _ _ => rfl))) (pe_nget (pv 1) (pe_ix ix_tup (pv 5) pe_int (fun _ _ => rfl)))))))))))
            (pss_one (ps_nput (pv 1) (pe_ix ix_tup (pv 5) pe_int (fun _ _ => rfl)) (pe_add (pe_nget (pv 1) (pe_ix ix_tup (pv 5) pe_int (fun _ _ => rfl))) (pe_ix ix_tup (pv 5) pe_int (fun _ _ => rfl))))) pss_nil)))))
      (pss_one (ps_ret (pe_lock (pe_dc (own := [("name", 6), ("old", 7)]) (g := gTup K 2 (gCons (gName 6) (gCons (gName 7) gNil))) (tt := tYes) (tk := tVar 6) (tv := tAdd (tVar 7) (tNGet2 P w (tVar 1) (tVar 6) (tC (.int 0)))) rfl nd (pi_items (pe_fld (pe_fld (pv 0) rfl) rfl)) (blkOk_by (own := [("name", 6), ("old", 7)]) (N := nFg) (sc := defScope sFigs) (by decide +kernel))
        (fun _ _ _ _ _ => by exact pg_tup (n := 2) rfl (pgs_cons (pg_name (i := 6) nd rfl (Or.inl rfl)) (pgs_cons (pg_name (i := 7) nd rfl (Or.inl rfl)) pgs_nil))) (fun _ _ _ _ _ => pts_nil) (fun _ _ _ _ _ => pv 6) (fun _ _ _ _ _ => by exact pe_add (pv 7) (pe_nget2 (pv 1) (pv 6) pe_int ⟨rfl, rfl, rfl, rfl⟩))))))))), ?_⟩
    obtain ⟨fx, l1, l2, f1, f2, f3⟩ := hfl.ex
    obtain ⟨dtk, tp, htk, _⟩ := hta.ex
    have hod := hta.old
    have hlen := tok.len
    intro db hdb
    refine ⟨upd_same, none, .int 0, rfl, ?_⟩
    have hbs : upd (upd H db (dN P w db [])) db (dN P w db [(none, .int 0)]) db = some (dN P w db [(none, .int 0)]) := upd_same
    have s1 : Same H (upd (upd H db (dN P w db [])) db (dN P w db [(none, .int 0)])) := (Same.new hdb).put hdb
    refine ⟨fl, lnsOf G ad a, rfl, (hfl.same s1).lines, ?_, fun H4 lp rs s4 hlp hlpn hpa hrs => ?_⟩
    · have := length_items G ad a
      have := hfl.small
      rw [sizeLine_eq]; omega
    rw [List.filter_eq_self.mpr (fun _ _ => rfl), items_net] at hrs
    obtain ⟨q, sp, hq, hed⟩ := by_edges (sides_nodup G a) hpa hrs
    rw [hq] at hlp
    have s04 := s1.trans s4
    have hdb4 : H4 db = some (dN P w db [(none, .int 0)]) := s4 _ _ hbs
    let es := G.sides a
    let S : Nat → RS Nd Eg := fun i => runP G.et G.eh G.ep es i ⟨src, fun _ => none, true⟩
    let B1 : Hp → Hp → Prop := fun H H' => ∀ y u, y ≠ db → H y = some u → H' y = some u
    have n4 : ∀ (z : Addr) (u : HO), H4 z = some u → (∀ φ, u ≠ .ext φ) → z ≠ db := fun z u hz hu => ne_of hz hdb4 (hu _)
    have sOk : ∀ {H'}, B1 H4 H' → Same H H' := fun b y u e => b y u (ne_of_none e hdb) (s04 y u e)
    have lpOk : ∀ {H'}, B1 H4 H' → SqL K H' lp (es.map fun e => V.ref (q e)) := fun b => SqL.of (b _ _ (n4 _ _ hlp (fun _ z => nomatch z)) hlp)
    have edOk : ∀ {H'}, B1 H4 H' → ∀ e ∈ es, EdAt H' G ad a q sp e := fun b e he => by
      obtain ⟨t1, t2⟩ := hed e he
      exact ⟨b _ _ (n4 _ _ t1 (fun _ z => nomatch z)) t1, b _ _ (n4 _ _ t2 (fun _ z => nomatch z)) t2⟩
    have hVl : (things t.ss).length = t.ss.length + 1 := by rw [things, List.length_cons, List.length_map]
    have inT : ∀ e ∈ es, G.et e ∈ things t.ss ∧ G.eh e ∈ things t.ss := fun e he => ends_in (a := a) nok (mem_sides.mp he).1
    have hlk : (oldK t.ss t.old).length = t.ss.length := List.length_map ..
    let Pv : Nat → L2.St → Hp → Prop := fun i σ H' => B1 H4 H' ∧ BestV P w H' db (S i).b (things t.ss) ∧ ∃ v3 v4 v5 v6 v7, σ = [some (.ref fl), some (.ref db), some (.ref lp), v3, v4, v5, v6, v7]
    refine ⟨_, rfl, fl, CF, fx, _, _, rfl, s04 _ _ f1, c.c, c.t, rfl, tk, C.CT, dtk, _, _, rfl, s04 _ _ htk, ct.c, ct.o, rfl, od, _, rfl, s04 _ _ hod, _, _, rfl, rfl, _, rfl, by omega, by rw [hlk]; omega, ?_⟩
    rw [hlk]
    have hcast : (((t.ss.length : Nat) : Int) + 1).toNat = t.ss.length + 1 := by omega
    rw [hcast]
    refine for_it walk_range Pv ⟨fun _ _ _ e => e, ⟨_, hdb4, fun k => ?_, by simp, fun k hk => ?_⟩, _, _, _, _, _, rfl⟩ (fun _ _ _ _ _ => trivial) (fun i v σ H5 H5' hi p y => ?_) (fun σ H5 p => ?_)
    · refine (valV_zero (ks := [none]) (k := k) (by simp)).trans ?_
      show _ = (src k).map V.int
      unfold src
      by_cases h : k = none
      · rw [if_pos h, if_pos (List.mem_singleton.mpr h)]
      · rw [if_neg h, if_neg fun z => h (List.mem_singleton.mp z)]
    · rw [List.mem_singleton.mp hk]; exact List.mem_cons_self
    · obtain ⟨rfl, rfl⟩ := y
      obtain ⟨b1, hb1, v3, v4, v5, v6, v7, rfl⟩ := p
      let T : Nat → RS Nd Eg := fun j => pass G.et G.eh G.ep (es.take j) (fresh (S i))
      let Iv : Nat → L2.St → Hp → Prop := fun j σ H6 => B1 H4 H6 ∧ BestV P w H6 db (T j).b (things t.ss) ∧ ∃ v3 v4 v5 v6 v7, σ = [some (.ref fl), some (.ref db), some (.ref lp), v3, v4, v5, v6, v7]
      refine ⟨_, rfl, lp, rfl, ⟨_, lpOk b1⟩, for_it walk_list Iv ⟨b1, hb1, _, _, _, _, _, rfl⟩ (fun _ _ _ _ p => lpOk p.1) (fun j v σ H6 H6' hj p y => ?_) (fun σ H6 p => ?_)⟩
      · obtain ⟨rfl, hv⟩ := y
        rw [List.getElem?_map] at hv
        obtain ⟨e, hn, rfl⟩ := Option.map_eq_some_iff.mp hv
        have hem : e ∈ es := List.mem_of_getElem? hn
        obtain ⟨b2, ⟨kb, hkb, hvb, hwb⟩, w3, w4, w5, w6, w7, rfl⟩ := p
        obtain ⟨e1, e2⟩ := edOk b2 e hem
        have tq : SqT K H6' (q e) [.ref (ad e.1), .ref (sp e)] := SqT.of e1
        have ts : SqT K H6' (sp e) (sideV G a e) := SqT.of e2
        have hT1 : T (j + 1) = rx G.et G.eh G.ep (T j) e := by
          show pass G.et G.eh G.ep (es.take (j + 1)) _ = rx G.et G.eh G.ep (pass G.et G.eh G.ep (es.take j) _) e
          rw [List.take_add_one, hn]
          unfold pass
          rw [Option.toList_some, List.foldl_append]
          rfl
        have hhT := (inT e hem).2
        have hlb := hwb.len
        refine ⟨_, _, rfl, tq, rfl, _, _, rfl, _, _, rfl, rfl, ?_⟩
        refine ⟨_, rfl, _, _, _, _, rfl, rfl, ts, rfl, _, rfl, db, kb, G.et e, rfl, rfl, Rd.of hkb, _, rfl, ?_⟩
        have skip : T (j + 1) = T j → ∀ v3 v4 v5 v6 v7, Iv (j + 1) [some (.ref fl), some (.ref db), some (.ref lp), v3, v4, v5, v6, v7] H6' := fun e' v3 v4 v5 v6 v7 => by
          show B1 H4 H6' ∧ BestV P w H6' db (T (j + 1)).b (things t.ss) ∧ _
          rw [e']
          exact ⟨b2, ⟨kb, hkb, hvb, hwb⟩, _, _, _, _, _, rfl⟩
        cases hl0 : (T j).b (G.et e) with
        | none =>
          rw [hvb, hl0]
          refine iteF (iteF (skip ?_ _ _ _ _ _))
          rw [hT1]; unfold rx; rw [hl0]
        | some x =>
          have vl : valV kb (G.et e) = some (.int x) := by rw [hvb, hl0]; rfl
          rw [vl]
          refine iteT ⟨_, rfl, _, _, _, _, rfl, rfl, ts, rfl, _, rfl, db, kb, G.eh e, rfl, rfl, Rd.of hkb, _, rfl, ?_⟩
          have store : worth ((T j).b (G.eh e)) (x + G.ep e) = true → ∀ v3 v4 v5 v6 v7, Iv (j + 1) [some (.ref fl), some (.ref db), some (.ref lp), v3, v4, v5, v6, v7] (upd H6' db (dN P w db (putK kb (G.eh e) (.int (x + G.ep e))))) := fun hw v3 v4 v5 v6 v7 => by
            have eT : T (j + 1) = ⟨put (T j).b (G.eh e) (x + G.ep e), put (T j).l (G.eh e) e, true⟩ := by
              rw [hT1]; unfold rx; rw [hl0]; simp only; rw [if_pos hw]
            show B1 H4 _ ∧ BestV P w _ db (T (j + 1)).b (things t.ss) ∧ _
            rw [eT]
            exact ⟨fun y u hy eu => by rw [upd_ne hy]; exact b2 y u hy eu, bestV_put hvb hwb hhT, _, _, _, _, _, rfl⟩
          cases hh : (T j).b (G.eh e) with
          | none =>
            rw [hvb, hh]
            refine iteT (iteT ?_)
            refine ⟨_, rfl, _, rfl, _, _, _, _, rfl, rfl, ts, rfl, db, kb, G.et e, .int x, rfl, rfl, Rd.of hkb, vl, _, rfl, _, _, _, _, rfl, rfl, ts, rfl, _, _, rfl, rfl, ?_⟩
            refine ⟨_, rfl, _, rfl, _, _, _, _, rfl, rfl, ts, rfl, db, kb, G.eh e, rfl, rfl, hkb, by rw [sizeLine_eq]; omega, ?_⟩
            exact store (by rw [hh]; rfl) _ _ _ _ _
          | some y =>
            have vh : valV kb (G.eh e) = some (.int y) := by rw [hvb, hh]; rfl
            rw [vh]
            refine iteF ?_
            refine ⟨_, rfl, _, rfl, _, _, _, _, rfl, rfl, ts, rfl, db, kb, G.et e, .int x, rfl, rfl, Rd.of hkb, vl, _, rfl, _, _, _, _, rfl, rfl, ts, rfl, _, _, rfl, rfl, ?_⟩
            refine ⟨_, rfl, _, rfl, _, _, _, _, rfl, rfl, ts, rfl, db, kb, G.eh e, .int y, rfl, rfl, Rd.of hkb, vh, _, _, rfl, rfl, _, rfl, ?_⟩
            by_cases hlt : y < x + G.ep e
            · refine iteD hlt ?_
              refine ⟨_, rfl, _, rfl, _, _, _, _, rfl, rfl, ts, rfl, db, kb, G.et e, .int x, rfl, rfl, Rd.of hkb, vl, _, rfl, _, _, _, _, rfl, rfl, ts, rfl, _, _, rfl, rfl, ?_⟩
              refine ⟨_, rfl, _, rfl, _, _, _, _, rfl, rfl, ts, rfl, db, kb, G.eh e, rfl, rfl, hkb, by rw [sizeLine_eq]; omega, ?_⟩
              exact store (by rw [hh]; exact decide_eq_true hlt) _ _ _ _ _
            · refine iteDF hlt (skip ?_ _ _ _ _ _)
              rw [hT1]; unfold rx; rw [hl0]; simp only
              rw [if_neg (by rw [hh]; intro z; exact hlt (of_decide_eq_true z))]
      · obtain ⟨b2, hb2, w3, w4, w5, w6, w7, rfl⟩ := p
        have hT : (T (es.map fun e => V.ref (q e)).length).b = (S (i + 1)).b := by
          show (pass G.et G.eh G.ep (es.take _) _).b = _
          rw [List.length_map, List.take_length]
          rfl
        rw [hT] at hb2
        exact ⟨b2, hb2, _, _, _, _, _, rfl⟩
    · obtain ⟨b1, ⟨kb, hkb, hvb, hwb⟩, v3, v4, v5, v6, v7, rfl⟩ := p
      have s05 := sOk b1
      have hod5 := s05 _ _ hod
      refine ⟨od, _, hod5, True.intro, fun oo => ?_⟩
      have nof : ∀ (z : Addr) (u : HO), H5 z = some u → (∀ k, u ≠ .dK k) → upd H5 od (.frz oo (.dK (oldK t.ss t.old))) z = some u := fun z u hz hu => by
        rw [upd_ne (ne_of hz hod5 (hu _))]; exact hz
      have hfz : upd H5 od (.frz oo (.dK (oldK t.ss t.old))) od = some (.frz oo (.dK (oldK t.ss t.old))) := upd_same
      refine ⟨_, rfl, fl, CF, fx, _, _, rfl, nof _ _ (s05 _ _ f1) (fun _ z => nomatch z), c.c, c.t, rfl, tk, C.CT, dtk, _, _, rfl, nof _ _ (s05 _ _ htk) (fun _ z => nomatch z), ct.c, ct.o, rfl, od, oo, _, rfl, hfz, fun D hD => ?_⟩
      have nDo : D ≠ od := fun e => by rw [e, upd_same] at hD; cases hD
      have hD5 : H5 D = none := by rw [upd_ne nDo] at hD; exact hD
      have hget : ∀ i, i < t.ss.length → (oldK t.ss t.old)[i]? = some (Sum.inr (t.ss.getD i Str.empty), V.int (t.old (t.ss.getD i Str.empty))) := fun i hi => by
        rw [oldK, List.getElem?_map, List.getD_eq_getElem?_getD, List.getElem?_eq_getElem hi]; rfl
      have ik : ((List.range t.ss.length).map fun i => (Sum.inr (t.ss.getD i Str.empty) : Key)).Nodup := by
        have e : ((List.range t.ss.length).map fun i => (Sum.inr (t.ss.getD i Str.empty) : Key)) = t.ss.map Sum.inr := by
          refine List.ext_getElem? fun i => ?_
          rw [List.getElem?_map, List.getElem?_map]
          by_cases h : i < t.ss.length
          · rw [List.getElem?_range h, List.getElem?_eq_getElem h, Option.map_some, Option.map_some, List.getD_eq_getElem?_getD, List.getElem?_eq_getElem h]; rfl
          · rw [List.getElem?_eq_none (by rw [List.length_range]; omega), List.getElem?_eq_none (by omega)]; rfl
        rw [e]
        exact List.pairwise_map.mpr (tok.nd.imp fun h z => h (Sum.inr.inj z))
      let val : Str → Int := fun n => t.old n + diff (figB G a (t.ss.length + 1)) n
      have wk : Walk (Iti od oo (oldK t.ss t.old)) t.ss.length (fun H => H od = some (.frz oo (.dK (oldK t.ss t.old)))) (YPair (fun i => (oldK t.ss t.old)[i]?.map fun kv => kV kv.1) (fun i => (oldK t.ss t.old)[i]?.map Prod.snd)) := by
        have := walk_items (d := od) (o := oo) (kvs := oldK t.ss t.old)
        rw [hlk] at this; exact this
      refine dc_map wk (fun i H v H' y => by obtain ⟨T, x, z, _, hT, rfl, _, _⟩ := y; exact Same.new hT) (fun i => Sum.inr (t.ss.getD i Str.empty)) (fun i => .int (val (t.ss.getD i Str.empty))) (by rw [sizeLine_eq]; omega) hD ik (fun H' s' => s' _ _ hfz) (fun i v H6 H7 R hi s6 y k => ?_) fun H6 s6 hl => ?_
      · obtain ⟨T, x, z, rfl, hT, rfl, hx, hz⟩ := y
        have hx : (oldK t.ss t.old)[i]?.map (fun kv => kV kv.1) = some x := hx
        have hz : (oldK t.ss t.old)[i]?.map Prod.snd = some z := hz
        rw [hget i hi] at hx hz
        obtain rfl : V.str (t.ss.getD i Str.empty) = x := Option.some.inj hx
        obtain rfl : V.int (t.old (t.ss.getD i Str.empty)) = z := Option.some.inj hz
        have kk := k _ Same.refl
        generalize hnm : t.ss.getD i Str.empty = n at kk ⊢
        have hkb6 : upd H6 T (.tup [.str n, .int (t.old n)]) db = some (dN P w db kb) := (Same.new hT) _ _ (s6 _ _ (nof _ _ hkb (fun _ z => nomatch z)))
        refine ⟨T, _, rfl, SqT.of upd_same, rfl, _, _, rfl, _, _, rfl, rfl, rfl, ?_⟩
        refine ⟨_, rfl, _, rfl, _, rfl, db, kb, rfl, Rd.of hkb6, _, rfl, some n, rfl, Rd.of hkb6, ?_⟩
        rw [hvb]
        have hB : (((S (t.ss.length + 1)).b (some n)).map V.int).getD (.int 0) = .int (diff (figB G a (t.ss.length + 1)) n) := by
          unfold diff figB
          show (((S (t.ss.length + 1)).b (some n)).map V.int).getD (.int 0) = .int (((S (t.ss.length + 1)).b (some n)).getD 0)
          cases (S (t.ss.length + 1)).b (some n) <;> rfl
        rw [hB]
        exact ⟨_, _, rfl, rfl, kk⟩
      · have eo : ((List.range t.ss.length).map fun i => ((Sum.inr (t.ss.getD i Str.empty) : Key), V.int (val (t.ss.getD i Str.empty)))) = oldK t.ss val := by
          refine List.ext_getElem? fun i => ?_
          rw [oldK, List.getElem?_map, List.getElem?_map]
          by_cases h : i < t.ss.length
          · rw [List.getElem?_range h, List.getElem?_eq_getElem h, Option.map_some, Option.map_some, List.getD_eq_getElem?_getD, List.getElem?_eq_getElem h]; rfl
          · rw [List.getElem?_eq_none (by rw [List.length_range]; omega), List.getElem?_eq_none (by omega)]; rfl
        rw [eo] at hl
        refine ⟨s6 _ _ hfz, fin _ D (by cases e : H D with | none => rfl | some u => rw [s05 _ _ e] at hD5; cases hD5) (fun y u e => ?_) (by rw [upd_ne nDo]; exact hl)⟩
        have e5 := s05 _ _ e
        by_cases hy : y = od
        · subst hy
          rw [hod5] at e5
          rw [upd_same]; exact e5
        · rw [upd_ne hy]
          exact s6 _ _ (by rw [upd_ne hy]; exact e5)
end
end Ws
end
section
/-! Flow.__init__ -/
namespace Ws
open PySem PySem.Spec PyProof.Rows L2
abbrev sFInit : Stmt := mth 34 0
/-! ### the lines of a task -/
def nth (L : List Ln) (i : Nat) : Ln := L.getD i ⟨none, none, none, 0, 0⟩
def netOf (L : List Ln) : Net Str := ⟨L.length, fun i => (nth L i).t, fun i => (nth L i).h, fun i => (nth L i).m, fun i => (nth L i).p⟩
theorem nth_of {L : List Ln} {i : Nat} {d : Ln} (h : L[i]? = some d) : nth L i = d := by
  unfold nth; rw [List.getD_eq_getElem?_getD, h]; rfl
def Tk.own1 (t : Tk) (n : Str) (g : Int) : Int := match valV t.own (.inr n : Key) with
  | some (.int i) => i
  | _ => g
def Tk.prU (t : Tk) (n : Str) : Int := t.own1 n t.up
def Tk.prL (t : Tk) (n : Str) : Int := t.own1 n t.lo
structure Tk.PrOk (t : Tk) : Prop where
  up : prOk t.up
  lo : prOk t.lo
  own : ∀ n v, valV t.own (.inr n : Key) = some v → v = .non ∨ ∃ i, v = .int i ∧ prOk i
theorem Tk.own1_val {t : Tk} (p : t.PrOk) {n : Str} (hf : t.firm (some n) = false) (g : Int) : (valV t.own (.inr n : Key)).getD (.int g) = .int (t.own1 n g) := by
  unfold Tk.own1
  have hf' : decide (valV t.own (.inr n : Key) = some .non) = false := hf
  cases e : valV t.own (.inr n : Key) with
  | none => rfl
  | some v =>
    rcases p.own n v e with rfl | ⟨i, rfl, _⟩
    · rw [e] at hf'; simp at hf'
    · rfl
theorem Tk.own1_ok {t : Tk} (p : t.PrOk) {n : Str} {g : Int} (hg : prOk g) : prOk (t.own1 n g) := by
  unfold Tk.own1
  cases e : valV t.own (.inr n : Key) with
  | none => exact hg
  | some v =>
    rcases p.own n v e with rfl | ⟨i, rfl, hi⟩
    · exact hg
    · exact hi
def Tk.two (t : Tk) (n : Str) : List Ln := [⟨some n, none, some (t.prU n), 0, 0⟩, ⟨none, some n, some (t.prL n), 0, 0⟩]
def Tk.loose (t : Tk) (n : Str) : Bool := !t.firm (some n)
def Tk.spares (t : Tk) (ss : List Str) : List Ln := (ss.filter t.loose).flatMap t.two
def Tk.ruleL (t : Tk) : List Ln := t.rl.map fun r => t.line r.2
def Tk.lns (t : Tk) : List Ln := t.ruleL ++ t.spares t.ss
def Tk.net (t : Tk) : Net Str := netOf t.lns
theorem spares_len (t : Tk) (l : List Str) : (t.spares l).length ≤ 2 * l.length := by
  unfold Tk.spares
  have h2 : ∀ l : List Str, (l.flatMap t.two).length = 2 * l.length := fun l => by
    induction l with
    | nil => rfl
    | cons n l ih => rw [List.flatMap_cons, List.length_append, ih, List.length_cons]; show 2 + _ = _; omega
  rw [h2]
  have := List.length_filter_le t.loose l
  omega
theorem spares_snoc (t : Tk) (l : List Str) (n : Str) : t.spares (l ++ [n]) = t.spares l ++ if t.firm (some n) = true then [] else t.two n := by
  unfold Tk.spares
  rw [List.filter_append, List.flatMap_append]
  congr 1
  unfold Tk.loose
  cases h : t.firm (some n) with
  | true => rw [List.filter_cons_of_neg (by rw [h]; exact Bool.false_ne_true), if_pos rfl]; rfl
  | false => rw [List.filter_cons_of_pos (by rw [h]; rfl), if_neg Bool.false_ne_true]; simp
/-! ### lines that stand -/
structure LinesUp (CL : Addr) (H : Hp) (ad : Nat → Addr) (L : List Ln) : Prop where
  at_ : ∀ k d, L[k]? = some d → LineX CL H (ad k) d
  inj : ∀ i j, i < L.length → j < L.length → ad i = ad j → i = j
theorem LinesUp.same {CL : Addr} {H H' : Hp} {ad : Nat → Addr} {L : List Ln} (u : LinesUp CL H ad L) (s : Same H H') : LinesUp CL H' ad L := ⟨fun k d h => (u.at_ k d h).same s, u.inj⟩
def adS (ad : Nat → Addr) (n : Nat) (l : Addr) : Nat → Addr := fun k => if k < n then ad k else l
theorem LinesUp.snoc {CL : Addr} {H H' : Hp} {ad : Nat → Addr} {L : List Ln} {l : Addr} {d : Ln} (u : LinesUp CL H ad L) (s : Same H H') (hl : H l = none) (x : LineX CL H' l d) : LinesUp CL H' (adS ad L.length l) (L ++ [d]) := by
  have one : ∀ k, k < L.length → adS ad L.length l k = ad k := fun k hk => if_pos hk
  have two : adS ad L.length l L.length = l := if_neg (Nat.lt_irrefl _)
  have ne : ∀ k, k < L.length → ad k ≠ l := fun k hk => by
    obtain ⟨dx, e, h1, _⟩ := u.at_ k _ (List.getElem?_eq_getElem hk)
    exact ne_of_none h1 hl
  refine ⟨fun k d' h => ?_, fun i j hi hj e => ?_⟩
  · by_cases hk : k < L.length
    · rw [List.getElem?_append_left hk] at h
      rw [one k hk]
      exact (u.at_ k d' h).same s
    · rw [List.getElem?_append_right (by omega)] at h
      have h0 : k - L.length = 0 := by
        have := (List.getElem?_eq_some_iff.mp h).1
        have h1 : [d].length = 1 := rfl
        omega
      rw [h0] at h
      cases h
      rw [show k = L.length by omega, two]
      exact x
  · rw [List.length_append] at hi hj
    have h1 : [d].length = 1 := rfl
    by_cases h2 : i < L.length
    · by_cases h3 : j < L.length
      · rw [one i h2, one j h3] at e
        exact u.inj i j h2 h3 e
      · rw [one i h2, show j = L.length by omega, two] at e
        exact absurd e (ne i h2)
    · by_cases h3 : j < L.length
      · rw [one j h3, show i = L.length by omega, two] at e
        exact absurd e.symm (ne j h3)
      · omega
theorem lref_adS (ad : Nat → Addr) (n : Nat) (l : Addr) {is : List Nat} (h : ∀ i ∈ is, i < n) : lref (adS ad n l) is = lref ad is := by
  unfold lref
  refine List.map_congr_left fun i hi => ?_
  show V.ref (if i < n then ad i else l) = _
  rw [if_pos (h i hi)]
theorem lref_snoc (ad : Nat → Addr) (s n : Nat) (l : Addr) (hs : s ≤ n) : lref (adS ad n l) (List.range' s (n + 1 - s)) = lref ad (List.range' s (n - s)) ++ [V.ref l] := by
  rw [show n + 1 - s = (n - s) + 1 by omega, ← List.range'_append (s := s) (m := n - s) (n := 1) (step := 1)]
  rw [lref, List.map_append]
  congr 1
  · exact lref_adS ad n l fun i hi => by have := (List.mem_range'_1.mp hi).2; omega
  · show [V.ref (adS ad n l (s + 1 * (n - s)))] = _
    rw [show s + 1 * (n - s) = n by omega]
    show [V.ref (if n < n then ad n else l)] = _
    rw [if_neg (Nat.lt_irrefl _)]
theorem line_nt {t : Tk} (tok : t.Ok) {r : Addr × Rule} (hr : r ∈ t.rl) : (∀ s, (t.line r.2).t = some s → s ∈ t.ss) ∧ ∀ s, (t.line r.2).h = some s → s ∈ t.ss := by
  obtain ⟨h1, h2⟩ := tok.ends r hr
  have one : ∀ v : Nd, (∀ z, v = some z → z ∈ t.ss) → ∀ s, t.nt v = some s → s ∈ t.ss := fun v hv s hs => by
    unfold Tk.nt at hs
    split at hs
    · cases hs
    · exact hv s hs
  exact ⟨one _ h1, one _ h2⟩
theorem mem_lns {t : Tk} {d : Ln} (h : d ∈ t.lns) : (∃ r ∈ t.rl, d = t.line r.2) ∨ ∃ n ∈ t.ss, t.firm (some n) = false ∧ (d = ⟨some n, none, some (t.prU n), 0, 0⟩ ∨ d = ⟨none, some n, some (t.prL n), 0, 0⟩) := by
  unfold Tk.lns at h
  rcases List.mem_append.mp h with z | z
  · obtain ⟨r, hr, rfl⟩ := List.mem_map.mp z
    exact .inl ⟨r, hr, rfl⟩
  · obtain ⟨n, hn, hd⟩ := List.mem_flatMap.mp z
    obtain ⟨h1, h2⟩ := List.mem_filter.mp hn
    refine .inr ⟨n, h1, ?_, ?_⟩
    · unfold Tk.loose at h2
      cases e : t.firm (some n) with
      | true => rw [e] at h2; cases h2
      | false => rfl
    · rcases List.mem_cons.mp hd with e | e
      · exact .inl e
      · exact .inr (List.mem_singleton.mp e)
theorem nth_mem {L : List Ln} {i : Nat} (h : i < L.length) : nth L i ∈ L := by
  rw [nth_of (List.getElem?_eq_getElem h)]
  exact List.getElem_mem h
theorem net_ok {t : Tk} (tok : t.Ok) (p : t.PrOk) : NetOk t.net t.ss := by
  have all : ∀ i, i < t.net.n → ∀ P : Ln → Prop, (∀ d ∈ t.lns, P d) → P (nth t.lns i) := fun i hi P h => h _ (nth_mem hi)
  refine ⟨fun i hi => all i hi (fun d => ∀ m, d.m = some m → 1 ≤ m) fun d hd => ?_, fun i hi => all i hi (fun d => ∀ m, d.m = some m → d.p = 0 ∧ (d.t = none ∨ d.h = none)) fun d hd => ?_, tok.nd, fun i hi => all i hi (fun d => (∀ s, d.t = some s → s ∈ t.ss) ∧ ∀ s, d.h = some s → s ∈ t.ss) fun d hd => ?_⟩
  · rcases mem_lns hd with ⟨r, hr, rfl⟩ | ⟨n, hn, hf, rfl | rfl⟩
    · intro m hm; cases hm
    · intro m hm; cases hm; exact (Tk.own1_ok p p.up).1
    · intro m hm; cases hm; exact (Tk.own1_ok p p.lo).1
  · rcases mem_lns hd with ⟨r, hr, rfl⟩ | ⟨n, hn, hf, rfl | rfl⟩
    · intro m hm; cases hm
    · intro m hm; exact ⟨rfl, .inr rfl⟩
    · intro m hm; exact ⟨rfl, .inl rfl⟩
  · rcases mem_lns hd with ⟨r, hr, rfl⟩ | ⟨n, hn, hf, rfl | rfl⟩
    · exact line_nt tok hr
    · exact ⟨fun s e => by cases e; exact hn, fun s e => nomatch e⟩
    · exact ⟨(fun s e => nomatch e), fun s e => by cases e; exact hn⟩
theorem net_n (t : Tk) : t.net.n = t.rl.length + (t.spares t.ss).length := by
  show t.lns.length = _
  rw [Tk.lns, List.length_append, Tk.ruleL, List.length_map]
/-- all but one object stand -/
def But1 (x : Addr) (H H' : Hp) : Prop := ∀ y u, y ≠ x → H y = some u → H' y = some u
def spFInit (C : TAd) (CL CF : Addr) : Sp := fun vs H Q _ => ∃ fl dx tk t sy pr od, vs = [.ref fl, .ref tk] ∧ H fl = some (.ins CF dx []) ∧ TaskAt C H tk t sy pr od ∧ t.Ok ∧ t.PrOk ∧ (∃ d c, Sol t.net d ∧ ∀ s, -c ≤ d s ∧ d s ≤ c) ∧
  ∀ H' ad a, But1 fl H H' → FlowAt CL CF H' fl tk t.rl.length t.net ad a → FInv t.net a → (∃ ψ, Pot t.net a ψ 0) → Q .non H'
end Ws
end
section
namespace Ws
open PySem PySem.Spec PyProof.Rows L2
section
variable {P : Program} {w : World} {K : PySem.W.Frag} {mg : Str → Option Value} {base : Heap} {f CL CF : Addr} {C : TAd} {fd : FuncData}
abbrev nFI : List Str := ["self", "task", "name", "raising", "lowering", "way", "rule"]
theorem sc_finit : FnScope nFI ["self", "task"] (defScope sFInit) := ⟨rfl, rfl, rfl, by decide +kernel, rfl, by decide +kernel, by decide +kernel⟩
theorem room_free {G : Net Str} {a : Nat → Int} {e : Eg} {r : Int} (hm : e ∈ G.pairs a) (hr : G.room a e = some r) : 1 ≤ r := room_pos (mem_pairs.mp hm).1.2.2 hr
theorem ok_finit (F : Fun K "__init__" "Flow.__init__" sFInit f fd) (c : FlowC K CF) (ct : TaskC K C.CT) (cs : SysC K C.CS) (p1 : Prp P w K mg base 1 C.CT "system" (spTSys C)) (p2 : Prp P w K mg base 1 C.CT "prices" (spTPr C)) (c1 : Mth P w K mg base 4 CF "line_of" (spLineOf C CL CF)) (c2 : Mth P w K mg base 2 C.CT "is_firm" (spFirm C))
    (c3 : Mth P w K mg base 1 C.CP "pair_of" (spPair C.CP)) (c4 : Mkr P w K mg base 1 "Line" CL (spLI CL)) (c5 : Mth P w K mg base 7 CF "best_way" (spBest CL CF)) (c6 : Mth P w K mg base 1 CF "fill" (spFill CL CF)) : FnOk P w K mg base CX0 8 f fd ["self", "task"] (spFInit C CL CF) := by
  refine F.ok sc_finit (fun vs H Q E h => ?_) (fun cdv A outer s H vs Q E hr h => ?_)
  · obtain ⟨fl, dx, tk, t, sy, pr, od, rfl, _⟩ := h
    rfl
  · obtain ⟨fl, dx, tk, t, sy, pr, od, rfl, hfl, hta, tok, pok, ⟨d, cc, hsol, hbd⟩, fin⟩ := h
    have nd := sc_finit.nd
    refine ⟨_, (pss_cons (ps_fld (pv 0) (pv 1) rfl)
      (pss_cons (ps_fld (pv 0) (pe_lc (own := [("rule", 6)]) (g := gName 6) (tt := tYes) (te := tMeth CF "line_of" (spLineOf C CL CF) [] E0 (tVar 0) (tCons (tVar 6) tNil)) rfl nd (pi_list (pe_fld (pe_pr p1 hr (pv 1)) rfl)) (blkOk_by (own := [("rule", 6)]) (N := nFI) (sc := defScope sFInit) (by decide +kernel))
        (fun _ _ _ _ _ => pg_name (i := 6) nd rfl (Or.inl rfl)) (fun _ _ _ _ _ => pts_nil) (fun _ _ _ _ _ => by exact pe_m c1 hr (pv 0) (pa_cons (pv 6) pa_nil))) rfl)
      (pss_cons (ps_fld (pv 0) (pe_lst pa_nil) rfl)
      (pss_cons (ps_lock (ps_for PassesOwn.never rfl (pi_keys (pe_fld (pv 1) rfl)) (pg_name (i := 2) nd rfl (Or.inl rfl))
        (pss_one (ps_if (pt_not (pt_val (pe_m (X := Cx.nox _) c2 hr (pv 1) (pa_cons (pv 2) pa_nil))))
          (pss_cons (ps_asg (pe_m (X := Cx.nox _) c3 hr (pe_pr p2 hr (pv 1)) (pa_cons (pv 2) pa_nil)) (pg_tup (n := 2) rfl (pgs_cons (pg_name (i := 3) nd rfl (Or.inl rfl)) (pgs_cons (pg_name (i := 4) nd rfl (Or.inl rfl)) pgs_nil))))
          (pss_one (ps_expr (pe_bm PySem.F.plainAttrs_list PySem.F.slot_list_extend PySem.F.type_list_extend mt_extend (pe_fld (pv 0) rfl) (pa_cons (pe_lst (pa_cons (pe_new (X := Cx.nox _) c4 hr (pa_cons (pv 2) (pa_cons pe_non (pa_cons (pv 3) (pa_cons pe_int pa_nil))))) (pa_cons (pe_new (X := Cx.nox _) c4 hr (pa_cons pe_non (pa_cons (pv 2) (pa_cons (pv 4) (pa_cons pe_int pa_nil))))) pa_nil))) pa_nil))))) pss_nil))))
      (pss_cons (ps_set (i := 5) nd rfl (Or.inl rfl) (pe_m0 (X := Cx.nox _) c5 hr (pv 0)))
      (pss_one (ps_while PassesOwn.never (pt_cmp (pc_notN (pv 5))) (pss_cons (ps_expr (pe_m (X := Cx.nox _) c6 hr (pv 0) (pa_cons (pv 5) pa_nil))) (pss_one (ps_set (i := 5) nd rfl (Or.inl rfl) (pe_m0 (X := Cx.nox _) c5 hr (pv 0)))))))))))), ?_⟩
    obtain ⟨dtk, tp, htk, htp⟩ := hta.ex
    have hod := hta.old
    have hlen := tok.len
    have hrl := tok.rlen
    have ntf : tk ≠ fl := ne_of htk hfl (fun z => List.cons_ne_nil _ _ (HO.ins.inj z).2.2)
    obtain ⟨⟨ds, sa, ga, e1, e2, e3⟩, etup⟩ := id hta.sys
    have nsf : sy ≠ fl := ne_of e1 hfl (fun z => List.cons_ne_nil _ _ (HO.ins.inj z).2.2)
    have ngf : ga ≠ fl := ne_of e3 hfl (fun z => nomatch z)
    -- the task behind a change of the flow alone
    have tak : ∀ {H'}, But1 fl H H' → TaskAt C H' tk t sy pr od := fun b => by
      obtain ⟨dp, gp, op, x1, x2, x3⟩ := id hta.pr
      have npf : pr ≠ fl := ne_of x1 hfl (fun z => List.cons_ne_nil _ _ (HO.ins.inj z).2.2)
      refine ⟨⟨dtk, tp, b _ _ ntf htk, b _ _ (ne_of htp hfl (fun z => nomatch z)) htp⟩, b _ _ (ne_of hod hfl (fun z => nomatch z)) hod, ⟨⟨ds, sa, ga, b _ _ nsf e1, b _ _ (ne_of e2 hfl (fun z => nomatch z)) e2, b _ _ ngf e3⟩, fun r hr => b _ _ (ne_of (etup r hr) hfl (fun z => nomatch z)) (etup r hr)⟩, ⟨dp, gp, op, b _ _ npf x1, b _ _ (ne_of x2 hfl (fun z => nomatch z)) x2, b _ _ (ne_of x3 hfl (fun z => nomatch z)) x3⟩, fun dp' gp' op' h => by rw [b _ _ npf x1] at h; exact hta.sep _ _ _ (x1.trans h)⟩
    refine ⟨_, rfl, _, rfl, fl, CF, dx, _, rfl, hfl, c.c, c.t, by show 0 < 1000; decide, ?_⟩
    have b1 : But1 fl H (upd H fl (.ins CF dx (putF "task" (.ref tk) []))) := fun y u hy e => by rw [upd_ne hy]; exact e
    have hfl1 : upd H fl (.ins CF dx (putF "task" (.ref tk) [])) fl = some (.ins CF dx [("task", .ref tk)]) := upd_same
    generalize upd H fl (.ins CF dx (putF "task" (.ref tk) [])) = H1 at b1 hfl1 ⊢
    have ta1 := tak b1
    have sl : ∀ {H2}, Same H1 H2 → SqL K H2 ga (refsR t.rl) := fun s => SqL.of (s _ _ (b1 _ _ ngf e3))
    have hrn : (refsR t.rl).length = t.rl.length := List.length_map ..
    refine ⟨_, rfl, tk, dtk, _, rfl, b1 _ _ ntf htk, tk, t, sy, pr, od, rfl, ta1, sy, C.CS, ds, _, _, rfl, b1 _ _ nsf e1, cs.c, cs.g, rfl, ga, rfl, ⟨_, sl Same.refl⟩, fun D hD => ?_⟩
    refine walkP walk_list (fun i H2 => Same H1 H2 ∧ ∃ ad, H2 D = some (.lst (lref ad (List.range i))) ∧ LinesUp CL H2 ad (t.ruleL.take i) ∧ ∀ k, k < i → H (ad k) = none) ⟨Same.new hD, fun _ => 0, upd_same, ⟨fun k d h => (nomatch h), fun i j h => absurd h (Nat.not_lt_zero _)⟩, fun k hk => absurd hk (Nat.not_lt_zero _)⟩ (fun i H2 _ p => sl p.1) (fun i x H2 H2' hi p y => ?_) (fun H2 p => ?_)
    · obtain ⟨rfl, hv⟩ := y
      rw [refsR, List.getElem?_map] at hv
      obtain ⟨r, hn, rfl⟩ := Option.map_eq_some_iff.mp hv
      have hr1 := List.mem_of_getElem? hn
      have hi' : i < t.rl.length := by rw [hrn] at hi; exact hi
      obtain ⟨s2, ad, hl2, up, hnw⟩ := p
      have ta2 := ta1.same s2
      refine ⟨rfl, tyes ?_⟩
      refine ⟨_, rfl, fl, dx, _, rfl, s2 _ _ hfl1, rfl, _, rfl, ?_⟩
      refine ⟨fl, r, dx, _, tk, t, sy, pr, od, rfl, s2 _ _ hfl1, rfl, ta2, tok, ta2.sys.tup r hr1, hr1, fun l H3 hln s3 hlx => ?_⟩
      have hnD : D ≠ l := ne_of_none hl2 hln
      have hlt : (t.ruleL.take i).length = i := by rw [List.length_take, Tk.ruleL, List.length_map]; omega
      have htk2 : t.ruleL.take (i + 1) = t.ruleL.take i ++ [t.line r.2] := by
        rw [List.take_add_one, Tk.ruleL, List.getElem?_map, hn]; rfl
      have up3 := up.snoc s3 hln hlx
      refine ⟨_, s3 _ _ hl2, by rw [lref, List.length_map, List.length_range, sizeLine_eq]; omega, (s2.trans s3).put hD, adS ad (t.ruleL.take i).length l, ?_, ?_⟩
      · rw [upd_same, hlt]
        have := lref_snoc ad 0 i l (Nat.zero_le _)
        rw [Nat.sub_zero, Nat.sub_zero, ← List.range_eq_range', ← List.range_eq_range'] at this
        rw [this]
      · rw [htk2]
        refine ⟨⟨fun k d' h => ?_, up3.inj⟩, fun k hk => ?_⟩
        rotate_left
        · show H (if k < (t.ruleL.take i).length then ad k else l) = none
          rw [hlt]
          by_cases h : k < i
          · rw [if_pos h]; exact hnw k h
          · rw [if_neg h]
            cases e : H l with
            | none => rfl
            | some u =>
              have : l ≠ fl := fun z => by rw [z, s2 _ _ hfl1] at hln; cases hln
              rw [s2 _ _ (b1 _ _ this e)] at hln; cases hln
        obtain ⟨dx2, e, x1, x2⟩ := up3.at_ k d' h
        have hD3 := s3 _ _ hl2
        exact ⟨dx2, e, (upd_ne (ne_of x1 hD3 (fun z => nomatch z))).trans x1, (upd_ne (ne_of x2 hD3 (fun z => nomatch z))).trans x2⟩
    obtain ⟨s2, ad0, hl2, up0, hnw0⟩ := p
    rw [hrn] at hl2 up0 hnw0
    rw [List.take_of_length_le (by rw [Tk.ruleL, List.length_map]; exact Nat.le_refl _)] at up0
    refine ⟨_, rfl, fl, CF, dx, _, rfl, s2 _ _ hfl1, c.c, c.l, by show 1 < 1000; decide, ?_⟩
    have hfl2 := s2 _ _ hfl1
    have b2 : But1 fl H (upd H2 fl (.ins CF dx (putF "lines" (.ref D) [("task", .ref tk)]))) := fun y u hy e => by rw [upd_ne hy]; exact s2 _ _ (b1 y u hy e)
    have hfl3 : upd H2 fl (.ins CF dx (putF "lines" (.ref D) [("task", .ref tk)])) fl = some (.ins CF dx [("task", .ref tk), ("lines", .ref D)]) := upd_same
    have hD3 : upd H2 fl (.ins CF dx (putF "lines" (.ref D) [("task", .ref tk)])) D = some (.lst (lref ad0 (List.range t.rl.length))) := (upd_ne (ne_of hl2 hfl2 (fun z => nomatch z))).trans hl2
    have linF : ∀ {H' : Hp} {l : Addr} {d : Ln} {fs : List (Str × V)} {o : HO}, LineX CL H' l d → H' fl = some (.ins CF dx fs) → (∀ e r, fs ≠ (("ends" : Str), e) :: r) → LineX CL (upd H' fl o) l d := fun ⟨dz, e, x1, x2⟩ hf hne => ⟨dz, e, (upd_ne (ne_of x1 hf (fun z => hne _ _ (HO.ins.inj z).2.2.symm))).trans x1, (upd_ne (ne_of x2 hf (fun z => nomatch z))).trans x2⟩
    have up2 : LinesUp CL (upd H2 fl (.ins CF dx (putF "lines" (.ref D) [("task", .ref tk)]))) ad0 t.ruleL := ⟨fun k d' h => linF (up0.at_ k d' h) hfl2 (fun e r z => absurd (show ("task" : Str) = "ends" from congrArg Prod.fst (List.cons.inj z).1) (by decide)), up0.inj⟩
    generalize upd H2 fl (.ins CF dx (putF "lines" (.ref D) [("task", .ref tk)])) = H3 at b2 hfl3 hD3 up2 ⊢
    refine ⟨Nat.zero_le _, fun sp hsp => ?_⟩
    refine ⟨_, rfl, fl, CF, dx, _, rfl, (upd_ne (ne_of_none hfl3 hsp)).trans hfl3, c.c, c.s, by show 2 < 1000; decide, ?_⟩
    have nsp : sp ≠ fl := fun e => by rw [e, hfl3] at hsp; cases hsp
    have b3 : But1 fl H (upd (upd H3 sp (.lst [])) fl (.ins CF dx (putF "spare" (.ref sp) [("task", .ref tk), ("lines", .ref D)]))) := fun y u hy e => by
      have e3 := b2 y u hy e
      rw [upd_ne hy, upd_ne (ne_of_none e3 hsp)]; exact e3
    have hfl4 : (upd (upd H3 sp (.lst [])) fl (.ins CF dx (putF "spare" (.ref sp) [("task", .ref tk), ("lines", .ref D)]))) fl = some (.ins CF dx [("task", .ref tk), ("lines", .ref D), ("spare", .ref sp)]) := upd_same
    have hsp4 : (upd (upd H3 sp (.lst [])) fl (.ins CF dx (putF "spare" (.ref sp) [("task", .ref tk), ("lines", .ref D)]))) sp = some (.lst []) := (upd_ne nsp).trans upd_same
    have hD4 : (upd (upd H3 sp (.lst [])) fl (.ins CF dx (putF "spare" (.ref sp) [("task", .ref tk), ("lines", .ref D)]))) D = some (.lst (lref ad0 (List.range t.rl.length))) := (upd_ne (ne_of hD3 hfl3 (fun z => nomatch z))).trans ((upd_ne (ne_of_none hD3 hsp)).trans hD3)
    have up4 : LinesUp CL (upd (upd H3 sp (.lst [])) fl (.ins CF dx (putF "spare" (.ref sp) [("task", .ref tk), ("lines", .ref D)]))) ad0 t.ruleL := by
      have up3 := up2.same (Same.new (o := .lst []) hsp)
      exact ⟨fun k d' h => linF (up3.at_ k d' h) ((Same.new hsp) _ _ hfl3) (fun e r z => absurd (show ("task" : Str) = "ends" from congrArg Prod.fst (List.cons.inj z).1) (by decide)), up3.inj⟩
    have hspH : H sp = none := by
      cases e : H sp with
      | none => rfl
      | some u => rw [b2 _ _ nsp e] at hsp; cases hsp
    generalize (upd (upd H3 sp (.lst [])) fl (.ins CF dx (putF "spare" (.ref sp) [("task", .ref tk), ("lines", .ref D)]))) = H4 at b3 hfl4 hsp4 hD4 up4 ⊢
    have ta4 := tak b3
    have hod4 := ta4.old
    have nDs : D ≠ sp := fun e => by
      rw [e] at hD3; rw [hD3] at hsp; cases hsp
    refine ⟨od, _, hod4, True.intro, fun oo => ?_⟩
    have nof : ∀ (z : Addr) (u : HO), H4 z = some u → (∀ k, u ≠ .dK k) → upd H4 od (.frz oo (.dK (oldK t.ss t.old))) z = some u := fun z u hz hu => by
      rw [upd_ne (ne_of hz hod4 (hu _))]; exact hz
    have hfz : upd H4 od (.frz oo (.dK (oldK t.ss t.old))) od = some (.frz oo (.dK (oldK t.ss t.old))) := upd_same
    obtain ⟨dtk4, tp4', htk4, htp4⟩ := ta4.ex
    have hlk : (oldK t.ss t.old).length = t.ss.length := List.length_map ..
    -- the spare lines
    let Pv : Nat → L2.St → Hp → Prop := fun j σ H' => (∀ y u, y ≠ sp → upd H4 od (.frz oo (.dK (oldK t.ss t.old))) y = some u → H' y = some u) ∧
      (∃ ad, (∀ k, k < t.rl.length → ad k = ad0 k) ∧ H' sp = some (.lst (lref ad (List.range' t.rl.length ((t.ruleL ++ t.spares (t.ss.take j)).length - t.rl.length)))) ∧ LinesUp CL H' ad (t.ruleL ++ t.spares (t.ss.take j)) ∧ ∀ k, k < (t.ruleL ++ t.spares (t.ss.take j)).length → H (ad k) = none) ∧
      ∃ v2 v3 v4 v5 v6, σ = [some (.ref fl), some (.ref tk), v2, v3, v4, v5, v6]
    have hrl0 : t.ruleL.length = t.rl.length := List.length_map ..
    refine ⟨_, rfl, tk, C.CT, dtk4, _, _, rfl, nof _ _ htk4 (fun _ z => nomatch z), ct.c, ct.o, rfl, od, oo, rfl, .inl ⟨_, hfz, ?_⟩⟩
    have wk : Walk (Itk od oo (oldK t.ss t.old)) t.ss.length (fun H => H od = some (.frz oo (.dK (oldK t.ss t.old)))) (fun i H x H' => H' = H ∧ ∃ k v, (oldK t.ss t.old)[i]? = some (k, v) ∧ x = kV k) := by
      have := walk_keys (d := od) (o := oo) (kvs := oldK t.ss t.old)
      rw [hlk] at this; exact this
    have nos : od ≠ sp := ne_of hod4 hsp4 (fun z => nomatch z)
    refine for_it wk Pv ⟨fun _ _ _ e => e, ⟨ad0, fun _ _ => rfl, ?_, ?_, ?_⟩, _, _, _, _, _, rfl⟩ (fun _ _ _ _ p => p.1 _ _ nos hfz) (fun j v σ H5 H5' hj p y => ?_) (fun σ H5 p => ?_)
    · rw [nof _ _ hsp4 (fun _ z => nomatch z)]
      show _ = some (HO.lst (lref ad0 (List.range' t.rl.length ((t.ruleL ++ []).length - t.rl.length))))
      rw [List.append_nil, hrl0, Nat.sub_self]; rfl
    · have : t.ruleL ++ t.spares (t.ss.take 0) = t.ruleL := List.append_nil _
      rw [this]
      exact ⟨fun k d' h => by
        obtain ⟨dz, e, x1, x2⟩ := up4.at_ k d' h
        exact ⟨dz, e, nof _ _ x1 (fun _ z => nomatch z), nof _ _ x2 (fun _ z => nomatch z)⟩, up4.inj⟩
    · have : t.ruleL ++ t.spares (t.ss.take 0) = t.ruleL := List.append_nil _
      rw [this, hrl0]
      exact hnw0
    · obtain ⟨rfl, kk, vv, hkv, rfl⟩ := y
      rw [oldK, List.getElem?_map] at hkv
      obtain ⟨n, hn, ekv⟩ := Option.map_eq_some_iff.mp hkv
      cases ekv
      obtain ⟨k5, ⟨ad, had, hsp5, up5, hnw5⟩, w2, w3, w4, w5, w6, rfl⟩ := p
      have hnm := List.mem_of_getElem? hn
      have htk5 : t.ss.take (j + 1) = t.ss.take j ++ [n] := by rw [List.take_add_one, hn]; rfl
      obtain ⟨d1, g1, o1, x1, x2, x3⟩ := id ta4.pr
      have no1 : o1 ≠ od := ta4.sep _ _ _ x1
      have kp5 : ∀ (z : Addr) (u : HO), H4 z = some u → z ≠ sp → (∀ k, u ≠ .dK k) → H5' z = some u := fun z u hz hs hu => k5 _ _ hs (nof _ _ hz hu)
      have tp5 : TaskP C H5' tk t sy pr od := ⟨⟨dtk4, tp4', kp5 _ _ htk4 (ne_of htk4 hsp4 (fun z => nomatch z)) (fun _ z => nomatch z), kp5 _ _ htp4 (ne_of htp4 hsp4 (fun z => nomatch z)) (fun _ z => nomatch z)⟩,
        ⟨d1, g1, o1, kp5 _ _ x1 (ne_of x1 hsp4 (fun z => nomatch z)) (fun _ z => nomatch z), kp5 _ _ x2 (ne_of x2 hsp4 (fun z => nomatch z)) (fun _ z => nomatch z), k5 _ _ (ne_of x3 hsp4 (fun z => nomatch z)) ((upd_ne no1).trans x3)⟩⟩
      have htkk := kp5 _ _ htk4 (ne_of htk4 hsp4 (fun z => nomatch z)) (fun _ z => nomatch z)
      have hprr := kp5 _ _ x1 (ne_of x1 hsp4 (fun z => nomatch z)) (fun _ z => nomatch z)
      have hfl5 := kp5 _ _ hfl4 (Ne.symm nsp) (fun _ z => nomatch z)
      refine ⟨_, rfl, tk, dtk4, _, rfl, htkk, rfl, _, rfl, tk, t, sy, pr, od, some n, rfl, tp5, _, rfl, ?_⟩
      cases hf : t.firm (some n) with
      | true =>
        refine iteF ⟨k5, ⟨ad, had, ?_, ?_, ?_⟩, _, _, _, _, _, rfl⟩
        · rw [htk5, spares_snoc, if_pos hf, List.append_nil]; exact hsp5
        · rw [htk5, spares_snoc, if_pos hf, List.append_nil]; exact up5
        · rw [htk5, spares_snoc, if_pos hf, List.append_nil]; exact hnw5
      | false =>
        refine iteT ?_
        refine ⟨_, rfl, tk, dtk4, _, rfl, htkk, tk, t, sy, pr, od, rfl, tp5, pr, d1, _, rfl, hprr, rfl, _, rfl, pr, t.up, t.lo, t.own, n, rfl, tp5.pr, fun p hp => ?_⟩
        rw [t.own1_val pok hf, t.own1_val pok hf]
        refine ⟨p, _, rfl, SqT.of upd_same, rfl, _, _, rfl, _, _, rfl, rfl, ?_⟩
        have sA : Same H5' (upd H5' p (.tup [.int (t.own1 n t.up), .int (t.own1 n t.lo)])) := Same.new hp
        generalize upd H5' p (.tup [.int (t.own1 n t.up), .int (t.own1 n t.lo)]) = H6 at sA ⊢
        refine ⟨_, rfl, fl, CF, dx, _, _, rfl, sA _ _ hfl5, c.c, c.s, rfl, .inl ⟨rfl, _, SqL.of (sA _ _ hsp5)⟩, ?_⟩
        refine ⟨_, rfl, _, rfl, fun l1 dl1 hl1 hdl1 ndl1 => ⟨l1, dl1, some n, none, some (t.own1 n t.up), 0, rfl, upd_same, fun H7 s7 lx7 => ⟨rfl, ?_⟩⟩⟩
        have sB : Same H6 H7 := fun z u e => s7 z u (ne_of_none e hl1) (by rw [upd_ne (ne_of_none e hl1), upd_ne (ne_of_none e hdl1)]; exact e)
        refine ⟨_, rfl, _, rfl, fun l2 dl2 hl2 hdl2 ndl2 => ⟨l2, dl2, none, some n, some (t.own1 n t.lo), 0, rfl, upd_same, fun H8 s8 lx8 => ⟨rfl, ?_⟩⟩⟩
        have sC : Same H7 H8 := fun z u e => s8 z u (ne_of_none e hl2) (by rw [upd_ne (ne_of_none e hl2), upd_ne (ne_of_none e hdl2)]; exact e)
        refine ⟨by show 2 ≤ sizeLine; decide, fun p2 hp2 => ?_⟩
        have s58 : Same H5' H8 := (sA.trans sB).trans sC
        have hsp8 := s58 _ _ hsp5
        have nps : sp ≠ p2 := ne_of_none hsp8 hp2
        have hLn : (t.ruleL ++ t.spares (t.ss.take j)).length ≤ 1100 := by
          rw [List.length_append, hrl0]
          have := spares_len t (t.ss.take j)
          have := List.length_take_le j t.ss
          rw [List.length_take] at *
          omega
        have hLge : t.rl.length ≤ (t.ruleL ++ t.spares (t.ss.take j)).length := by rw [List.length_append, hrl0]; omega
        refine ⟨sp, p2, _, _, rfl, rfl, (upd_ne nps).trans hsp8, upd_same, ?_, ?_⟩
        · rw [lref, List.length_map, List.length_range', sizeLine_eq]
          show _ + 2 ≤ _
          omega
        have upB := (up5.same sA).snoc sB hl1 lx7
        have upC := upB.snoc sC hl2 lx8
        have eL : t.ruleL ++ t.spares (t.ss.take (j + 1)) = (t.ruleL ++ t.spares (t.ss.take j)) ++ [⟨some n, none, some (t.own1 n t.up), 0, 0⟩] ++ [⟨none, some n, some (t.own1 n t.lo), 0, 0⟩] := by
          rw [htk5, spares_snoc, hf, if_neg Bool.false_ne_true]
          simp [Tk.two, Tk.prU, Tk.prL]
        have back : ∀ l : Addr, H6 l = none → H l = none := fun l hl => by
          cases e : H l with
          | none => rfl
          | some u =>
            exfalso
            have h5 : H5' l = none := by
              cases e5 : H5' l with
              | none => rfl
              | some u' => rw [sA _ _ e5] at hl; cases hl
            have n1 : l ≠ fl := fun z => by rw [z, hfl5] at h5; cases h5
            have n2 : l ≠ sp := fun z => by rw [z, hspH] at e; cases e
            have e4 := b3 _ _ n1 e
            by_cases n3 : l = od
            · rw [n3, k5 _ _ nos hfz] at h5; cases h5
            · rw [k5 _ _ n2 ((upd_ne n3).trans e4)] at h5; cases h5
        have hl2' : H6 l2 = none := by
          cases e : H6 l2 with
          | none => rfl
          | some u => rw [sB _ _ e] at hl2; cases hl2
        refine ⟨fun y u hy e => ?_, ⟨adS (adS ad (t.ruleL ++ t.spares (t.ss.take j)).length l1) ((t.ruleL ++ t.spares (t.ss.take j)) ++ [(⟨some n, none, some (t.own1 n t.up), 0, 0⟩ : Ln)]).length l2, fun k hk => ?_, ?_, ?_, ?_⟩, _, _, _, _, _, rfl⟩
        · have e5 := k5 _ _ hy e
          have e8 := s58 _ _ e5
          rw [upd_ne hy, upd_ne (ne_of_none e8 hp2)]; exact e8
        · show (if k < _ then (if k < _ then ad k else l1) else l2) = ad0 k
          rw [if_pos (by rw [List.length_append]; omega), if_pos (by omega)]
          exact had k hk
        · rw [upd_same, eL]
          have h1 := lref_snoc ad t.rl.length (t.ruleL ++ t.spares (t.ss.take j)).length l1 hLge
          have h2 := lref_snoc (adS ad (t.ruleL ++ t.spares (t.ss.take j)).length l1) t.rl.length ((t.ruleL ++ t.spares (t.ss.take j)) ++ [(⟨some n, none, some (t.own1 n t.up), 0, 0⟩ : Ln)]).length l2 (by rw [List.length_append]; omega)
          have e1 : ((t.ruleL ++ t.spares (t.ss.take j)) ++ [(⟨some n, none, some (t.own1 n t.up), 0, 0⟩ : Ln)]).length = (t.ruleL ++ t.spares (t.ss.take j)).length + 1 := by rw [List.length_append]; rfl
          have e2 : ((t.ruleL ++ t.spares (t.ss.take j)) ++ [(⟨some n, none, some (t.own1 n t.up), 0, 0⟩ : Ln)] ++ [(⟨none, some n, some (t.own1 n t.lo), 0, 0⟩ : Ln)]).length = ((t.ruleL ++ t.spares (t.ss.take j)) ++ [(⟨some n, none, some (t.own1 n t.up), 0, 0⟩ : Ln)]).length + 1 := by rw [List.length_append]; rfl
          rw [e2, h2, e1, h1, List.append_assoc]
          rfl
        · rw [eL]
          refine ⟨fun k d' h => ?_, upC.inj⟩
          obtain ⟨dz, e, y1, y2⟩ := upC.at_ k d' h
          have m1 : ad = ad := rfl
          refine ⟨dz, e, ?_, ?_⟩
          · rw [upd_ne (ne_of y1 hsp8 (fun z => nomatch z)), upd_ne (ne_of_none y1 hp2)]; exact y1
          · rw [upd_ne (ne_of y2 hsp8 (fun z => nomatch z)), upd_ne (ne_of_none y2 hp2)]; exact y2
        · rw [eL]
          intro k hk
          show H (if k < _ then (if k < _ then ad k else l1) else l2) = none
          by_cases q1 : k < ((t.ruleL ++ t.spares (t.ss.take j)) ++ [(⟨some n, none, some (t.own1 n t.up), 0, 0⟩ : Ln)]).length
          · rw [if_pos q1]
            by_cases q2 : k < (t.ruleL ++ t.spares (t.ss.take j)).length
            · rw [if_pos q2]; exact hnw5 k q2
            · rw [if_neg q2]; exact back l1 hl1
          · rw [if_neg q1]; exact back l2 hl2'
    · obtain ⟨k5, ⟨ad, had, hsp5, up5, hnw5⟩, w2, w3, w4, w5, w6, rfl⟩ := p
      rw [List.take_length] at hsp5 up5 hnw5
      have eLn : t.ruleL ++ t.spares t.ss = t.lns := rfl
      rw [eLn] at hsp5 up5 hnw5
      refine ⟨k5 _ _ nos hfz, ?_⟩
      have hod5 := k5 _ _ nos hfz
      have b6 : But1 fl H (upd H5 od (.dK (oldK t.ss t.old))) := fun y u hy e => by
        have e4 := b3 _ _ hy e
        by_cases n3 : y = od
        · subst n3
          rw [hod4] at e4
          rw [upd_same]; exact e4
        · rw [upd_ne n3]
          exact k5 _ _ (fun z => by rw [z, hspH] at e; cases e) ((upd_ne n3).trans e4)
      have kp6 : ∀ (z : Addr) (u : HO), H4 z = some u → z ≠ sp → (∀ k, u ≠ .dK k) → upd H5 od (.dK (oldK t.ss t.old)) z = some u := fun z u hz hs hu => by
        rw [upd_ne (ne_of hz hod4 (hu _))]
        exact k5 _ _ hs (nof _ _ hz hu)
      have hno : t.net.n - t.rl.length = t.lns.length - t.rl.length := rfl
      have hle : t.rl.length ≤ t.net.n := by rw [net_n]; omega
      have hsm : t.net.n ≤ 3000 := by
        rw [net_n]
        have := spares_len t t.ss
        omega
      have nok := net_ok tok pok
      have lx6 : ∀ i, i < t.net.n → LineX CL (upd H5 od (.dK (oldK t.ss t.old))) (ad i) (lnOf t.net (fun _ => 0) i) := fun i hi => by
        have hi' : i < t.lns.length := hi
        obtain ⟨dz, e, y1, y2⟩ := up5.at_ i _ (List.getElem?_eq_getElem hi')
        have ea : lnOf t.net (fun _ => 0) i = t.lns[i] := by
          have h0 : (nth t.lns i).a = 0 := by
            rcases mem_lns (nth_mem hi') with ⟨r, hr, e⟩ | ⟨n, hn, hf, e | e⟩ <;> rw [e] <;> rfl
          rw [← nth_of (List.getElem?_eq_getElem hi')]
          show (⟨(nth t.lns i).t, (nth t.lns i).h, (nth t.lns i).m, (nth t.lns i).p, 0⟩ : Ln) = nth t.lns i
          rw [← h0]
        rw [ea]
        exact ⟨dz, e, (upd_ne (ne_of y1 hod5 (fun z => nomatch z))).trans y1, (upd_ne (ne_of y2 hod5 (fun z => nomatch z))).trans y2⟩
      have okE : ∀ v : Nd, (∀ s, v = some s → s ∈ t.ss) → okN v := fun v hv => by
        cases v with
        | none => rfl
        | some z => exact tok.sok z (hv z rfl)
      have F6 : FlowAt CL CF (upd H5 od (.dK (oldK t.ss t.old))) fl tk t.rl.length t.net ad (fun _ => 0) := by
        refine ⟨⟨dx, D, sp, kp6 _ _ hfl4 (Ne.symm nsp) (fun _ z => nomatch z), ?_, ?_⟩, hle, hsm, lx6, up5.inj, fun i hi => ⟨okE _ (nok.ends i hi).1, okE _ (nok.ends i hi).2⟩⟩
        · rw [kp6 _ _ hD4 nDs (fun _ z => nomatch z)]
          congr 2
          unfold lref
          exact List.map_congr_left fun i hi => by rw [had i (List.mem_range.mp hi)]
        · rw [upd_ne (Ne.symm nos), hsp5]; rfl
      have I6 : FInv t.net (fun _ => 0) := FInv.start nok hsol hbd (by have := hbd ""; omega)
      generalize upd H5 od (.dK (oldK t.ss t.old)) = H6 at b6 F6 ⊢
      let Res : (Nat → Int) → Hp → V → Prop := fun a H' v => (v = .non ∧ ∃ ψ, Pot t.net a ψ 0) ∨ ∃ wl wy q sp D ψ, v = .ref wl ∧ H' wl = some (.lst (wy.map fun e => V.ref (q e))) ∧ (∀ e ∈ wy, EdAt H' t.net ad a q sp e) ∧ Way t.net a wy D ψ
      have call : ∀ (H' : Hp) (a : Nat → Int), FlowAt CL CF H' fl tk t.rl.length t.net ad a → FInv t.net a → ∀ R : V → Hp → Prop, (∀ H'' v, Same H' H'' → Res a H'' v → R v H'') → spBest CL CF [.ref fl] H' R E0 := fun H' a F I R hR =>
        ⟨fl, tk, _, t.net, ad, a, t.ss, rfl, F, I.pot, nok, by omega, fun H'' s' hp => hR H'' _ s' (.inl ⟨rfl, hp⟩), fun H'' wl wy q sp D ψ s' hw he hW => hR H'' _ s' (.inr ⟨wl, wy, q, sp, D, ψ, rfl, hw, he, hW⟩)⟩
      let Wm : Nat → L2.St → Hp → Prop := fun m σ H' => ∃ a v, But1 fl H H' ∧ FlowAt CL CF H' fl tk t.rl.length t.net ad a ∧ FInv t.net a ∧ Res a H' v ∧ m = (t.net.price d - t.net.total a).toNat ∧ ∃ v2 v3 v4 v6, σ = [some (.ref fl), some (.ref tk), v2, v3, v4, some v, v6]
      have bs : ∀ {H' H'' : Hp}, But1 fl H H' → Same H' H'' → But1 fl H H'' := fun b s y u hy e => s _ _ (b y u hy e)
      obtain ⟨fx, q1, q2, f1, f2, f3⟩ := F6.ex
      refine ⟨_, rfl, fl, fx, _, rfl, f1, rfl, ?_⟩
      unfold tNil
      refine call H6 _ F6 I6 _ fun H7 v s7 hres => ?_
      refine ⟨Wm, ⟨_, _, v, bs b6 s7, F6.same s7, I6, hres, rfl, _, _, _, _, rfl⟩, fun m σ H8 hW => ?_⟩
      obtain ⟨a, v, b8, F8, I8, hres8, rfl, v2, v3, v4, v6, rfl⟩ := hW
      refine ⟨_, rfl, _, rfl, ?_⟩
      rcases hres8 with ⟨rfl, hpot⟩ | ⟨wl, wy, q, sp', Dd, ψ, rfl, hwl, hed, way⟩
      · exact iteF (fin H8 ad a b8 F8 I8 hpot)
      · refine iteT ?_
        refine ⟨fun σ' H' => ∃ m', m' < (t.net.price d - t.net.total a).toNat ∧ Wm m' σ' H', fun σ' H' hw => hw, ?_⟩
        · obtain ⟨gx, g1', g2', h1, h2, h3⟩ := F8.ex
          have wlen : wy.length ≤ 6000 := by
            have := nodup_le way.apart (V := List.range t.net.n) (fun x hx => by
              obtain ⟨e, he, rfl⟩ := List.mem_map.mp hx
              exact List.mem_range.mpr (mem_pairs.mp (way.mem e he)).1.1)
            rw [List.length_map, List.length_range] at this
            omega
          refine ⟨_, rfl, fl, gx, _, rfl, h1, rfl, _, rfl, ?_⟩
          refine ⟨fl, tk, _, wl, t.net, ad, a, q, sp', wy, rfl, F8, hwl, fun e he => ⟨hed e he, (mem_pairs.mp (way.mem e he)).1.1⟩, way.bounded hsol, wlen, fun m H9 hm hmle F9 k9 => ?_⟩
          obtain ⟨em, hem, hrm⟩ := hm
          have hm1 : 1 ≤ m := room_free (way.mem em hem) hrm
          obtain ⟨I9, htot⟩ := I8.fill way hm1 hmle
          have b9 : But1 fl H H9 := fun y u hy e => k9 y u (fun i hi z => by rw [z, hnw5 i hi] at e; cases e) (b8 y u hy e)
          obtain ⟨gy, _, _, h1', _, _⟩ := F9.ex
          refine ⟨_, rfl, fl, gy, _, rfl, h1', rfl, ?_⟩
          dsimp only
          refine call H9 _ F9 I9 _ fun H10 v10 s10 hres10 => ?_
          refine ⟨_, ?_, _, v10, bs b9 s10, F9.same s10, I9, hres10, rfl, _, _, _, _, rfl⟩
          have hp := Int.mul_pos (show 0 < m by omega) way.pos
          have hw := weak nok I9 hsol
          rw [htot] at hw ⊢
          omega
end
end Ws
end
section
/-! What a task's net has to do with its solutions. -/
namespace Ws
open PySem PySem.Spec PyProof.Rows L2
/-- numbers that keep the rules and the fixed settings -/
structure Tk.Sat (t : Tk) (x : Str → Int) : Prop where
  rule : ∀ r ∈ t.rl, r.2.2.2 ≤ (match r.2.2.1 with | none => 0 | some n => x n) - (match r.2.1 with | none => 0 | some n => x n)
  firm : ∀ n ∈ t.ss, t.firm (some n) = true → x n = t.old n
def xt (x : Str → Int) : Nd → Int
  | none => 0
  | some n => x n
def Tk.dif (t : Tk) (x : Str → Int) (n : Str) : Int := if n ∈ t.ss then x n - t.old n else 0
theorem nt_dif {t : Tk} {x : Str → Int} (hs : ∀ n ∈ t.ss, t.firm (some n) = true → x n = t.old n) {v : Nd} (hv : ∀ z, v = some z → z ∈ t.ss) : tl (t.dif x) (t.nt v) = xt x v - t.at v := by
  unfold Tk.nt
  cases v with
  | none => rfl
  | some n =>
    have hn := hv n rfl
    cases hf : t.firm (some n) with
    | true =>
      rw [if_pos rfl]
      show 0 = x n - t.old n
      rw [hs n hn hf]; omega
    | false =>
      rw [if_neg Bool.false_ne_true]
      show t.dif x n = x n - t.old n
      unfold Tk.dif
      rw [if_pos hn]
theorem Tk.Sat.sol {t : Tk} (tok : t.Ok) {x : Str → Int} (hs : t.Sat x) : Sol t.net (t.dif x) := by
  refine ⟨fun i hi hm => ?_, fun i hi m hm => ?_⟩
  · have hi' : i < t.lns.length := hi
    have hm' : (nth t.lns i).m = none := hm
    show (nth t.lns i).p ≤ tl (t.dif x) (nth t.lns i).h - tl (t.dif x) (nth t.lns i).t
    rcases mem_lns (nth_mem hi') with ⟨r, hr, e⟩ | ⟨n, hn, hf, e | e⟩
    · rw [e]
      have h1 : tl (t.dif x) (t.line r.2).h = xt x r.2.2.1 - t.at r.2.2.1 := nt_dif hs.firm (tok.ends r hr).2
      have h2 : tl (t.dif x) (t.line r.2).t = xt x r.2.1 - t.at r.2.1 := nt_dif hs.firm (tok.ends r hr).1
      rw [h1, h2]
      have h3 : r.2.2.2 ≤ xt x r.2.2.1 - xt x r.2.1 := hs.rule r hr
      show t.at r.2.1 + r.2.2.2 - t.at r.2.2.1 ≤ _
      omega
    · rw [e] at hm'; cases hm'
    · rw [e] at hm'; cases hm'
  · have hi' : i < t.lns.length := hi
    have hm' : (nth t.lns i).m = some m := hm
    show (nth t.lns i).p = 0
    rcases mem_lns (nth_mem hi') with ⟨r, hr, e⟩ | ⟨n, hn, hf, e | e⟩
    · rw [e] at hm'; cases hm'
    · rw [e]
    · rw [e]
/-- and back -/
theorem sat_of {t : Tk} (tok : t.Ok) {d : Str → Int} (hs : Sol t.net d) (hf : ∀ n, t.firm (some n) = true → d n = 0) : t.Sat fun n => t.old n + d n := by
  refine ⟨fun r hr => ?_, fun n hn h => by rw [hf n h]; omega⟩
  obtain ⟨i, hi, e⟩ : ∃ i, i < t.lns.length ∧ nth t.lns i = t.line r.2 := by
    have hm : t.line r.2 ∈ t.lns := List.mem_append.mpr (.inl (List.mem_map_of_mem hr))
    obtain ⟨i, hi⟩ := List.mem_iff_getElem?.mp hm
    exact ⟨i, (List.getElem?_eq_some_iff.mp hi).1, nth_of hi⟩
  have h1 := hs.rule i hi (by show (nth t.lns i).m = none; rw [e]; rfl)
  have h1' : (nth t.lns i).p ≤ tl d (nth t.lns i).h - tl d (nth t.lns i).t := h1
  rw [e] at h1'
  have one : ∀ v : Nd, tl d (t.nt v) + t.at v = xt (fun n => t.old n + d n) v := fun v => by
    unfold Tk.nt
    cases v with
    | none => rfl
    | some n =>
      cases h : t.firm (some n) with
      | true => rw [if_pos rfl]; show 0 + t.old n = t.old n + d n; rw [hf n h]; omega
      | false => rw [if_neg Bool.false_ne_true]; show d n + t.old n = t.old n + d n; omega
  have h2 := one r.2.1
  have h3 := one r.2.2.1
  have h4 : t.at r.2.1 + r.2.2.2 - t.at r.2.2.1 ≤ tl d (t.nt r.2.2.1) - tl d (t.nt r.2.1) := h1'
  show r.2.2.2 ≤ xt (fun n => t.old n + d n) r.2.2.1 - xt (fun n => t.old n + d n) r.2.1
  omega
theorem dif_bound (t : Tk) (x : Str → Int) : ∃ c : Int, ∀ s, -c ≤ t.dif x s ∧ t.dif x s ≤ c := by
  refine ⟨((t.ss.map fun n => (x n - t.old n).natAbs).sum : Nat), fun s => ?_⟩
  unfold Tk.dif
  by_cases h : s ∈ t.ss
  · rw [if_pos h]
    have := le_sum (List.mem_map_of_mem (f := fun n => (x n - t.old n).natAbs) h)
    omega
  · rw [if_neg h]; omega
theorem Tk.Sat.solv {t : Tk} (tok : t.Ok) {x : Str → Int} (hs : t.Sat x) : ∃ d c, Sol t.net d ∧ ∀ s, -c ≤ d s ∧ d s ≤ c :=
  let ⟨c, hc⟩ := dif_bound t x; ⟨_, c, hs.sol tok, hc⟩
/-! ### binds -/
theorem jv_of {t : Tk} {pi : Nd → Int} (ha : Adm t.rl pi) (lo : Nd) (m : Nat) : Jv eT eH eP t.rl (fun u => pi u - pi lo) (b1 lo) (runP eT eH eP t.rl m ⟨b1 lo, fun _ => none, true⟩) :=
  Jv.runP (fun r hr => by have := ha r hr; show r.2.2.2 ≤ (pi r.2.2.1 - pi lo) - (pi r.2.1 - pi lo); omega) (Jv.start fun u y hu => by
    have hu' : (if u = lo then some 0 else none) = some y := hu
    by_cases h : u = lo
    · rw [if_pos h] at hu'; cases hu'; rw [h]; omega
    · rw [if_neg h] at hu'; cases hu') m
theorem firm_at {t : Tk} {x : Str → Int} (hs : ∀ n ∈ t.ss, t.firm (some n) = true → x n = t.old n) {v : Nd} (hv : v ∈ things t.ss) (hf : t.firm v = true) : xt x v = t.at v := by
  cases v with
  | none => rfl
  | some n =>
    rcases List.mem_cons.mp hv with e | e
    · cases e
    · obtain ⟨z, hz, e'⟩ := List.mem_map.mp e
      cases e'
      exact hs n hz hf
theorem Tk.Sat.nobind {t : Tk} (tok : t.Ok) {x : Str → Int} (hs : t.Sat x) : ¬ t.binds := by
  rintro ⟨lo, hlo, hfl, m, hi, k, hk, hstr⟩
  have jv := jv_of (t := t) (pi := xt x) (fun r hr => by have : r.2.2.2 ≤ xt x r.2.2.1 - xt x r.2.1 := hs.rule r hr; exact this) lo m
  have hle := jv.le hi k hk
  have hiT : hi ∈ things t.ss := by
    rcases jv.par hi k hk with ⟨_, h⟩ | ⟨e, he, _, h, _⟩
    · have h' : (if hi = lo then some 0 else none) = some k := h
      by_cases q : hi = lo
      · rw [q]; exact hlo
      · rw [if_neg q] at h'; cases h'
    · rw [← h]; exact mem_things (tok.ends e he).2
  unfold Tk.strained at hstr
  rw [Bool.and_eq_true, Bool.and_eq_true, Bool.and_eq_true] at hstr
  obtain ⟨⟨⟨_, h1⟩, h2⟩, h3⟩ := hstr
  have h3' := of_decide_eq_true h3
  have e1 := firm_at hs.firm hlo h1
  have e2 := firm_at hs.firm hiT h2
  have hle' : k ≤ xt x hi - xt x lo := hle
  omega
def Tk.Gnd (t : Tk) : Prop := ∀ n ∈ t.ss, ∃ r ∈ t.rl, r.2.1 = none ∧ r.2.2.1 = some n
theorem sat_of_nobind {t : Tk} (tok : t.Ok) (hg : t.Gnd) {pi : Nd → Int} (ha : Adm t.rl pi)
    (hb : ∀ lo, lo ∈ things t.ss → t.firm lo = true → ∃ m, Fix eT eH eP t.rl (runP eT eH eP t.rl m ⟨b1 lo, fun _ => none, true⟩).b ∧ ∀ hi k, (runP eT eH eP t.rl m ⟨b1 lo, fun _ => none, true⟩).b hi = some k → t.strained lo hi k = false) : ∃ x, t.Sat x := by
  have hb' : ∀ lo, ∃ m, lo ∈ things t.ss → t.firm lo = true → Fix eT eH eP t.rl (runP eT eH eP t.rl m ⟨b1 lo, fun _ => none, true⟩).b ∧ ∀ hi k, (runP eT eH eP t.rl m ⟨b1 lo, fun _ => none, true⟩).b hi = some k → t.strained lo hi k = false := fun lo => by
    by_cases h1 : lo ∈ things t.ss
    · by_cases h2 : t.firm lo = true
      · obtain ⟨m, h⟩ := hb lo h1 h2
        exact ⟨m, fun _ _ => h⟩
      · exact ⟨0, fun _ z => absurd z h2⟩
    · exact ⟨0, fun z => absurd z h1⟩
  obtain ⟨m, hm⟩ := Classical.axiomOfChoice hb'
  let B : Nd → Nd → Option Int := fun lo => (runP eT eH eP t.rl (m lo) ⟨b1 lo, fun _ => none, true⟩).b
  have hself : ∀ lo, B lo lo = some 0 := fun lo => by
    have jv := jv_of ha lo (m lo)
    obtain ⟨z, hz, h0⟩ := jv.ini lo 0 (if_pos rfl)
    have := jv.le lo z hz
    have h2 : z ≤ pi lo - pi lo := this
    rw [show z = 0 by omega] at hz
    exact hz
  obtain ⟨s1, s2⟩ := sol_of_fix (t := eT) (h := eH) (p := eP) (es := t.rl) (V := things t.ss) (firm := t.firm) (at0 := t.at) (B := B)
    (fun e he => ⟨mem_things (tok.ends e he).1, mem_things (tok.ends e he).2⟩)
    (fun lo h1 h2 => (hm lo h1 h2).1) (fun lo _ _ => hself lo)
    (fun lo h1 h2 hi h3 h4 hne k hk => by
      have := (hm lo h1 h2).2 hi k hk
      unfold Tk.strained at this
      rw [decide_eq_true hne, h2, h4] at this
      have := of_decide_eq_false (by simpa using this : decide (t.at hi - t.at lo < k) = false)
      omega)
    (fun v hv => by
      refine ⟨none, List.mem_cons_self, rfl, ?_⟩
      cases v with
      | none => exact ⟨0, hself none⟩
      | some n =>
        have hn : n ∈ t.ss := by
          rcases List.mem_cons.mp hv with e | e
          · cases e
          · obtain ⟨z, hz, e'⟩ := List.mem_map.mp e
            cases e'; exact hz
        obtain ⟨r, hr, e1, e2⟩ := hg n hn
        obtain ⟨z, hz, _⟩ := (hm none List.mem_cons_self rfl).1 r hr 0 (by show B none r.2.1 = some 0; rw [e1]; exact hself none)
        have hz' : B none r.2.2.1 = some z := hz
        rw [e2] at hz'
        exact ⟨z, hz'⟩)
  have h0 : most (things t.ss) t.firm t.at B none = 0 := s2 none List.mem_cons_self rfl
  have ex : ∀ v, xt (fun n => most (things t.ss) t.firm t.at B (some n)) v = most (things t.ss) t.firm t.at B v := fun v => by
    cases v with
    | none => exact h0.symm
    | some n => rfl
  refine ⟨fun n => most (things t.ss) t.firm t.at B (some n), fun r hr => ?_, fun n hn hf => s2 (some n) (mem_things fun z e => by cases e; exact hn) hf⟩
  have := s1 r hr
  show r.2.2.2 ≤ xt (fun n => most (things t.ss) t.firm t.at B (some n)) r.2.2.1 - xt (fun n => most (things t.ss) t.firm t.at B (some n)) r.2.1
  rw [ex, ex]
  exact this
/-! ### prices -/
def Tk.cost (t : Tk) (d : Str → Int) (n : Str) : Int := t.prU n * pos (d n) + t.prL n * pos (-(d n))
def fP (d : Str → Int) (l : Ln) : Int := match l.m with | none => 0 | some c => c * pos (tl d l.t - tl d l.h)
theorem sum_nth (L : List Ln) (F : Ln → Int) : sumN L.length (fun i => F (nth L i)) = (L.map F).sum := by
  rw [← sum_range]
  congr 1
  refine List.ext_getElem? fun i => ?_
  rw [List.getElem?_map, List.getElem?_map]
  by_cases h : i < L.length
  · rw [List.getElem?_range h, Option.map_some, List.getElem?_eq_getElem h, Option.map_some, nth_of (List.getElem?_eq_getElem h)]
  · rw [List.getElem?_eq_none (by rw [List.length_range]; omega), List.getElem?_eq_none (by omega)]; rfl
theorem price_eq (t : Tk) (d : Str → Int) : t.net.price d = ((t.ss.filter t.loose).map (t.cost d)).sum := by
  have h1 : t.net.price d = sumN t.lns.length fun i => fP d (nth t.lns i) := rfl
  rw [h1, sum_nth, Tk.lns, List.map_append, List.sum_append]
  have h2 : (t.ruleL.map (fP d)).sum = 0 := by
    unfold Tk.ruleL
    rw [List.map_map]
    induction t.rl with
    | nil => rfl
    | cons r l ih => rw [List.map_cons, List.sum_cons, ih]; rfl
  have h3 : ∀ l : List Str, ((l.flatMap t.two).map (fP d)).sum = (l.map (t.cost d)).sum := fun l => by
    induction l with
    | nil => rfl
    | cons n l ih =>
      rw [List.flatMap_cons, List.map_append, List.sum_append, ih, List.map_cons, List.sum_cons]
      congr 1
      show t.prU n * pos (d n - 0) + (t.prL n * pos (0 - d n) + 0) = t.prU n * pos (d n) + t.prL n * pos (-(d n))
      rw [Int.sub_zero, Int.zero_sub, Int.add_zero]
  rw [h2, Tk.spares, h3, Int.zero_add]
theorem nt_free {t : Tk} {v : Nd} {s : Str} (h : t.nt v = some s) : v = some s ∧ t.firm (some s) = false := by
  unfold Tk.nt at h
  cases hf : t.firm v with
  | true => rw [hf, if_pos rfl] at h; cases h
  | false =>
    rw [hf, if_neg Bool.false_ne_true] at h
    subst h
    exact ⟨rfl, hf⟩
theorem net_free {t : Tk} (tok : t.Ok) {i : Nat} (hi : i < t.net.n) : (∀ s, t.net.t i = some s → s ∈ t.ss ∧ t.firm (some s) = false) ∧ ∀ s, t.net.h i = some s → s ∈ t.ss ∧ t.firm (some s) = false := by
  have hi' : i < t.lns.length := hi
  show (∀ s, (nth t.lns i).t = some s → _) ∧ ∀ s, (nth t.lns i).h = some s → _
  rcases mem_lns (nth_mem hi') with ⟨r, hr, e⟩ | ⟨n, hn, hf, e | e⟩
  · rw [e]
    exact ⟨fun s hs => ⟨(line_nt tok hr).1 s hs, (nt_free hs).2⟩, fun s hs => ⟨(line_nt tok hr).2 s hs, (nt_free hs).2⟩⟩
  · rw [e]
    exact ⟨fun s hs => by cases hs; exact ⟨hn, hf⟩, fun s hs => by cases hs⟩
  · rw [e]
    exact ⟨(fun s hs => by cases hs), fun s hs => by cases hs; exact ⟨hn, hf⟩⟩
/-- the end of the flow: its total is the price of the numbers that it gives -/
theorem best_sol {t : Tk} (tok : t.Ok) (p : t.PrOk) {a : Nat → Int} (I : FInv t.net a) (hp : ∃ ψ, Pot t.net a ψ 0) {d : Str → Int} (hs : Sol t.net d) :
    Sol t.net (diff (figB t.net a (t.ss.length + 1))) ∧ t.net.total a = t.net.price (diff (figB t.net a (t.ss.length + 1))) ∧ ∀ n, t.firm (some n) = true → diff (figB t.net a (t.ss.length + 1)) n = 0 := by
  obtain ⟨ψ, P⟩ := hp
  have ok := net_ok tok p
  have td : Told t.net a (figB t.net a (t.ss.length + 1)) := told_of P ok (Nat.le_succ _)
  have reach : ∀ s, s ∈ t.ss → t.firm (some s) = false → ∃ x, figB t.net a (t.ss.length + 1) (some s) = some x := fun s h1 h2 => by
    have hm : (⟨none, some s, some (t.prL s), 0, 0⟩ : Ln) ∈ t.lns := List.mem_append.mpr (.inr (List.mem_flatMap.mpr ⟨s, List.mem_filter.mpr ⟨h1, by show (!t.firm (some s)) = true; rw [h2]; rfl⟩, List.mem_cons_of_mem _ List.mem_cons_self⟩))
    obtain ⟨k, hk⟩ := List.mem_iff_getElem?.mp hm
    have hkn := nth_of hk
    exact td.reach ok I (k := k) (c := t.prL s) (List.getElem?_eq_some_iff.mp hk).1 (by show (nth t.lns k).t = none; rw [hkn]) (by show (nth t.lns k).h = some s; rw [hkn]) (by show (nth t.lns k).m = _; rw [hkn])
  obtain ⟨h1, h2⟩ := td.best ok I (fun i hi => ⟨fun s e => reach s ((net_free tok hi).1 s e).1 ((net_free tok hi).1 s e).2, fun s e => reach s ((net_free tok hi).2 s e).1 ((net_free tok hi).2 s e).2⟩) (fun i hi hm ho => by
    have ho' : t.net.t i = none ∧ t.net.h i = none := Decidable.not_not.mp ho
    have := hs.rule i hi hm
    rw [ho'.1, ho'.2] at this
    have h0 : tl d none = 0 := rfl
    rw [h0] at this
    omega)
  refine ⟨h1, h2, fun n hf => ?_⟩
  have jv : Jv t.net.et t.net.eh t.net.ep (t.net.sides a) (tl ψ) src (runP t.net.et t.net.eh t.net.ep (t.net.sides a) (t.ss.length + 1) ⟨src, fun _ => none, true⟩) := Jv.runP (pot_sides P) (Jv.start src_le) _
  unfold diff figB
  cases e : (runP t.net.et t.net.eh t.net.ep (t.net.sides a) (t.ss.length + 1) ⟨src, fun _ => none, true⟩).b (some n) with
  | none => rfl
  | some y =>
    exfalso
    rcases jv.par _ _ e with ⟨_, h⟩ | ⟨ed, hed, _, h, _⟩
    · cases h
    · have hi := (mem_sides.mp hed).1
      obtain ⟨i, u⟩ := ed
      have hff : t.firm (some n) = false := by
        cases u with
        | true => exact ((net_free tok hi).2 n h).2
        | false => exact ((net_free tok hi).1 n h).2
      rw [hf] at hff; cases hff
end Ws
end
section
/-! name = {k: v for ..} on one line -/
namespace Ws
open PySem PySem.Spec PyProof.Rows L2
theorem ps_setDc {X : Cx} {i : Nat} {y : Str} {py : Pos} {kx vx tg iter : Expr} {ifs : List Expr} {scope : Scope} {own : List (Str × Nat)} {pos spos : Pos} {wi : L2.TI} {g : TG} {tt : TT} {tk tv : TE} (hc : X.calm = true) (hN : X.N.Nodup) (hy : X.N[i]? = some y) (hyl : X.env.scope.names.lookup y = some .local)
    (hsw : swapsWith (.DictComp kx vx [⟨tg, iter, ifs, 0⟩] scope pos) (some (.Name y py)) spos.line X.env = pure true) (hi : PI X tg iter wi) (ok : BlkOk X.N X.env.scope scope own)
    (hg : ∀ (s : Shared) (H : Hp) (C : Addr) (cl : List (Str × Addr)) (fp : List Addr), PG (X.blk s H scope (compEnvC scope cl C X.env) fp) tg g) (ht : ∀ (s : Shared) (H : Hp) (C : Addr) (cl : List (Str × Addr)) (fp : List Addr), PTs (X.blk s H scope (compEnvC scope cl C X.env) fp) ifs tt)
    (hk : ∀ (s : Shared) (H : Hp) (C : Addr) (cl : List (Str × Addr)) (fp : List Addr), PE (X.blk s H scope (compEnvC scope cl C X.env) fp) kx tk)
    (he : ∀ (s : Shared) (H : Hp) (C : Addr) (cl : List (Str × Addr)) (fp : List Addr), PE (X.blk s H scope (compEnvC scope cl C X.env) fp) vx tv) (hs : ∀ x, foldedSetIterable iter X.env x = pure x := by intro _; rfl) :
    PS X (.Assign [.Name y py] (.DictComp kx vx [⟨tg, iter, ifs, 0⟩] scope pos) spos) (tAsg (tDc wi g tt tk tv (own.map (·.2))) (gName i)) := by
  refine ⟨fun pins s σ H D I h => ?_⟩
  rw [exec_Assign_Name_used _ _ _ _ hsw]
  refine wpAny_bind (wpAny_standAt (wpAny_bind ?_))
  have h : tDc wi g tt tk tv (own.map (·.2)) σ H (fun x H1 => gName i x σ H1 D.nx) := h
  refine wpAny_bind (thn (dc_core (use := some (assign (.Name y py) X.env)) (Qf := fun _ s' => SP X pins D .next s') hc hN I hi ok hg ht hk he hs h fun L C s' m H' I' q hn f => ?_) fun _ s' hq => wpAny_pure (wpAny_pure hq))
  show wpAny _ _ (assign (.Name y py) X.env (.ref L)) _ _ _
  refine wpAny_assign_Name (store_ok2 (v := V.ref L) I' hN hy (.inl hyl) rfl (fun s2 I2 ⟨a, sb, ha⟩ => ?_) (.inr hyl))
  obtain ⟨f0, f1, f2, f3, f4, f5⟩ := f
  have haC : C ≠ a := by
    rcases ha with z | z
    · rw [z]; exact f1
    · exact fun e => f4 y a z e.symm
  refine ⟨m, hn.sameBut sb haC, fun h3 sb3 => ?_⟩
  exact ⟨_, H', I2.turned (t' := s2.toks) (fun b o hb e => (sb3.2 b hb).trans e) f0 f1 f3 f4 f5, q⟩
end Ws
end
section
/-! checked_flow, least_price, cheapest, certificate -/
namespace Ws
open PySem PySem.Spec PyProof.Rows L2
abbrev sCF : Stmt := top 35
abbrev sLP : Stmt := top 36
abbrev sCh : Stmt := top 37
abbrev sCert : Stmt := top 43
structure Tk.Sml (t : Tk) : Prop where
  old : ∀ n ∈ t.ss, -99999 ≤ t.old n ∧ t.old n ≤ 99999
  gap : ∀ r ∈ t.rl, -999 ≤ r.2.2.2 ∧ r.2.2.2 ≤ 999
theorem lns_rule {t : Tk} {i : Nat} (hi : i < t.rl.length) : ∃ r ∈ t.rl, t.rl[i]? = some r ∧ nth t.lns i = t.line r.2 := by
  refine ⟨t.rl[i], List.getElem_mem hi, List.getElem?_eq_getElem hi, nth_of ?_⟩
  unfold Tk.lns
  rw [List.getElem?_append_left (by rw [Tk.ruleL, List.length_map]; exact hi), Tk.ruleL, List.getElem?_map, List.getElem?_eq_getElem hi]
  rfl
theorem lns_spare {t : Tk} {i : Nat} (hi : i < t.net.n) (h : t.rl.length ≤ i) : ∃ n ∈ t.ss, t.firm (some n) = false ∧ (nth t.lns i = ⟨some n, none, some (t.prU n), 0, 0⟩ ∨ nth t.lns i = ⟨none, some n, some (t.prL n), 0, 0⟩) := by
  have hi' : i < t.lns.length := hi
  have hrl0 : t.ruleL.length = t.rl.length := List.length_map ..
  have e : nth t.lns i ∈ t.spares t.ss := by
    rw [nth_of (List.getElem?_eq_getElem hi')]
    have : t.lns[i] = (t.spares t.ss)[i - t.ruleL.length]'(by
      have : t.lns.length = t.ruleL.length + (t.spares t.ss).length := List.length_append
      omega) := List.getElem_append_right (by omega)
    rw [this]
    exact List.getElem_mem _
  obtain ⟨n, hn, hd⟩ := List.mem_flatMap.mp e
  obtain ⟨h1, h2⟩ := List.mem_filter.mp hn
  refine ⟨n, h1, ?_, ?_⟩
  · unfold Tk.loose at h2
    cases e : t.firm (some n) with
    | true => rw [e] at h2; cases h2
    | false => rfl
  · rcases List.mem_cons.mp hd with e | e
    · exact .inl e
    · exact .inr (List.mem_singleton.mp e)
theorem at_small {t : Tk} (sm : t.Sml) {v : Nd} (hv : ∀ z, v = some z → z ∈ t.ss) : -99999 ≤ t.at v ∧ t.at v ≤ 99999 := by
  cases v with
  | none => show -99999 ≤ (0 : Int) ∧ (0 : Int) ≤ 99999; decide
  | some n => exact sm.old n (hv n rfl)
theorem p_small {t : Tk} (tok : t.Ok) (sm : t.Sml) {i : Nat} (hi : i < t.rl.length) : -(2 ^ 64) < t.net.p i ∧ t.net.p i < 2 ^ 64 := by
  obtain ⟨r, hr, _, e⟩ := lns_rule hi
  show -(2 ^ 64) < (nth t.lns i).p ∧ (nth t.lns i).p < 2 ^ 64
  rw [e]
  have h1 := at_small sm (tok.ends r hr).1
  have h2 := at_small sm (tok.ends r hr).2
  have h3 := sm.gap r hr
  show -(2 ^ 64) < t.at r.2.1 + r.2.2.2 - t.at r.2.2.1 ∧ t.at r.2.1 + r.2.2.2 - t.at r.2.2.1 < 2 ^ 64
  constructor <;> omega
theorem sumN_cut {f : Nat → Int} {m : Nat} : ∀ {n : Nat}, m ≤ n → (∀ i, m ≤ i → i < n → f i = 0) → sumN n f = sumN m f
  | 0, h, _ => by rw [Nat.le_zero.mp h]
  | n + 1, h, hz => by
    by_cases e : m = n + 1
    · rw [e]
    · show sumN n f + f n = _
      rw [sumN_cut (by omega) fun i h1 h2 => hz i h1 (by omega), hz n (by omega) (by omega)]; omega
theorem total_rules (t : Tk) (a : Nat → Int) : (sumN t.rl.length fun i => a i * t.net.p i) = t.net.total a := by
  show _ = sumN t.net.n fun i => t.net.p i * a i
  rw [sumN_cut (m := t.rl.length) (f := fun i => t.net.p i * a i) (by rw [net_n]; omega) fun i h1 h2 => ?_]
  · exact sumN_congr fun i _ => Int.mul_comm _ _
  · obtain ⟨n, _, _, e | e⟩ := lns_spare h2 h1
    · show (nth t.lns i).p * _ = 0; rw [e]; exact Int.zero_mul _
    · show (nth t.lns i).p * _ = 0; rw [e]; exact Int.zero_mul _
/-- amounts at the flow's end -/
structure Tk.End (t : Tk) (a : Nat → Int) : Prop where
  inv : FInv t.net a
  pot : ∃ ψ, Pot t.net a ψ 0
/-- what a task is to have -/
structure Tk.Pre (t : Tk) : Prop where
  ok : t.Ok
  pr : t.PrOk
  sm : t.Sml
  gnd : t.Gnd
  adm : ∃ pi, Adm t.rl pi
def spCF (C : TAd) (CL CF : Addr) : Sp := fun vs H Q _ => ∃ tk t sy pr od, vs = [.ref tk] ∧ TaskAt C H tk t sy pr od ∧ t.Pre ∧ (∃ x, t.Sat x) ∧ ∀ H' fl ad a, Same H H' → FlowAt CL CF H' fl tk t.rl.length t.net ad a → t.End a → Q (.ref fl) H'
def spLP (C : TAd) : Sp := fun vs H Q _ => ∃ tk t sy pr od, vs = [.ref tk] ∧ TaskAt C H tk t sy pr od ∧ t.Pre ∧ (∀ H', Same H H' → (∀ x, ¬ t.Sat x) → Q .non H') ∧ (∀ H' a, Same H H' → (∃ x, t.Sat x) → t.End a → Q (.int (t.net.total a)) H')
def Tk.fig (t : Tk) (a : Nat → Int) (n : Str) : Int := t.old n + diff (figB t.net a (t.ss.length + 1)) n
def spCh (C : TAd) : Sp := fun vs H Q _ => ∃ tk t sy pr od, vs = [.ref tk] ∧ TaskAt C H tk t sy pr od ∧ t.Pre ∧ (∃ x, t.Sat x) ∧ ∀ H' p D a, Same H H' → H p = none → H D = none → H' p = some (.tup [.int (t.net.total a), .ref D]) → H' D = some (.dK (oldK t.ss (t.fig a))) → t.End a → Q (.ref p) H'
def spCert (C : TAd) : Sp := fun vs H Q _ => ∃ tk t sy pr od, vs = [.ref tk] ∧ TaskAt C H tk t sy pr od ∧ t.Pre ∧ (∃ x, t.Sat x) ∧ ∀ H' p a, Same H H' → H' p = some (.lst ((List.range t.rl.length).map fun i => V.int (a i))) → t.End a → Q (.ref p) H'
section
variable {P : Program} {w : World} {K : PySem.W.Frag} {mg : Str → Option Value} {base : Heap} {f CL CF : Addr} {C : TAd} {fd : FuncData}
theorem sc_cf : FnScope ["task"] ["task"] (defScope sCF) := ⟨rfl, rfl, rfl, by decide +kernel, rfl, by decide +kernel, by decide +kernel⟩
theorem ok_cf (F : Fun K "checked_flow" "checked_flow" sCF f fd) (c1 : Cal P w K mg base 5 "bind" (spBind C)) (c2 : Mkr P w K mg base 8 "Flow" CF (spFInit C CL CF)) : FnOk P w K mg base CX0 10 f fd ["task"] (spCF C CL CF) := by
  refine F.ok sc_cf (fun vs H Q E h => ?_) (fun cdv A outer s H vs Q E hr h => ?_)
  · obtain ⟨tk, t, sy, pr, od, rfl, _⟩ := h
    rfl
  · obtain ⟨tk, t, sy, pr, od, rfl, ta, pre, ⟨x, hx⟩, fin⟩ := h
    refine ⟨_, pss_cons (ps_if (pt_cmp (pc_notN (pe_f (X := Cx.nox _) c1 hr (pa_cons (pv 0) pa_nil)))) pss_never pss_nil) (pss_one (ps_ret (pe_new (X := Cx.nox _) c2 hr (pa_cons (pv 0) pa_nil)))), ?_⟩
    refine ⟨_, rfl, tk, t, sy, pr, od, rfl, ta, pre.ok, pre.adm, fun H1 s1 _ => ⟨_, rfl, iteF ?_⟩, fun q H1 s1 hb => absurd hb (hx.nobind pre.ok)⟩
    refine ⟨_, rfl, fun fl dx hfl hdx ndx => ?_⟩
    have s2 : Same H1 (upd (upd H1 dx (.own fl)) fl (.ins CF dx [])) := fun z u e => by rw [upd_ne (ne_of_none e hfl), upd_ne (ne_of_none e hdx)]; exact e
    refine ⟨fl, dx, tk, t, sy, pr, od, rfl, upd_same, (ta.same s1).same s2, pre.ok, pre.pr, hx.solv pre.ok, fun H2 ad a b F I pt => ⟨rfl, fin H2 fl ad a (fun z u e => ?_) F ⟨I, pt⟩⟩⟩
    have e1 := s1 _ _ e
    exact b z u (ne_of_none e1 hfl) (s2 _ _ e1)
theorem sc_lp : FnScope ["task"] ["task"] (defScope sLP) := ⟨rfl, rfl, rfl, by decide +kernel, rfl, by decide +kernel, by decide +kernel⟩
theorem ok_lp (F : Fun K "least_price" "least_price" sLP f fd) (c0 : Cal P w K mg base 3 "contradiction" (spContra C.CS)) (p1 : Prp P w K mg base 1 C.CT "system" (spTSys C)) (c1 : Cal P w K mg base 5 "bind" (spBind C)) (c2 : Mkr P w K mg base 8 "Flow" CF (spFInit C CL CF)) (c3 : Mth P w K mg base 1 CF "total" (spTotal CL CF)) : FnOk P w K mg base CX0 10 f fd ["task"] (spLP C) := by
  refine F.ok sc_lp (fun vs H Q E h => ?_) (fun cdv A outer s H vs Q E hr h => ?_)
  · obtain ⟨tk, t, sy, pr, od, rfl, _⟩ := h
    rfl
  · obtain ⟨tk, t, sy, pr, od, rfl, ta, pre, q1, q2⟩ := h
    refine ⟨_, pss_cons (ps_if (PW.pt (pw_or (pt_cmp (pc_notN (pe_f (X := Cx.nox _) c0 hr (pa_cons (pe_pr p1 hr (pv 0)) pa_nil)))) (pw_or1 (pt_cmp (pc_notN (pe_f (X := Cx.nox _) c1 hr (pa_cons (pv 0) pa_nil))))))) (pss_one (ps_ret pe_non)) pss_nil) (pss_one (ps_ret (pe_m0 (X := Cx.nox _) c3 hr (pe_new (X := Cx.nox _) c2 hr (pa_cons (pv 0) pa_nil))))), ?_⟩
    obtain ⟨dtk, tp, htk, _⟩ := ta.ex
    have tok := pre.ok
    refine ⟨_, rfl, tk, dtk, _, rfl, htk, tk, t, sy, pr, od, rfl, ta, sy, t.ss, t.rl, rfl, ta.sys, tok.len, tok.nd, tok.rlen, tok.ends, tok.sok, pre.adm, fun H0 s0 => ⟨_, rfl, iteF ?_⟩⟩
    refine ⟨_, rfl, tk, t, sy, pr, od, rfl, ta.same s0, tok, pre.adm, fun H1 s1 hb => ⟨_, rfl, iteF ?_⟩, fun q H1 s1 hb => ⟨_, rfl, iteT (q1 H1 (s0.trans s1) fun x hx => hx.nobind tok hb)⟩⟩
    obtain ⟨pi, hpi⟩ := pre.adm
    obtain ⟨x, hx⟩ := sat_of_nobind tok pre.gnd hpi hb
    refine ⟨_, rfl, fun fl dx hfl hdx ndx => ?_⟩
    have s2 : Same H1 (upd (upd H1 dx (.own fl)) fl (.ins CF dx [])) := fun z u e => by rw [upd_ne (ne_of_none e hfl), upd_ne (ne_of_none e hdx)]; exact e
    have s01 := s0.trans s1
    refine ⟨fl, dx, tk, t, sy, pr, od, rfl, upd_same, (ta.same s01).same s2, pre.ok, pre.pr, hx.solv pre.ok, fun H2 ad a b F I pt => ⟨rfl, ?_⟩⟩
    obtain ⟨fx, _, _, f1, _, _⟩ := F.ex
    refine ⟨fl, fx, _, rfl, f1, rfl, ?_⟩
    unfold tNil
    dsimp only
    refine ⟨fl, tk, _, t.net, ad, a, rfl, F, fun i hi => p_small tok pre.sm hi, fun H3 s3 => ?_⟩
    rw [total_rules]
    refine q2 H3 a (fun z u e => ?_) ⟨x, hx⟩ ⟨I, pt⟩
    have e1 := s01 _ _ e
    exact s3 _ _ (b z u (ne_of_none e1 hfl) (s2 _ _ e1))
theorem sc_ch : FnScope ["task", "flow"] ["task"] (defScope sCh) := ⟨rfl, rfl, rfl, by decide +kernel, rfl, by decide +kernel, by decide +kernel⟩
theorem ok_ch (F : Fun K "cheapest" "cheapest" sCh f fd) (c1 : Cal P w K mg base 10 "checked_flow" (spCF C CL CF)) (c2 : Mth P w K mg base 1 CF "total" (spTotal CL CF)) (c3 : Mth P w K mg base 10 CF "figures" (spFigs C CL CF)) : FnOk P w K mg base CX0 11 f fd ["task"] (spCh C) := by
  refine F.ok sc_ch (fun vs H Q E h => ?_) (fun cdv A outer s H vs Q E hr h => ?_)
  · obtain ⟨tk, t, sy, pr, od, rfl, _⟩ := h
    rfl
  · obtain ⟨tk, t, sy, pr, od, rfl, ta, pre, hx, fin⟩ := h
    have nd := sc_ch.nd
    refine ⟨_, pss_cons (ps_set (i := 1) nd rfl (Or.inl rfl) (pe_f (X := Cx.nox _) c1 hr (pa_cons (pv 0) pa_nil))) (pss_one (ps_ret (pe_tup (pa_cons (pe_m0 (X := Cx.nox _) c2 hr (pv 1)) (pa_cons (pe_m0 (X := Cx.nox _) c3 hr (pv 1)) pa_nil))))), ?_⟩
    refine ⟨_, rfl, tk, t, sy, pr, od, rfl, ta, pre, hx, fun H1 fl ad a s1 F e => ?_⟩
    obtain ⟨fx, _, _, f1, _, _⟩ := F.ex
    refine ⟨_, rfl, fl, fx, _, rfl, f1, rfl, ?_⟩
    unfold tNil
    dsimp only
    refine ⟨fl, tk, _, t.net, ad, a, rfl, F, fun i hi => p_small pre.ok pre.sm hi, fun H3 s3 => ?_⟩
    rw [total_rules]
    refine ⟨_, rfl, fl, fx, _, rfl, s3 _ _ f1, rfl, ?_⟩
    dsimp only
    refine ⟨fl, tk, _, t.net, ad, a, t, sy, pr, od, rfl, F.same s3, (ta.same s1).same s3, pre.ok, net_ok pre.ok pre.pr, fun H4 D hDn s4 hD => ?_⟩
    refine ⟨by show 2 ≤ sizeLine; decide, fun p hp => fin _ p D a (((s1.trans s3).trans s4).trans (Same.new hp)) (by cases e : H p with | none => rfl | some u => rw [((s1.trans s3).trans s4) _ _ e] at hp; cases hp) (by cases e : H D with | none => rfl | some u => rw [(s1.trans s3) _ _ e] at hDn; cases hDn) upd_same ((Same.new hp) _ _ hD) e⟩
theorem sc_cert : FnScope ["task"] ["task"] (defScope sCert) := ⟨rfl, rfl, rfl, by decide +kernel, rfl, by decide +kernel, by decide +kernel⟩
theorem ok_cert (F : Fun K "certificate" "certificate" sCert f fd) (c1 : Cal P w K mg base 10 "checked_flow" (spCF C CL CF)) (c2 : Mth P w K mg base 1 CF "amounts" (spAmounts CL CF)) : FnOk P w K mg base CX0 11 f fd ["task"] (spCert C) := by
  refine F.ok sc_cert (fun vs H Q E h => ?_) (fun cdv A outer s H vs Q E hr h => ?_)
  · obtain ⟨tk, t, sy, pr, od, rfl, _⟩ := h
    rfl
  · obtain ⟨tk, t, sy, pr, od, rfl, ta, pre, hx, fin⟩ := h
    refine ⟨_, pss_one (ps_ret (pe_m0 (X := Cx.nox _) c2 hr (pe_f (X := Cx.nox _) c1 hr (pa_cons (pv 0) pa_nil)))), ?_⟩
    refine ⟨_, rfl, tk, t, sy, pr, od, rfl, ta, pre, hx, fun H1 fl ad a s1 F e => ?_⟩
    obtain ⟨fx, _, _, f1, _, _⟩ := F.ex
    refine ⟨fl, fx, _, rfl, f1, rfl, ?_⟩
    unfold tNil
    dsimp only
    exact ⟨fl, tk, _, t.net, ad, a, rfl, F, fun H3 p s3 hp => fin H3 p a (s1.trans s3) hp e⟩
end
end Ws
end
section
/-! are_amounts, total_of, total -/
namespace Ws
open PySem PySem.Spec PyProof.Rows L2
abbrev sAreA : Stmt := top 40
abbrev sTotOf : Stmt := top 41
abbrev sTot : Stmt := top 42
/-! ### what the sums are -/
def loR (t : Tk) (k : Nat) : Nd := match t.rl[k]? with | none => none | some r => r.2.1
def hiR (t : Tk) (k : Nat) : Nd := match t.rl[k]? with | none => none | some r => r.2.2.1
def sumsR (t : Tk) (a : Nat → Int) (i : Nat) (n : Str) : Int := sumN i fun k => (ind (hiR t k) n - ind (loR t k) n) * a k
theorem ind_nt {t : Tk} {n : Str} (hf : t.firm (some n) = false) (v : Nd) : ind (t.nt v) n = ind v n := by
  unfold Tk.nt ind
  cases h : t.firm v with
  | false => rw [if_neg Bool.false_ne_true]
  | true =>
    rw [if_pos rfl, if_neg (fun z => nomatch z), if_neg]
    intro z; rw [z, hf] at h; cases h
def gUp (n : Str) (l : Ln) : Int := if l.t = some n then l.m.getD 0 else 0
def gLo (n : Str) (l : Ln) : Int := if l.h = some n then l.m.getD 0 else 0
theorem sum_once {l : List Str} (nd : l.Nodup) (n : Str) {c : Int} (hc : 0 ≤ c) (f : Str → Int) (hf : f n = c) : (l.map fun s => if s = n then f s else 0).sum ≤ c := by
  induction l with
  | nil => exact hc
  | cons s l ih =>
    obtain ⟨h1, h2⟩ := List.nodup_cons.mp nd
    rw [List.map_cons, List.sum_cons]
    by_cases e : s = n
    · subst e
      rw [if_pos rfl, hf]
      have : (l.map fun s' => if s' = s then f s' else 0).sum = 0 := by
        have : ∀ l : List Str, s ∉ l → (l.map fun s' => if s' = s then f s' else 0).sum = 0 := fun l => by
          induction l with
          | nil => intro _; rfl
          | cons z l ih =>
            intro h
            rw [List.map_cons, List.sum_cons, if_neg (fun e : z = s => h (by rw [e]; exact List.mem_cons_self)), ih fun q => h (List.mem_cons_of_mem _ q)]; rfl
        exact this l h1
      omega
    · rw [if_neg e]
      have := ih h2
      omega
theorem sum_lns (t : Tk) (g : Ln → Int) (hg : ∀ l, l.m = none → g l = 0) : (t.lns.map g).sum = ((t.ss.filter t.loose).map fun s => g ⟨some s, none, some (t.prU s), 0, 0⟩ + g ⟨none, some s, some (t.prL s), 0, 0⟩).sum := by
  rw [Tk.lns, List.map_append, List.sum_append]
  have h2 : (t.ruleL.map g).sum = 0 := by
    unfold Tk.ruleL
    rw [List.map_map]
    induction t.rl with
    | nil => rfl
    | cons r l ih => rw [List.map_cons, List.sum_cons, ih]; show g (t.line r.2) + 0 = 0; rw [hg _ rfl]; rfl
  have h3 : ∀ l : List Str, ((l.flatMap t.two).map g).sum = (l.map fun s => g ⟨some s, none, some (t.prU s), 0, 0⟩ + g ⟨none, some s, some (t.prL s), 0, 0⟩).sum := fun l => by
    induction l with
    | nil => rfl
    | cons n l ih =>
      rw [List.flatMap_cons, List.map_append, List.sum_append, ih, List.map_cons, List.sum_cons]
      congr 1
      show g _ + (g _ + 0) = _
      rw [Int.add_zero]
  rw [h2, Tk.spares, h3, Int.zero_add]
theorem up_sum {t : Tk} (tok : t.Ok) (p : t.PrOk) (n : Str) : (t.lns.map (gUp n)).sum ≤ t.prU n := by
  rw [sum_lns t (gUp n) fun l h => by unfold gUp; rw [h]; split <;> rfl]
  have := sum_once (l := t.ss.filter t.loose) (List.Pairwise.filter _ tok.nd) n (c := t.prU n) (by have := (t.own1_ok p (n := n) p.up).1; show 0 ≤ t.own1 n t.up; omega) t.prU rfl
  refine Int.le_trans (Int.le_of_eq ?_) this
  congr 1
  refine List.map_congr_left fun s _ => ?_
  unfold gUp
  show (if some s = some n then t.prU s else 0) + (if (none : Option Str) = some n then t.prL s else 0) = _
  rw [if_neg (show ¬ (none : Option Str) = some n from fun z => nomatch z), Int.add_zero]
  by_cases h : s = n
  · rw [if_pos h, if_pos (by rw [h])]
  · rw [if_neg h, if_neg (fun z => h (Option.some.inj z))]
theorem lo_sum {t : Tk} (tok : t.Ok) (p : t.PrOk) (n : Str) : (t.lns.map (gLo n)).sum ≤ t.prL n := by
  rw [sum_lns t (gLo n) fun l h => by unfold gLo; rw [h]; split <;> rfl]
  have := sum_once (l := t.ss.filter t.loose) (List.Pairwise.filter _ tok.nd) n (c := t.prL n) (by have := (t.own1_ok p (n := n) p.lo).1; show 0 ≤ t.own1 n t.lo; omega) t.prL rfl
  refine Int.le_trans (Int.le_of_eq ?_) this
  congr 1
  refine List.map_congr_left fun s _ => ?_
  unfold gLo
  show (if (none : Option Str) = some n then t.prU s else 0) + (if some s = some n then t.prL s else 0) = _
  rw [if_neg (show ¬ (none : Option Str) = some n from fun z => nomatch z), Int.zero_add]
  by_cases h : s = n
  · rw [if_pos h, if_pos (by rw [h])]
  · rw [if_neg h, if_neg (fun z => h (Option.some.inj z))]
/-- the sums keep the prices -/
theorem sums_ok {t : Tk} (tok : t.Ok) (p : t.PrOk) {a : Nat → Int} (I : FInv t.net a) {n : Str} (hf : t.firm (some n) = false) : -(t.prL n) ≤ sumsR t a t.rl.length n ∧ sumsR t a t.rl.length n ≤ t.prU n := by
  have hc := I.cons n
  have hc' : (sumN t.net.n fun i => (ind (t.net.h i) n - ind (t.net.t i) n) * a i) = 0 := hc
  have hle : t.rl.length ≤ t.net.n := by rw [net_n]; omega
  have eR : sumsR t a t.rl.length n = sumN t.net.n fun i => if i < t.rl.length then (ind (t.net.h i) n - ind (t.net.t i) n) * a i else 0 := by
    rw [sumN_cut hle fun i h1 h2 => if_neg (by omega)]
    refine sumN_congr fun i hi => ?_
    rw [if_pos hi]
    obtain ⟨r, hr, hri, e⟩ := lns_rule hi
    have h1 : t.net.h i = t.nt r.2.2.1 := by show (nth t.lns i).h = _; rw [e]; rfl
    have h2 : t.net.t i = t.nt r.2.1 := by show (nth t.lns i).t = _; rw [e]; rfl
    rw [h1, h2, ind_nt hf, ind_nt hf]
    unfold hiR loR
    rw [hri]
  have sU : (sumN t.net.n fun i => gUp n (nth t.lns i)) ≤ t.prU n := by
    have := up_sum tok p n
    rw [← sum_nth] at this
    exact this
  have sL : (sumN t.net.n fun i => gLo n (nth t.lns i)) ≤ t.prL n := by
    have := lo_sum tok p n
    rw [← sum_nth] at this
    exact this
  have key : ∀ i, i < t.net.n → (if i < t.rl.length then (ind (t.net.h i) n - ind (t.net.t i) n) * a i else 0) ≤ (ind (t.net.h i) n - ind (t.net.t i) n) * a i + gUp n (nth t.lns i) ∧
      (ind (t.net.h i) n - ind (t.net.t i) n) * a i ≤ (if i < t.rl.length then (ind (t.net.h i) n - ind (t.net.t i) n) * a i else 0) + gLo n (nth t.lns i) := fun i hi => by
    by_cases h : i < t.rl.length
    · rw [if_pos h]
      obtain ⟨r, hr, hri, e⟩ := lns_rule h
      have g1 : gUp n (nth t.lns i) = 0 := by rw [e]; unfold gUp; show (if _ then (0 : Int) else 0) = 0; split <;> rfl
      have g2 : gLo n (nth t.lns i) = 0 := by rw [e]; unfold gLo; show (if _ then (0 : Int) else 0) = 0; split <;> rfl
      rw [g1, g2]
      omega
    · rw [if_neg h]
      have hn := I.nn i hi
      have capi := I.cap i hi
      have capi' : ∀ m, (nth t.lns i).m = some m → a i ≤ m := capi
      show 0 ≤ (ind (nth t.lns i).h n - ind (nth t.lns i).t n) * a i + _ ∧ (ind (nth t.lns i).h n - ind (nth t.lns i).t n) * a i ≤ 0 + _
      obtain ⟨s, _, _, e | e⟩ := lns_spare hi (Nat.not_lt.mp h)
      · rw [e] at capi' ⊢
        have hcap := capi' _ rfl
        unfold gUp gLo ind
        show 0 ≤ ((if (none : Option Str) = some n then (1 : Int) else 0) - (if some s = some n then 1 else 0)) * a i + (if some s = some n then t.prU s else 0) ∧ ((if (none : Option Str) = some n then (1 : Int) else 0) - (if some s = some n then 1 else 0)) * a i ≤ 0 + (if (none : Option Str) = some n then t.prU s else 0)
        rw [if_neg (show ¬ (none : Option Str) = some n from fun z => nomatch z), if_neg (show ¬ (none : Option Str) = some n from fun z => nomatch z)]
        by_cases q : some s = some n
        · rw [if_pos q, if_pos q]; constructor <;> omega
        · rw [if_neg q, if_neg q]; constructor <;> omega
      · rw [e] at capi' ⊢
        have hcap := capi' _ rfl
        unfold gUp gLo ind
        show 0 ≤ ((if some s = some n then (1 : Int) else 0) - (if (none : Option Str) = some n then 1 else 0)) * a i + (if (none : Option Str) = some n then t.prL s else 0) ∧ ((if some s = some n then (1 : Int) else 0) - (if (none : Option Str) = some n then 1 else 0)) * a i ≤ 0 + (if some s = some n then t.prL s else 0)
        rw [if_neg (show ¬ (none : Option Str) = some n from fun z => nomatch z), if_neg (show ¬ (none : Option Str) = some n from fun z => nomatch z)]
        by_cases q : some s = some n
        · rw [if_pos q, if_pos q]; constructor <;> omega
        · rw [if_neg q, if_neg q]; constructor <;> omega
  have k1 := sumN_le fun i hi => (key i hi).1
  have k2 := sumN_le fun i hi => (key i hi).2
  rw [sumN_add, hc', ← eR] at k1
  rw [sumN_add, hc', ← eR] at k2
  constructor <;> omega
theorem oldK_put {ss : List Str} {s : Str → Int} (nd : ss.Nodup) {z : Str} (hz : z ∈ ss) (v : Int) : putK (oldK ss s) (.inr z : Key) (.int v) = oldK ss fun n => if n = z then v else s n := by
  unfold putK oldK
  rw [if_pos (List.any_eq_true.mpr ⟨((Sum.inr z : Key), V.int (s z)), List.mem_map_of_mem (f := fun n => ((Sum.inr n : Key), V.int (s n))) hz, by simp⟩), List.map_map]
  refine List.map_congr_left fun n _ => ?_
  show (if (Sum.inr n : Key) = Sum.inr z then ((Sum.inr n : Key), V.int v) else (Sum.inr n, V.int (s n))) = (Sum.inr n, V.int (if n = z then v else s n))
  by_cases h : n = z
  · rw [if_pos (by rw [h]), if_pos h]
  · rw [if_neg (fun q => h (Sum.inr.inj q)), if_neg h]
end Ws
end
section
namespace Ws
open PySem PySem.Spec PyProof.Rows L2
def intsA (t : Tk) (a : Nat → Int) : List V := (List.range t.rl.length).map fun i => V.int (a i)
def spAreA (C : TAd) : Sp := fun vs H Q _ => ∃ tk t sy pr od p a, vs = [.ref tk, .ref p] ∧ TaskAt C H tk t sy pr od ∧ t.Pre ∧ H p = some (.lst (intsA t a)) ∧ FInv t.net a ∧ (∀ i, i < t.rl.length → a i ≤ 999999999999) ∧ Al Q H (.bl true)
def spTotOf (C : TAd) : Sp := fun vs H Q _ => ∃ tk t sy pr od p a, vs = [.ref tk, .ref p] ∧ TaskAt C H tk t sy pr od ∧ t.Pre ∧ H p = some (.lst (intsA t a)) ∧ Al Q H (.int (t.net.total a))
def spTot (C : TAd) : Sp := fun vs H Q _ => ∃ tk t sy pr od p a, vs = [.ref tk, .ref p] ∧ TaskAt C H tk t sy pr od ∧ t.Pre ∧ H p = some (.lst (intsA t a)) ∧ FInv t.net a ∧ (∀ i, i < t.rl.length → a i ≤ 999999999999) ∧ Al Q H (.int (t.net.total a))
theorem step_sum (s : Str → Int) (z : Str) (c : Int) : (fun n => if n = z then s z + c else s n) = fun n => s n + ind (some z) n * c := by
  funext n
  unfold ind
  by_cases h : n = z
  · rw [if_pos h, if_pos (by rw [h]), Int.one_mul, h]
  · rw [if_neg h, if_neg (fun q => h (Option.some.inj q).symm), Int.zero_mul, Int.add_zero]
section
variable {P : Program} {w : World} {K : PySem.W.Frag} {mg : Str → Option Value} {base : Heap} {f CL CF : Addr} {C : TAd} {fd : FuncData}
abbrev nTO : List Str := ["task", "amounts", "rule", "amount"]
theorem sc_totOf : FnScope nTO ["task", "amounts"] (defScope sTotOf) := ⟨rfl, rfl, rfl, by decide +kernel, rfl, by decide +kernel, by decide +kernel⟩
theorem ok_totOf (F : Fun K "total_of" "total_of" sTotOf f fd) (g : Gm mg) (ct : TaskC K C.CT) (cs : SysC K C.CS) (p1 : Prp P w K mg base 1 C.CT "system" (spTSys C)) (c1 : Cal P w K mg base 2 "short_by" spShort) : FnOk P w K mg base CX0 3 f fd ["task", "amounts"] (spTotOf C) := by
  refine F.ok sc_totOf (fun vs H Q E h => ?_) (fun cdv A outer s H vs Q E hr h => ?_)
  · obtain ⟨tk, t, sy, pr, od, p, a, rfl, _⟩ := h
    rfl
  · obtain ⟨tk, t, sy, pr, od, p, a, rfl, ta, pre, hp, q⟩ := h
    have nd := sc_totOf.nd
    refine ⟨_, (pss_one (ps_ret (pe_callB (cr_sum rfl) rfl g.sum (by decide +kernel) (pa_cons (pe_lc (own := [("rule", 2), ("amount", 3)]) (g := gTup K 2 (gCons (gName 2) (gCons (gName 3) gNil))) (tt := tYes) (te := tOp (rI CMul fun i j => .int (i * j)) (tVar 3) (tCall spShort [] E0 (tCons (tFld K (tVar 0) "old") (tCons (tVar 2) tNil)))) rfl nd (pi_zipS rfl g.zip (by first | rfl | exact PyProof.Rows.boot_zip) (pa_cons (pe_fld (pe_pr p1 hr (pv 0)) rfl) (pa_cons (pv 1) pa_nil)) (pk_cons pe_bl pk_nil)) (blkOk_by (own := [("rule", 2), ("amount", 3)]) (N := nTO) (sc := defScope sTotOf) (by decide +kernel))
      (fun _ _ _ _ _ => by exact pg_tup (n := 2) rfl (pgs_cons (pg_name (i := 2) nd rfl (Or.inl rfl)) (pgs_cons (pg_name (i := 3) nd rfl (Or.inl rfl)) pgs_nil))) (fun _ _ _ _ _ => pts_nil) (fun _ _ _ _ _ => by exact pe_op op_mul (pv 3) (pe_f c1 hr (pa_cons (pe_fld (pv 0) rfl) (pa_cons (pv 2) pa_nil))))) pa_nil)))), ?_⟩
    obtain ⟨dtk, tp, htk, _⟩ := ta.ex
    obtain ⟨⟨ds, sa, ga, e1, e2, e3⟩, etup⟩ := id ta.sys
    have tok := pre.ok
    have hln : (refsR t.rl).length = (intsA t a).length := by rw [refsR, intsA, List.length_map, List.length_map, List.length_range]
    have hrn : (refsR t.rl).length = t.rl.length := List.length_map ..
    refine ⟨_, rfl, tk, dtk, _, rfl, htk, tk, t, sy, pr, od, rfl, ta, sy, C.CS, ds, _, _, rfl, e1, cs.c, cs.g, rfl, _, rfl, ga, p, _, _, rfl, rfl, SqL.of e3, SqL.of hp, fun D hD => ?_⟩
    refine lc_map (walk_zipS hln) (fun i H v H' y => by obtain ⟨T, x, z, _, hT, rfl, _, _⟩ := y; exact Same.new hT) (fun i => .int (a i * t.net.p i)) (by rw [hrn, sizeLine_eq]; have := tok.rlen; omega) hD (fun H' s' => ⟨SqL.of (s' _ _ e3), SqL.of (s' _ _ hp)⟩) (fun i v H1 H2 R hi s1 y k => ?_) fun H1 s1 hl => ?_
    · obtain ⟨T, x, z, rfl, hT, rfl, hx, hz⟩ := y
      have hi' : i < t.rl.length := by rw [hrn] at hi; exact hi
      have hx' : (refsR t.rl)[i]? = some x := hx
      have hz' : (intsA t a)[i]? = some z := hz
      obtain ⟨r, hr1, hri, en⟩ := lns_rule hi'
      rw [refsR, List.getElem?_map, hri] at hx'
      obtain rfl : V.ref r.1 = x := Option.some.inj hx'
      rw [intsA, List.getElem?_map, List.getElem?_range hi'] at hz'
      obtain rfl : V.int (a i) = z := Option.some.inj hz'
      have s2 := s1.trans (Same.new (o := .tup [.ref r.1, .int (a i)]) hT)
      have ta2 := ta.same s2
      refine ⟨T, _, rfl, SqT.of upd_same, rfl, _, _, rfl, _, _, rfl, rfl, rfl, ?_⟩
      refine ⟨_, rfl, _, rfl, tk, C.CT, dtk, _, _, rfl, s2 _ _ htk, ct.c, ct.o, rfl, _, rfl, od, _, r.2, r.1, t.at r.2.1 + r.2.2.2 - t.at r.2.2.1, rfl, ta2.num tok.nd, s2 _ _ (etup r hr1), ?_, ?_⟩
      · rw [shortF, Tk.numAt (tok.ends r hr1).1, Tk.numAt (tok.ends r hr1).2]; rfl
      · have ep : t.net.p i = t.at r.2.1 + r.2.2.2 - t.at r.2.2.1 := by show (nth t.lns i).p = _; rw [en]; rfl
        have ps := p_small tok pre.sm hi'
        rw [ep] at ps
        refine ⟨_, _, rfl, rfl, .inr ps, ?_⟩
        have := k _ Same.refl
        rw [ep] at this
        exact this
    · rw [hrn] at hl
      refine ⟨D, (List.range t.rl.length).map fun i => a i * t.net.p i, rfl, SqL.of (by rw [hl, List.map_map]; rfl), ?_⟩
      rw [sum_range, total_rules]
      exact q H1 s1
theorem sc_tot : FnScope ["task", "amounts"] ["task", "amounts"] (defScope sTot) := ⟨rfl, rfl, rfl, by decide +kernel, rfl, by decide +kernel, by decide +kernel⟩
theorem ok_tot (F : Fun K "total" "total" sTot f fd) (c1 : Cal P w K mg base 3 "are_amounts" (spAreA C)) (c2 : Cal P w K mg base 3 "total_of" (spTotOf C)) : FnOk P w K mg base CX0 4 f fd ["task", "amounts"] (spTot C) := by
  refine F.ok sc_tot (fun vs H Q E h => ?_) (fun cdv A outer s H vs Q E hr h => ?_)
  · obtain ⟨tk, t, sy, pr, od, p, a, rfl, _⟩ := h
    rfl
  · obtain ⟨tk, t, sy, pr, od, p, a, rfl, ta, pre, hp, I, hb, q⟩ := h
    refine ⟨_, pss_cons (ps_if (pt_not (pt_val (pe_f (X := Cx.nox _) c1 hr (pa_cons (pv 0) (pa_cons (pv 1) pa_nil))))) pss_never pss_nil) (pss_one (ps_ret (pe_f (X := Cx.nox _) c2 hr (pa_cons (pv 0) (pa_cons (pv 1) pa_nil))))), ?_⟩
    refine ⟨_, rfl, _, rfl, tk, t, sy, pr, od, p, a, rfl, ta, pre, hp, I, hb, fun H1 s1 => ⟨true, rfl, iteF ?_⟩⟩
    exact ⟨_, rfl, _, rfl, tk, t, sy, pr, od, p, a, rfl, ta.same s1, pre, s1 _ _ hp, fun H2 s2 => q _ (s1.trans s2)⟩
abbrev nAA : List Str := ["task", "thing", "rules", "amount", "name", "sums", "low", "high", "gap", "change", "raising", "lowering"]
theorem sc_areA : FnScope nAA ["task", "thing"] (defScope sAreA) := ⟨rfl, rfl, rfl, by decide +kernel, rfl, by decide +kernel, by decide +kernel⟩
theorem ok_areA (F : Fun K "are_amounts" "are_amounts" sAreA f fd) (g : Gm mg) (ct : TaskC K C.CT) (cs : SysC K C.CS) (p1 : Prp P w K mg base 1 C.CT "system" (spTSys C)) (p2 : Prp P w K mg base 1 C.CT "prices" (spTPr C)) (c1 : Cal P w K mg base 1 "is_integer" spIsInt) (c2 : Mth P w K mg base 2 C.CT "is_firm" (spFirm C)) (c3 : Mth P w K mg base 1 C.CP "pair_of" (spPair C.CP)) : FnOk P w K mg base CX0 3 f fd ["task", "thing"] (spAreA C) := by
  refine F.ok sc_areA (fun vs H Q E h => ?_) (fun cdv A outer s H vs Q E hr h => ?_)
  · obtain ⟨tk, t, sy, pr, od, p, a, rfl, _⟩ := h
    rfl
  · obtain ⟨tk, t, sy, pr, od, p, a, rfl, ta, pre, hp, I, hbig, q⟩ := h
    have nd := sc_areA.nd
    have hu := hu_of hr
    refine ⟨_, (pss_cons (ps_set (i := 2) nd rfl (Or.inl rfl) (pe_fld (pe_pr p1 hr (pv 0)) rfl))
      (pss_cons (ps_if (PW.pt (pw_or (pt_not (pt_val (pe_callB call_isi rfl g.isi boot_isinstance (pa_cons (pv 1) (pa_cons (pe_bltn (v := .ty "list") rfl g.list boot_list rfl) pa_nil)))))
        (pw_or1 (pt_cmpR op_ne (pe_callB call_len rfl g.len boot_len (pa_cons (pv 1) pa_nil)) (pe_callB call_len rfl g.len boot_len (pa_cons (pv 2) pa_nil)) (nomark _))))) (pss_one (ps_ret pe_bl)) pss_nil)
      (pss_cons (ps_if (pt_not (pt_val (pe_callB (cr_all rfl) rfl g.all boot_all (pa_cons (pe_lc (own := [("amount", 3)]) (g := gName 3) (tt := tYes) rfl nd (pi_list (pv 1)) (blkOk_by (own := [("amount", 3)]) (N := nAA) (sc := defScope sAreA) (by decide +kernel))
        (fun _ _ _ _ _ => pg_name (i := 3) nd rfl (Or.inl rfl)) (fun _ _ _ _ _ => pts_nil) (fun _ _ _ _ _ => pe_f c1 hr (pa_cons (pv 3) (pa_cons pe_int (pa_cons (C8.pe_gc rfl g.largest) pa_nil))))) pa_nil)))) (pss_one (ps_ret pe_bl)) pss_nil)
      (pss_cons (ps_lock (ps_setDc (i := 5) (own := [("name", 4)]) (g := gName 4) (tt := tYes) (tk := tVar 4) (tv := tC (.int 0)) rfl nd rfl rfl (sw_trueD rfl rfl rfl (by decide +kernel)) (pi_keys (pe_fld (pv 0) rfl)) (blkOk_by (own := [("name", 4)]) (N := nAA) (sc := defScope sAreA) (by decide +kernel))
        (fun _ _ _ _ _ => pg_name (i := 4) nd rfl (Or.inl rfl)) (fun _ _ _ _ _ => pts_nil) (fun _ _ _ _ _ => pv 4) (fun _ _ _ _ _ => pe_int)))
      (pss_cons (ps_for PassesOwn.never rfl (pi_zipS rfl g.zip (by first | rfl | exact PyProof.Rows.boot_zip) (pa_cons (pv 2) (pa_cons (pv 1) pa_nil)) (pk_cons pe_bl pk_nil)) (pg_tup (n := 2) rfl (pgs_cons (pg_tup (n := 3) rfl (pgs_cons (pg_name (i := 6) nd rfl (Or.inl rfl)) (pgs_cons (pg_name (i := 7) nd rfl (Or.inl rfl)) (pgs_cons (pg_name (i := 8) nd rfl (Or.inl rfl)) pgs_nil)))) (pgs_cons (pg_name (i := 3) nd rfl (Or.inl rfl)) pgs_nil)))
        (pss_one (ps_for PassesOwn.never rfl (pi_tup (pe_tup (pa_cons (pe_tup (pa_cons (pv 6) (pa_cons (pe_un un_neg (pv 3)) pa_nil))) (pa_cons (pe_tup (pa_cons (pv 7) (pa_cons (pv 3) pa_nil))) pa_nil)))) (pg_tup (n := 2) rfl (pgs_cons (pg_name (i := 4) nd rfl (Or.inl rfl)) (pgs_cons (pg_name (i := 9) nd rfl (Or.inl rfl)) pgs_nil)))
          (pss_one (ps_if (pt_cmp (pc_notN (pv 4))) (pss_one (ps_daug hu (pv 5) (pv 4) (pv 9) in_add (fun _ _ _ => rfl))) pss_nil)))))
      (pss_cons (ps_lock (ps_for PassesOwn.never rfl (pi_keys (pv 5)) (pg_name (i := 4) nd rfl (Or.inl rfl))
        (pss_one (ps_if (pt_not (pt_val (pe_m (X := Cx.nox _) c2 hr (pv 0) (pa_cons (pv 4) pa_nil))))
          (pss_cons (ps_asg (pe_m (X := Cx.nox _) c3 hr (pe_pr p2 hr (pv 0)) (pa_cons (pv 4) pa_nil)) (pg_tup (n := 2) rfl (pgs_cons (pg_name (i := 10) nd rfl (Or.inl rfl)) (pgs_cons (pg_name (i := 11) nd rfl (Or.inl rfl)) pgs_nil))))
          (pss_one (ps_if (pt_not (pt_chain op_le op_le (pe_un un_neg (pv 11)) (pe_dget hu (pv 5) (pv 4) (fun _ _ => rfl)) (pv 10))) (pss_one (ps_ret pe_bl)) pss_nil))) pss_nil))))
      (pss_one (ps_ret pe_bl)))))))), ?_⟩
    obtain ⟨dtk, tp, htk, htp⟩ := ta.ex
    obtain ⟨⟨ds, sa, ga, e1, e2, e3⟩, etup⟩ := id ta.sys
    have tok := pre.ok
    have hod := ta.old
    have hlen := tok.len
    have hln : (refsR t.rl).length = (intsA t a).length := by rw [refsR, intsA, List.length_map, List.length_map, List.length_range]
    have hrn : (refsR t.rl).length = t.rl.length := List.length_map ..
    have hin : (intsA t a).length = t.rl.length := by rw [← hln, hrn]
    have hlk : (oldK t.ss t.old).length = t.ss.length := List.length_map ..
    refine ⟨_, rfl, tk, dtk, _, rfl, htk, tk, t, sy, pr, od, rfl, ta, sy, C.CS, ds, _, _, rfl, e1, cs.c, cs.g, rfl, ?_⟩
    refine ⟨_, rfl, _, _, _, _, true, rfl, .ty _, .base (.lst hp), kit_eq, true, rfl, iteF ?_⟩
    refine ⟨_, rfl, _, _, rfl, .inl ⟨_, SqL.of hp, rfl⟩, _, rfl, _, _, rfl, .inl ⟨_, SqL.of e3, rfl⟩, rfl, _, rfl, ?_⟩
    rw [hrn, hin, decide_eq_true rfl]
    refine iteF ?_
    refine ⟨_, rfl, p, rfl, ⟨_, SqL.of hp⟩, fun D hD => lc_map walk_list (fun i H v H' y => by rw [y.1]; exact Same.refl) (fun _ => .bl true) (by rw [hin, sizeLine_eq]; have := tok.rlen; omega) hD (fun H' s' => SqL.of (s' _ _ hp)) (fun i v H1 H2 R hi s1 y k => ?_) fun H1 s1 hl => ?_⟩
    · obtain ⟨rfl, hv⟩ := y
      rw [hin] at hi
      rw [intsA, List.getElem?_map, List.getElem?_range hi] at hv
      obtain rfl : V.int (a i) = v := Option.some.inj hv
      refine ⟨rfl, _, rfl, a i, _, _, rfl, ?_⟩
      rw [decide_eq_true (I.nn i (by rw [net_n]; omega)), decide_eq_true (hbig i hi)]
      exact k _ Same.refl
    rw [hin, rep_all] at hl
    refine ⟨D, _, rfl, SqL.of hl, true, by rw [all_rep], iteF ?_⟩
    have hod1 := s1 _ _ hod
    refine ⟨od, _, hod1, True.intro, fun oo => ?_⟩
    have nof : ∀ (z : Addr) (u : HO), H1 z = some u → (∀ k, u ≠ .dK k) → upd H1 od (.frz oo (.dK (oldK t.ss t.old))) z = some u := fun z u hz hu => by
      rw [upd_ne (ne_of hz hod1 (hu _))]; exact hz
    have hfz : upd H1 od (.frz oo (.dK (oldK t.ss t.old))) od = some (.frz oo (.dK (oldK t.ss t.old))) := upd_same
    refine ⟨_, rfl, tk, C.CT, dtk, _, _, rfl, nof _ _ (s1 _ _ htk) (fun _ z => nomatch z), ct.c, ct.o, rfl, od, oo, rfl, .inl ⟨_, hfz, fun dS hdS => ?_⟩⟩
    have nSo : dS ≠ od := fun e => by rw [e, upd_same] at hdS; cases hdS
    have hdS1 : H1 dS = none := by rw [upd_ne nSo] at hdS; exact hdS
    have ik : ((List.range t.ss.length).map fun i => (Sum.inr (t.ss.getD i Str.empty) : Key)).Nodup := by
      have e : ((List.range t.ss.length).map fun i => (Sum.inr (t.ss.getD i Str.empty) : Key)) = t.ss.map Sum.inr := by
        refine List.ext_getElem? fun i => ?_
        rw [List.getElem?_map, List.getElem?_map]
        by_cases h : i < t.ss.length
        · rw [List.getElem?_range h, List.getElem?_eq_getElem h, Option.map_some, Option.map_some, List.getD_eq_getElem?_getD, List.getElem?_eq_getElem h]; rfl
        · rw [List.getElem?_eq_none (by rw [List.length_range]; omega), List.getElem?_eq_none (by omega)]; rfl
      rw [e]
      exact List.pairwise_map.mpr (tok.nd.imp fun h z => h (Sum.inr.inj z))
    have wk : Walk (Itk od oo (oldK t.ss t.old)) t.ss.length (fun H => H od = some (.frz oo (.dK (oldK t.ss t.old)))) (fun i H x H' => H' = H ∧ ∃ k v, (oldK t.ss t.old)[i]? = some (k, v) ∧ x = kV k) := by
      have := walk_keys (d := od) (o := oo) (kvs := oldK t.ss t.old)
      rw [hlk] at this; exact this
    refine dc_map wk (fun i H v H' y => by rw [y.1]; exact Same.refl) (fun i => Sum.inr (t.ss.getD i Str.empty)) (fun i => .int 0) (by rw [sizeLine_eq]; omega) hdS ik (fun H' s' => s' _ _ hfz) (fun i v H2 H3 R hi s2 y k => ?_) fun H2 s2 hl2 => ?_
    · obtain ⟨rfl, kk, vv, hkv, rfl⟩ := y
      rw [oldK, List.getElem?_map, List.getElem?_eq_getElem hi] at hkv
      cases hkv
      have en : t.ss.getD i Str.empty = t.ss[i] := by rw [List.getD_eq_getElem?_getD, List.getElem?_eq_getElem hi]; rfl
      have := k _ Same.refl
      rw [en] at this
      exact ⟨rfl, _, rfl, this⟩
    have eo : ((List.range t.ss.length).map fun i => ((Sum.inr (t.ss.getD i Str.empty) : Key), V.int 0)) = oldK t.ss (sumsR t a 0) := by
      refine List.ext_getElem? fun i => ?_
      rw [oldK, List.getElem?_map, List.getElem?_map]
      by_cases h : i < t.ss.length
      · rw [List.getElem?_range h, List.getElem?_eq_getElem h, Option.map_some, Option.map_some, List.getD_eq_getElem?_getD, List.getElem?_eq_getElem h]; rfl
      · rw [List.getElem?_eq_none (by rw [List.length_range]; omega), List.getElem?_eq_none (by omega)]; rfl
    rw [eo] at hl2
    refine ⟨s2 _ _ hfz, ?_⟩
    have sB : Same H (upd H2 od (.dK (oldK t.ss t.old))) := fun y u e => by
      have e5 := s1 _ _ e
      by_cases hy : y = od
      · subst hy
        rw [hod1] at e5
        rw [upd_same]; exact e5
      · rw [upd_ne hy]
        exact s2 _ _ (by rw [upd_ne hy]; exact e5)
    have hl3 : upd H2 od (.dK (oldK t.ss t.old)) dS = some (.dK (oldK t.ss (sumsR t a 0))) := (upd_ne nSo).trans hl2
    have hdSH : H dS = none := by
      cases e : H dS with
      | none => rfl
      | some u => rw [s1 _ _ e] at hdS1; cases hdS1
    generalize upd H2 od (.dK (oldK t.ss t.old)) = H4 at sB hl3 ⊢
    -- the sums
    let Pv : Nat → L2.St → Hp → Prop := fun i σ H' => Same H H' ∧ H' dS = some (.dK (oldK t.ss (sumsR t a i))) ∧ ∃ v3 v4 v6 v7 v8 v9 v10 v11, σ = [some (.ref tk), some (.ref p), some (.ref ga), v3, v4, some (.ref dS), v6, v7, v8, v9, v10, v11]
    refine ⟨_, rfl, _, rfl, ga, p, _, _, rfl, rfl, SqL.of (sB _ _ e3), SqL.of (sB _ _ hp), ?_⟩
    refine for_it (walk_zipS hln) Pv ⟨sB, hl3, _, _, _, _, _, _, _, _, rfl⟩ (fun _ _ _ _ p' => ⟨SqL.of (p'.1 _ _ e3), SqL.of (p'.1 _ _ hp)⟩) (fun i v σ H5 H5' hi pp y => ?_) (fun σ H5 pp => ?_)
    · obtain ⟨T, x, z, rfl, hT, rfl, hx, hz⟩ := y
      have hi' : i < t.rl.length := by rw [hrn] at hi; exact hi
      have hx' : (refsR t.rl)[i]? = some x := hx
      have hz' : (intsA t a)[i]? = some z := hz
      obtain ⟨r, hr1, hri, en⟩ := lns_rule hi'
      rw [refsR, List.getElem?_map, hri] at hx'
      obtain rfl : V.ref r.1 = x := Option.some.inj hx'
      rw [intsA, List.getElem?_map, List.getElem?_range hi'] at hz'
      obtain rfl : V.int (a i) = z := Option.some.inj hz'
      obtain ⟨s5, hd5, w3, w4, w6, w7, w8, w9, w10, w11, rfl⟩ := pp
      have s6 := s5.trans (Same.new (o := .tup [.ref r.1, .int (a i)]) hT)
      have hd6 : upd H5 T (.tup [.ref r.1, .int (a i)]) dS = some (.dK (oldK t.ss (sumsR t a i))) := (Same.new hT) _ _ hd5
      have htr : SqT K (upd H5 T (.tup [.ref r.1, .int (a i)])) r.1 (ruleVs r.2) := SqT.of (s6 _ _ (etup r hr1))
      refine ⟨T, _, rfl, SqT.of upd_same, rfl, _, _, rfl, ⟨r.1, _, rfl, htr, rfl, _, _, rfl, _, _, rfl, _, _, rfl, rfl, ?_⟩⟩
      refine ⟨_, _, rfl, rfl, ?_⟩
      generalize upd H5 T (.tup [.ref r.1, .int (a i)]) = H6 at s6 hd6 htr ⊢
      refine ⟨_, rfl, _, rfl, _, rfl, by show 2 ≤ sizeLine; decide, fun t1 ht1 => ?_⟩
      refine ⟨_, rfl, _, rfl, by show 2 ≤ sizeLine; decide, fun t2 ht2 => ⟨by show 2 ≤ sizeLine; decide, fun t3 ht3 => ?_⟩⟩
      let val : Nat → Str → Int := fun j => match j with
        | 0 => sumsR t a i
        | 1 => fun n => sumsR t a i n + ind r.2.1 n * (-(a i))
        | _ => fun n => (sumsR t a i n + ind r.2.1 n * (-(a i))) + ind r.2.2.1 n * a i
      have hval2 : val 2 = sumsR t a (i + 1) := by
        funext n
        show (sumsR t a i n + ind r.2.1 n * (-(a i))) + ind r.2.2.1 n * a i = sumsR t a i n + (ind (hiR t i) n - ind (loR t i) n) * a i
        unfold hiR loR
        rw [hri, Int.sub_mul, Int.mul_neg]
        show _ = sumsR t a i n + (ind r.2.2.1 n * a i - ind r.2.1 n * a i)
        omega
      have s7 : Same H6 (upd (upd (upd H6 t1 (.tup [ndV r.2.1, .int (-(a i))])) t2 (.tup [ndV r.2.2.1, .int (a i)])) t3 (.tup [.ref t1, .ref t2])) := ((Same.new ht1).trans (Same.new ht2)).trans (Same.new ht3)
      have n12 : t1 ≠ t2 := fun e => by rw [← e, upd_same] at ht2; cases ht2
      have n13 : t1 ≠ t3 := fun e => by rw [← e, upd_ne n12, upd_same] at ht3; cases ht3
      have n23 : t2 ≠ t3 := fun e => by rw [← e, upd_same] at ht3; cases ht3
      have hh1 : (upd (upd (upd H6 t1 (.tup [ndV r.2.1, .int (-(a i))])) t2 (.tup [ndV r.2.2.1, .int (a i)])) t3 (.tup [.ref t1, .ref t2])) t1 = some (.tup [ndV r.2.1, .int (-(a i))]) := by rw [upd_ne n13, upd_ne n12, upd_same]
      have hh2 : (upd (upd (upd H6 t1 (.tup [ndV r.2.1, .int (-(a i))])) t2 (.tup [ndV r.2.2.1, .int (a i)])) t3 (.tup [.ref t1, .ref t2])) t2 = some (.tup [ndV r.2.2.1, .int (a i)]) := by rw [upd_ne n23, upd_same]
      have hh3 : (upd (upd (upd H6 t1 (.tup [ndV r.2.1, .int (-(a i))])) t2 (.tup [ndV r.2.2.1, .int (a i)])) t3 (.tup [.ref t1, .ref t2])) t3 = some (.tup [.ref t1, .ref t2]) := upd_same
      have hd7 := s7 _ _ hd6
      have s67 := s6.trans s7
      generalize (upd (upd (upd H6 t1 (.tup [ndV r.2.1, .int (-(a i))])) t2 (.tup [ndV r.2.2.1, .int (a i)])) t3 (.tup [.ref t1, .ref t2])) = H7 at s7 hh1 hh2 hh3 hd7 s67 ⊢
      have n1S : t1 ≠ dS := ne_of hh1 hd7 (fun z => nomatch z)
      have n2S : t2 ≠ dS := ne_of hh2 hd7 (fun z => nomatch z)
      have n3S : t3 ≠ dS := ne_of hh3 hd7 (fun z => nomatch z)
      let Iv : Nat → L2.St → Hp → Prop := fun j σ H' => (∀ y u, y ≠ dS → H7 y = some u → H' y = some u) ∧ H' dS = some (.dK (oldK t.ss (val j))) ∧ ∃ v4 v9 v10 v11, σ = [some (.ref tk), some (.ref p), some (.ref ga), some (.int (a i)), v4, some (.ref dS), some (ndV r.2.1), some (ndV r.2.2.1), some (.int r.2.2.2), v9, v10, v11]
      refine ⟨t3, rfl, ⟨_, SqT.of hh3⟩, for_it (n := 2) (walk_tup (K := K) (a := t3) (xs := [.ref t1, .ref t2])) Iv ⟨fun _ _ _ e => e, hd7, _, _, _, _, rfl⟩ (fun _ _ _ _ p' => SqT.of (p'.1 _ _ n3S hh3)) (fun j v σ H8 H8' hj pp y => ?_) (fun σ H8 pp => ?_)⟩
      · obtain ⟨rfl, hv⟩ := y
        obtain ⟨k8, hd8, w4, w9, w10, w11, rfl⟩ := pp
        -- the item, uniform
        obtain ⟨tj, vj, cj, rfl, htj, hvj, hstep⟩ : ∃ tj vj cj, v = .ref tj ∧ H8' tj = some (.tup [ndV vj, .int cj]) ∧ (∀ z, vj = some z → z ∈ t.ss) ∧ val (j + 1) = fun n => val j n + ind vj n * cj := by
          match j, hj, hv with
          | 0, _, hv => cases hv; exact ⟨t1, r.2.1, -(a i), rfl, k8 _ _ n1S hh1, (tok.ends r hr1).1, rfl⟩
          | 1, _, hv => cases hv; exact ⟨t2, r.2.2.1, a i, rfl, k8 _ _ n2S hh2, (tok.ends r hr1).2, rfl⟩
        refine ⟨tj, _, rfl, SqT.of htj, rfl, _, _, rfl, _, _, rfl, rfl, ?_⟩
        cases vj with
        | none =>
          refine ⟨_, rfl, _, rfl, iteF ⟨k8, ?_, _, _, _, _, rfl⟩⟩
          have : val (j + 1) = val j := by
            rw [hstep]; funext n
            show val j n + ind none n * cj = val j n
            unfold ind
            rw [if_neg (fun z => nomatch z), Int.zero_mul, Int.add_zero]
          rw [this]; exact hd8
        | some z =>
          have hz := hvj z rfl
          have dg : DGet H8' dS (.str z) (some (.int (val j z))) := by
            have := DGet.k (k := Sum.inr z) hd8
            rw [valV_old tok.nd] at this
            unfold oldF at this
            rw [if_pos hz] at this
            exact this
          refine ⟨_, rfl, _, rfl, iteT ⟨_, rfl, _, rfl, dS, _, rfl, dg, _, rfl, _, _, rfl, rfl, _, DPut.k (k := Sum.inr z) hd8 (by rw [oldK, List.length_map, sizeLine_eq]; omega), fun y u hy e => (upd_ne hy).trans (k8 y u hy e), ?_, _, _, _, _, rfl⟩⟩
          rw [upd_same, oldK_put tok.nd hz, step_sum, ← hstep]
      · obtain ⟨k8, hd8, w4, w9, w10, w11, rfl⟩ := pp
        refine ⟨fun y u e => k8 _ _ (fun z => by rw [z, hdSH] at e; cases e) (s67 _ _ e), ?_, _, _, _, _, _, _, _, _, rfl⟩
        have : val [V.ref t1, V.ref t2].length = sumsR t a (i + 1) := hval2
        rw [← this]; exact hd8
    · obtain ⟨s5, hd5, w3, w4, w6, w7, w8, w9, w10, w11, rfl⟩ := pp
      rw [hrn] at hd5
      refine ⟨dS, _, hd5, True.intro, fun o2 => ?_⟩
      have hls : (oldK t.ss (sumsR t a t.rl.length)).length = t.ss.length := List.length_map ..
      have hfz2 : upd H5 dS (.frz o2 (.dK (oldK t.ss (sumsR t a t.rl.length)))) dS = some (.frz o2 (.dK (oldK t.ss (sumsR t a t.rl.length)))) := upd_same
      have sF : Same H (upd H5 dS (.frz o2 (.dK (oldK t.ss (sumsR t a t.rl.length))))) := fun y u e => by
        rw [upd_ne (fun z => by rw [z, hdSH] at e; cases e)]; exact s5 _ _ e
      generalize hHl : upd H5 dS (.frz o2 (.dK (oldK t.ss (sumsR t a t.rl.length)))) = Hl at sF hfz2 ⊢
      let Qv : Nat → L2.St → Hp → Prop := fun j σ H' => Same Hl H' ∧ ∃ v3 v4 v6 v7 v8 v9 v10 v11, σ = [some (.ref tk), some (.ref p), some (.ref ga), v3, v4, some (.ref dS), v6, v7, v8, v9, v10, v11]
      have wk2 : Walk (Itk dS o2 (oldK t.ss (sumsR t a t.rl.length))) t.ss.length (fun H => H dS = some (.frz o2 (.dK (oldK t.ss (sumsR t a t.rl.length))))) (fun i H x H' => H' = H ∧ ∃ k v, (oldK t.ss (sumsR t a t.rl.length))[i]? = some (k, v) ∧ x = kV k) := by
        have := walk_keys (d := dS) (o := o2) (kvs := oldK t.ss (sumsR t a t.rl.length))
        rw [hls] at this; exact this
      refine ⟨_, rfl, dS, o2, rfl, .inl ⟨_, hfz2, for_it wk2 Qv ⟨Same.refl, _, _, _, _, _, _, _, _, rfl⟩ (fun _ _ _ _ p' => p'.1 _ _ hfz2) (fun j v σ H8 H8' hj pp y => ?_) (fun σ H8 pp => ?_)⟩⟩
      · obtain ⟨rfl, kk, vv, hkv, rfl⟩ := y
        rw [oldK, List.getElem?_map, List.getElem?_eq_getElem hj] at hkv
        cases hkv
        obtain ⟨s8, u3, u4, u6, u7, u8, u9, u10, u11, rfl⟩ := pp
        have hn : t.ss[j] ∈ t.ss := List.getElem_mem hj
        generalize t.ss[j] = n at hn ⊢
        have s08 := sF.trans s8
        have ta8 := ta.same s08
        obtain ⟨d1, g1, o1, x1, x2, x3⟩ := id ta8.pr
        refine ⟨_, rfl, tk, dtk, _, rfl, s08 _ _ htk, rfl, _, rfl, tk, t, sy, pr, od, some n, rfl, ta8.p, _, rfl, ?_⟩
        cases hf : t.firm (some n) with
        | true => exact iteF ⟨s8, _, _, _, _, _, _, _, _, rfl⟩
        | false =>
          refine iteT ?_
          refine ⟨_, rfl, tk, dtk, _, rfl, s08 _ _ htk, tk, t, sy, pr, od, rfl, ta8.p, pr, d1, _, rfl, x1, rfl, _, rfl, pr, t.up, t.lo, t.own, n, rfl, ta8.pr, fun pq hpq => ?_⟩
          rw [t.own1_val pre.pr hf, t.own1_val pre.pr hf]
          refine ⟨pq, _, rfl, SqT.of upd_same, rfl, _, _, rfl, _, _, rfl, rfl, ?_⟩
          have s9 := s8.trans (Same.new (o := .tup [.int (t.own1 n t.up), .int (t.own1 n t.lo)]) hpq)
          have hfz9 := s9 _ _ hfz2
          obtain ⟨b1, b2⟩ := sums_ok tok pre.pr I hf
          have dg : DGet (upd H8' pq (.tup [.int (t.own1 n t.up), .int (t.own1 n t.lo)])) dS (.str n) (some (.int (sumsR t a t.rl.length n))) := by
            refine .inl ⟨_, Sum.inr n, .inr ⟨o2, hfz9⟩, rfl, ?_⟩
            rw [valV_old tok.nd]
            unfold oldF
            rw [if_pos hn]; rfl
          refine ⟨_, rfl, _, rfl, _, rfl, _, rfl, dS, _, rfl, dg, _, _, rfl, rfl, true, ?_, ?_⟩
          · show V.bl (decide (-(t.prL n) ≤ sumsR t a t.rl.length n)) = V.bl true
            rw [decide_eq_true b1]
          refine iteT ⟨_, rfl, _, _, rfl, rfl, true, ?_, iteF ⟨s9, _, _, _, _, _, _, _, _, rfl⟩⟩
          show V.bl (decide (sumsR t a t.rl.length n ≤ t.prU n)) = V.bl true
          rw [decide_eq_true b2]
      · obtain ⟨s8, u3, u4, u6, u7, u8, u9, u10, u11, rfl⟩ := pp
        refine ⟨s8 _ _ hfz2, q _ fun y u e => ?_⟩
        rw [upd_ne (fun z => by rw [z, hdSH] at e; cases e)]
        exact s8 _ _ (sF _ _ e)
end
end Ws
end
section
/-! A block cut behind a statement: what holds there is said once. -/
namespace Ws
open PySem PySem.Spec PyProof.Rows L2
def tCut (t u : TS) : TS := fun D σ H => ∃ M : L2.St → Hp → Prop, t { D with nx := M } σ H ∧ ∀ σ' H', M σ' H' → u D σ' H'
theorem pss_cut {X : Cx} {st : Stmt} {rest : List Stmt} {t u : TS} (h1 : PS X st t) (h2 : PSs X rest u) : PSs X (st :: rest) (tCut t u) := by
  refine ⟨fun pins s σ H D I h => ?_⟩
  obtain ⟨M, h, hM⟩ := h
  refine wpAny_execs_cons (thn (h1.run pins s σ H { D with nx := M } I h) fun f s1 q => ?_)
  cases f with
  | next =>
    obtain ⟨σ', H', I', q⟩ := q
    exact h2.run pins s1 σ' H' D I' (hM σ' H' q)
  | ret v => exact q
  | brk => exact q
  | cont => exact q
end Ws
end
section
/-! The law's draws. -/
namespace Ws
open PySem PySem.Spec PyProof.Rows L2
abbrev sPen : Stmt := top 50
abbrev sNext : Stmt := top 51
abbrev sDraw : Stmt := top 52
/-- a pen: its cells, how many were taken, what remains; n more may be taken -/
def Pen (H : Hp) (pa sa : Addr) (n : Nat) : Prop := ∃ (ms : List Int) (i k : Int), H pa = some (.lst [.ref sa, .int i, .int k]) ∧ H sa = some (.lst (ms.map V.int)) ∧ ms.length ≤ 60 ∧ 0 ≤ i ∧ i + n ≤ 100000 ∧ 0 ≤ k
theorem Pen.less {H : Hp} {pa sa : Addr} {n m : Nat} (p : Pen H pa sa n) (h : m ≤ n) : Pen H pa sa m := by
  obtain ⟨ms, i, k, h1, h2, h3, h4, h5, h6⟩ := p
  exact ⟨ms, i, k, h1, h2, h3, h4, by omega, h6⟩
theorem Pen.ne {H : Hp} {pa sa : Addr} {n : Nat} (p : Pen H pa sa n) : sa ≠ pa := fun e => by
  obtain ⟨ms, i, k, h1, h2, _⟩ := p
  rw [e, h1] at h2
  have := HO.lst.inj (Option.some.inj h2)
  cases ms <;> cases this
theorem Pen.same {H H' : Hp} {pa sa : Addr} {n : Nat} (p : Pen H pa sa n) (s : Same H H') : Pen H' pa sa n := by
  obtain ⟨ms, i, k, h1, h2, h3⟩ := p
  exact ⟨ms, i, k, s _ _ h1, s _ _ h2, h3⟩
theorem But1.refl {x : Addr} {H : Hp} : But1 x H H := fun _ _ _ e => e
theorem But1.trans {x : Addr} {H H1 H2 : Hp} (a : But1 x H H1) (b : But1 x H1 H2) : But1 x H H2 := fun y u h e => b y u h (a y u h e)
theorem Same.but {x : Addr} {H H1 : Hp} (a : Same H H1) : But1 x H H1 := fun y u _ e => a y u e
theorem But1.at {x : Addr} {o : HO} {H : Hp} : But1 x H (upd H x o) := fun y u h e => by rw [upd_ne h]; exact e
theorem ints_data {K : PySem.W.Frag} {H : Hp} : ∀ ms : List Int, L2.DpAll K H (ms.map V.int) (ms.map PyData.int)
  | [] => .nil
  | i :: r => .cons (.int i) (ints_data r)
theorem lay_ints : ∀ ms : List Int, PyData.canLayAll0 (ms.map PyData.int) = true ∧ PyData.depthAll (ms.map PyData.int) = 0
  | [] => ⟨rfl, rfl⟩
  | i :: r => by
    obtain ⟨h1, h2⟩ := lay_ints r
    refine ⟨by rw [List.map_cons, PyData.canLayAll0, h1]; rfl, ?_⟩
    rw [List.map_cons, PyData.depthAll, h2]; rfl
theorem shaped_ints (ms : List Int) : SeqAt.shaped (.list (ms.map PyData.int)) = true := by
  obtain ⟨h1, h2⟩ := lay_ints ms
  unfold SeqAt.shaped
  rw [PyData.canLay0, h1, PyData.depth, h2]
  rfl
theorem eqv_ints (ms : List Int) : PyData.eqv (.list (ms.map PyData.int)) (.list []) = decide (ms = []) := by
  cases ms with
  | nil => rfl
  | cons v r => rfl
theorem at_in {xs : List V} {j : Int} (h0 : 0 ≤ j) (h1 : j < (xs.length : Nat)) : ∃ (k : Nat) (v : V), (k : Int) = j ∧ xs[k]? = some v ∧ atI xs j = some v := by
  have hk : j.toNat < xs.length := by omega
  refine ⟨j.toNat, xs[j.toNat], Int.toNat_of_nonneg h0, List.getElem?_eq_getElem hk, ?_⟩
  have := atI_nat (List.getElem?_eq_getElem hk)
  rw [Int.toNat_of_nonneg h0] at this
  exact this
theorem at_int {ms : List Int} {j : Int} (h0 : 0 ≤ j) (h1 : j < (ms.length : Nat)) : ∃ v : Int, v ∈ ms ∧ atI (ms.map V.int) j = some (.int v) := by
  obtain ⟨k, v, _, hv, ha⟩ := at_in (xs := ms.map V.int) h0 (by rw [List.length_map]; exact h1)
  rw [List.getElem?_map] at hv
  obtain ⟨x, hx, rfl⟩ := Option.map_eq_some_iff.mp hv
  exact ⟨x, List.mem_of_getElem? hx, ha⟩
def spPen (K : PySem.W.Frag) : Sp := fun vs H Q _ => ∃ s, ∃ ns : List Int, vs = [.ref s] ∧ SqL K H s (ns.map V.int) ∧ ∀ H' p sa, Same H H' → Pen H' p sa 100000 → H p = none → H sa = none → Q (.ref p) H'
def spNext : Sp := fun vs H Q _ => ∃ pa sa, ∃ ms : List Int, ∃ i k : Int, vs = [.ref pa] ∧ H pa = some (.lst [.ref sa, .int i, .int k]) ∧ H sa = some (.lst (ms.map V.int)) ∧ ms.length ≤ 60 ∧ 0 ≤ i ∧ i ≤ 100000 ∧ ∀ x H', 0 ≤ x → Same (upd H pa (.lst [.ref sa, .int (i + 1), .int k])) H' → Q (.int x) H'
def spDraw : Sp := fun vs H Q _ => ∃ pa sa n u, vs = [.ref pa, .int u] ∧ Pen H pa sa (n + 1) ∧ 0 < u ∧ u < 1073741824 ∧ ∀ d H', 0 ≤ d → d < u → But1 pa H H' → Pen H' pa sa n → Q (.int d) H'
section
variable {P : Program} {w : World} {K : PySem.W.Frag} {mg : Str → Option Value} {base : Heap} {f : Addr} {fd : FuncData}
theorem sc_pen : FnScope ["_law_script"] ["_law_script"] (defScope sPen) := ⟨rfl, rfl, rfl, by decide +kernel, rfl, by decide +kernel, by decide +kernel⟩
theorem ok_pen (F : Fun K "_law_pen" "_law_pen" sPen f fd) (g : Gm mg) : FnOk P w K mg base CX0 1 f fd ["_law_script"] (spPen K) := by
  refine F.ok sc_pen (fun vs H Q E h => ?_) (fun cdv A outer s H vs Q E hr h => ?_)
  · obtain ⟨s, ns, rfl, _⟩ := h
    rfl
  · obtain ⟨s, ns, rfl, hs, q⟩ := h
    refine ⟨_, pss_one (ps_ret (pe_lst (pa_cons (pe_callTy call_list_of rfl g.list boot_list (pa_cons (pe_slice sl_list (pv 0) po_none (po_some pe_int)) pa_nil)) (pa_cons pe_int (pa_cons pe_int pa_nil))))), ?_⟩
    refine ⟨_, rfl, _, rfl, s, _, rfl, hs, fun p hp => ?_⟩
    have ec : cutV (ns.map V.int) none (some 60) = (ns.take 60).map V.int := by
      unfold cutV
      have h1 : HT.sIx (ns.map V.int).length 0 none = 0 := rfl
      have h2 : HT.sIx (ns.map V.int).length (ns.map V.int).length (some ((60 : Nat) : Int)) = min 60 (ns.map V.int).length := HT.sIx_nat _ _ _
      rw [h1, show (some (60 : Int)) = some ((60 : Nat) : Int) from rfl, h2, List.drop_zero, Nat.sub_zero, ← List.map_take, List.length_map]
      congr 1
      rw [List.take_eq_take_iff]
      omega
    have hlen : (ns.take 60).length ≤ 60 := by rw [List.length_take]; omega
    rw [ec]
    generalize ns.take 60 = ms at hlen
    refine ⟨p, _, rfl, .inl (SqL.of upd_same), fun l hl => ⟨by show 3 ≤ sizeLine; decide, fun a ha => ?_⟩⟩
    have s1 : Same H (upd (upd (upd H p (.lst (ms.map V.int))) l (.lst (ms.map V.int))) a (.lst [.ref l, .int 0, .int 0])) := ((Same.new hp).trans (Same.new hl)).trans (Same.new ha)
    have nla : l ≠ a := fun e => by rw [← e, upd_same] at ha; cases ha
    refine q _ a l s1 ⟨ms, 0, 0, upd_same, (upd_ne nla).trans upd_same, hlen, Int.le_refl _, by decide, Int.le_refl _⟩ ?_ ?_
    · cases e : H a with
      | none => rfl
      | some u => rw [((Same.new hp).trans (Same.new hl)) _ _ e] at ha; cases ha
    · cases e : H l with
      | none => rfl
      | some u => rw [(Same.new hp) _ _ e] at hl; cases hl
abbrev nNx : List Str := ["_law_pen_here", "_law_index", "_law_cell", "_law_some_here", "_law_more", "_law_top"]
theorem sc_next : FnScope nNx ["_law_pen_here"] (defScope sNext) := ⟨rfl, rfl, rfl, by decide +kernel, rfl, by decide +kernel, by decide +kernel⟩
theorem ok_next (F : Fun K "_law_next" "_law_next" sNext f fd) (g : Gm mg) : FnOk P w K mg base CX0 1 f fd ["_law_pen_here"] spNext := by
  refine F.ok sc_next (fun vs H Q E h => ?_) (fun cdv A outer s H vs Q E hr h => ?_)
  · obtain ⟨pa, sa, ms, i, k, rfl, _⟩ := h
    rfl
  · obtain ⟨pa, sa, ms, i, k, rfl, h1, h2, h3, h4, h5, q⟩ := h
    have nd := sc_next.nd
    refine ⟨_, (pss_cons (ps_set (i := 1) nd rfl (Or.inl rfl) (pe_ix ix_list (pv 0) pe_int (fun _ _ => rfl)))
      (pss_cons (ps_asg (pe_add (pv 1) pe_int) (pg_sub (pv 0) pe_int set_list))
      (pss_cons (ps_set (i := 2) nd rfl (Or.inl rfl) (pe_add (pe_op op_mul (pv 1) pe_int) pe_int))
      (pss_cut (ps_if (pt_cmpR (op_neD hr.units) (pe_ix ix_list (pv 0) pe_int (fun _ _ => rfl)) (pe_lst pa_nil) (nomark _)) (pss_one (ps_set (i := 2) nd rfl (Or.inl rfl) (pe_ix ix_list (pe_ix ix_list (pv 0) pe_int (fun _ _ => rfl)) (pe_op op_mod (pv 1) (pe_callB call_len rfl g.len boot_len (pa_cons (pe_ix ix_list (pv 0) pe_int (fun _ _ => rfl)) pa_nil))) (fun _ _ => rfl)))) pss_nil)
      (pss_cut (ps_if (PW.pt (pw_and (pt_cmpR op_lt (pv 1) (pe_callB call_len rfl g.len boot_len (pa_cons (pe_ix ix_list (pv 0) pe_int (fun _ _ => rfl)) pa_nil)) (nomark _)) (pw_and1 (pt_cmpR op_ge (pv 2) (pe_op op_pow pe_int pe_int) (nomark _))))) (pss_one (ps_ret (pv 2))) pss_nil)
      (pss_cons (ps_set (i := 3) nd rfl (Or.inl rfl) (pe_op op_mod (pe_add (pe_add (pe_op op_mod (pv 2) pe_int) (pe_op op_mul (pv 1) pe_int)) pe_int) pe_int))
      (pss_cons (ps_set (i := 4) nd rfl (Or.inl rfl) (pe_op op_mod (pe_add (pe_add (pe_op op_mul (pv 3) (pv 3)) (pe_op op_mul (pv 1) pe_int)) pe_int) pe_int))
      (pss_cons (ps_set (i := 5) nd rfl (Or.inl rfl) (pe_op op_mod (pe_add (pe_add (pe_op op_mul (pv 4) (pv 4)) (pv 3)) (pe_op op_mul (pe_op op_mul (pv 1) (pv 1)) pe_int)) pe_int))
      (pss_one (ps_ret (pe_add (pe_op op_mul (pe_add (pe_op op_mul (pv 5) pe_int) (pv 4)) pe_int) (pv 3)))))))))))), ?_⟩
    have nsp : sa ≠ pa := fun e => by
      rw [e, h1] at h2
      have := HO.lst.inj (Option.some.inj h2)
      cases ms <;> cases this
    refine ⟨_, rfl, pa, _, _, _, rfl, rfl, SqL.of h1, rfl, ?_⟩
    refine ⟨_, rfl, _, _, rfl, rfl, _, rfl, pa, _, _, 1, rfl, rfl, h1, rfl, ?_⟩
    have e2 : upd H pa (.lst ([V.ref sa, V.int i, V.int k].set 1 (.int (i + 1)))) = upd H pa (.lst [.ref sa, .int (i + 1), .int k]) := rfl
    rw [e2]
    have g0 : (upd H pa (.lst [.ref sa, .int (i + 1), .int k])) pa = some (.lst [.ref sa, .int (i + 1), .int k]) := upd_same
    have g2 : (upd H pa (.lst [.ref sa, .int (i + 1), .int k])) sa = some (.lst (ms.map V.int)) := (upd_ne nsp).trans h2
    have done : ∀ x H', 0 ≤ x → Same (upd H pa (.lst [.ref sa, .int (i + 1), .int k])) H' → Q (.int x) H' := q
    generalize upd H pa (.lst [.ref sa, .int (i + 1), .int k]) = H1 at g0 g2 done ⊢
    have mi : ∀ j : Int, -(2 ^ 64) < j → j < 2 ^ 64 → CMul i j := fun j a b => .inr ⟨a, b⟩
    refine ⟨_, rfl, _, _, rfl, rfl, .inr ⟨by decide, by decide⟩, _, _, rfl, rfl, ?_⟩
    refine ⟨fun σ H2 => Same H1 H2 ∧ ∃ c : Int, σ = [some (.ref pa), some (.int i), some (.int c), none, none, none], ?_, ?_⟩
    · refine ⟨_, rfl, pa, _, _, _, rfl, rfl, SqL.of g0, rfl, Nat.zero_le _, fun le hle => ⟨.list (ms.map PyData.int), .list [], .lst (SqL.of (by rw [upd_ne (ne_of_none g2 hle)]; exact g2)) (ints_data ms), .lst (SqL.of upd_same) .nil, shaped_ints ms, rfl, _, rfl, ?_⟩⟩
      rw [eqv_ints]
      have s1 : Same H1 (upd H1 le (.lst [])) := Same.new hle
      by_cases hm : ms = []
      · rw [decide_eq_true hm]
        exact iteF ⟨s1, _, rfl⟩
      · rw [decide_eq_false hm]
        refine iteT ?_
        have hl0 : 0 < ms.length := List.length_pos_iff.mpr hm
        have g1' : SqL K (upd H1 le (.lst [])) pa [.ref sa, .int (i + 1), .int k] := SqL.of (s1 _ _ g0)
        have g2' : SqL K (upd H1 le (.lst [])) sa (ms.map V.int) := SqL.of (s1 _ _ g2)
        have hn0 : (0 : Int) < (ms.length : Nat) := by omega
        have e1 := Int.emod_nonneg i (show ((ms.length : Nat) : Int) ≠ 0 by omega)
        have e3 := Int.emod_lt_of_pos i hn0
        obtain ⟨v, _, hv⟩ := at_int e1 e3
        refine ⟨_, rfl, pa, _, _, _, rfl, rfl, g1', rfl, _, rfl, _, rfl, pa, _, _, _, rfl, rfl, g1', rfl, _, _, rfl, .inl ⟨_, g2', rfl⟩, _, _, rfl, rfl, ?_, ?_⟩
        · rw [List.length_map]; exact hn0
        · rw [List.length_map]
          exact ⟨sa, _, i % (ms.length : Nat), .int v, rfl, rfl, g2', hv, s1, _, rfl⟩
    · rintro σ' H2 ⟨s2, c, rfl⟩
      have g1' : SqL K H2 pa [.ref sa, .int (i + 1), .int k] := SqL.of (s2 _ _ g0)
      have g2' : SqL K H2 sa (ms.map V.int) := SqL.of (s2 _ _ g2)
      refine ⟨fun σ H2 => Same H1 H2 ∧ σ = [some (.ref pa), some (.int i), some (.int c), none, none, none], ?_, ?_⟩
      · refine ⟨_, rfl, _, rfl, pa, _, _, _, rfl, rfl, g1', rfl, _, _, rfl, .inl ⟨_, g2', rfl⟩, _, _, rfl, rfl, _, rfl, ?_⟩
        rw [List.length_map]
        by_cases hb : i < (ms.length : Nat)
        · refine iteD hb ⟨_, rfl, _, _, rfl, rfl, ⟨by decide, by decide, by decide⟩, _, _, rfl, rfl, _, rfl, ?_⟩
          by_cases hc : (10 : Int) ^ (18 : Int).toNat ≤ c
          · exact iteD hc ⟨_, rfl, done c H2 (Int.le_trans (by decide) hc) s2⟩
          · exact iteDF hc ⟨s2, rfl⟩
        · exact iteDF hb (iteF ⟨s2, rfl⟩)
      · rintro σ' H3 ⟨s3, rfl⟩
        have b1 : ∀ x m : Int, 0 < m → 0 ≤ x % m ∧ x % m < m := fun x m h => ⟨Int.emod_nonneg x (by omega), Int.emod_lt_of_pos x h⟩
        refine ⟨_, rfl, _, _, rfl, rfl, (by show (0 : Int) < 2147483587; decide), _, rfl, _, _, rfl, rfl, .inr ⟨by decide, by decide⟩, _, _, rfl, rfl, _, _, rfl, rfl, _, _, rfl, rfl, (by show (0 : Int) < 2147483587; decide), ?_⟩
        obtain ⟨a1, a2⟩ := b1 (c % 2147483587 + i * 50069 + 61) 2147483587 (by decide)
        generalize (c % 2147483587 + i * 50069 + 61) % 2147483587 = x at a1 a2 ⊢
        refine ⟨_, rfl, _, rfl, _, _, rfl, rfl, .inl ⟨by omega, by omega⟩, _, rfl, _, _, rfl, rfl, .inr ⟨by decide, by decide⟩, _, _, rfl, rfl, _, _, rfl, rfl, _, _, rfl, rfl, (by show (0 : Int) < 2147483563; decide), ?_⟩
        obtain ⟨a3, a4⟩ := b1 (x * x + i * 40013 + 43) 2147483563 (by decide)
        generalize (x * x + i * 40013 + 43) % 2147483563 = y at a3 a4 ⊢
        refine ⟨_, rfl, _, rfl, _, _, rfl, rfl, .inl ⟨by omega, by omega⟩, _, rfl, _, _, rfl, rfl, _, rfl, _, rfl, _, _, rfl, rfl, .inl ⟨by omega, by omega⟩, _, _, rfl, rfl, .inr ⟨by decide, by decide⟩, _, _, rfl, rfl, _, _, rfl, rfl, (by show (0 : Int) < 2147483549; decide), ?_⟩
        obtain ⟨a5, a6⟩ := b1 (y * y + x + i * i * 19) 2147483549 (by decide)
        generalize (y * y + x + i * i * 19) % 2147483549 = z at a5 a6 ⊢
        refine ⟨_, rfl, _, _, rfl, rfl, .inr ⟨by decide, by decide⟩, _, rfl, _, _, rfl, rfl, _, _, rfl, rfl, .inr ⟨by decide, by decide⟩, _, rfl, _, _, rfl, rfl, done _ H3 ?_ s3⟩
        have h1 : 0 ≤ z * 2147483587 := Int.mul_nonneg a5 (by decide)
        have h2 : 0 ≤ (z * 2147483587 + y) * 2147483563 := Int.mul_nonneg (by omega) (by decide)
        omega
theorem sc_draw : FnScope ["_law_pen_here", "_law_under", "_law_digit"] ["_law_pen_here", "_law_under"] (defScope sDraw) := ⟨rfl, rfl, rfl, by decide +kernel, rfl, by decide +kernel, by decide +kernel⟩
theorem ok_draw (F : Fun K "_law_draw" "_law_draw" sDraw f fd) (c1 : Cal P w K mg base 1 "_law_next" spNext) : FnOk P w K mg base CX0 2 f fd ["_law_pen_here", "_law_under"] spDraw := by
  refine F.ok sc_draw (fun vs H Q E h => ?_) (fun cdv A outer s H vs Q E hr h => ?_)
  · obtain ⟨pa, sa, n, u, rfl, _⟩ := h
    rfl
  · obtain ⟨pa, sa, n, u, rfl, ⟨ms, i, k, h1, h2, h3, h4, h5, h6⟩, hu0, hu1, q⟩ := h
    have nd := sc_draw.nd
    refine ⟨_, (pss_cut (ps_if (pt_cmpR op_lt (pe_ix ix_list (pv 0) pe_int (fun _ _ => rfl)) (pv 1) (nomark _)) (pss_one (ps_asg (pe_f (X := Cx.nox _) c1 hr (pa_cons (pv 0) pa_nil)) (pg_sub (pv 0) pe_int set_list))) pss_nil)
      (pss_cons (ps_set (i := 2) nd rfl (Or.inl rfl) (pe_op op_mod (pe_ix ix_list (pv 0) pe_int (fun _ _ => rfl)) (pv 1)))
      (pss_cons (ps_asg (pe_op op_fdiv (pe_ix ix_list (pv 0) pe_int (fun _ _ => rfl)) (pv 1)) (pg_sub (pv 0) pe_int set_list))
      (pss_one (ps_ret (pv 2)))))), ?_⟩
    have nsp : sa ≠ pa := fun e => by
      rw [e, h1] at h2
      have := HO.lst.inj (Option.some.inj h2)
      cases ms <;> cases this
    refine ⟨fun σ H2 => σ = [some (.ref pa), some (.int u), none] ∧ But1 pa H H2 ∧ ∃ i' k', H2 pa = some (.lst [.ref sa, .int i', .int k']) ∧ 0 ≤ i' ∧ i' ≤ i + 1 ∧ 0 ≤ k', ?_, ?_⟩
    · refine ⟨_, rfl, pa, _, _, _, rfl, rfl, SqL.of h1, rfl, _, rfl, _, _, rfl, rfl, _, rfl, ?_⟩
      by_cases hb : k < u
      · refine iteD hb ⟨_, rfl, pa, sa, ms, i, k, rfl, h1, h2, h3, h4, by omega, fun x H1 hx s1 => ?_⟩
        have g0 := s1 _ _ upd_same
        refine ⟨_, rfl, pa, _, _, 2, rfl, rfl, g0, rfl, rfl, fun y v hy e => ?_, i + 1, x, upd_same, by omega, by omega, hx⟩
        rw [upd_ne hy]
        exact s1 _ _ (by rw [upd_ne hy]; exact e)
      · exact iteDF hb ⟨rfl, But1.refl, i, k, h1, h4, by omega, h6⟩
    · rintro σ' H2 ⟨rfl, b2, i', k', g1, g4, g5, g6⟩
      refine ⟨_, rfl, pa, _, _, _, rfl, rfl, SqL.of g1, rfl, _, rfl, _, _, rfl, rfl, hu0, ?_⟩
      refine ⟨_, rfl, pa, _, _, _, rfl, rfl, SqL.of g1, rfl, _, rfl, _, _, rfl, rfl, ⟨hu0, hu1⟩, _, rfl, pa, _, _, 2, rfl, rfl, g1, rfl, ?_⟩
      refine ⟨_, rfl, q _ _ (Int.emod_nonneg _ (by omega)) (Int.emod_lt_of_pos _ hu0) (b2.trans But1.at) ⟨ms, i', _, upd_same, (upd_ne nsp).trans (b2 _ _ nsp h2), h3, g4, by omega, ?_⟩⟩
      exact Int.ediv_nonneg g6 (by omega)
end
end Ws
end
section
/-! _law_some, _law_at, _law_short -/
namespace Ws
open PySem PySem.Spec PyProof.Rows L2
abbrev sSome : Stmt := top 53
abbrev sAt : Stmt := top 56
abbrev sLShort : Stmt := top 58
theorem seqIx {n : Nat} {i : Int} (h0 : 0 ≤ i) (h1 : i < (n : Nat)) : seqIndex? i n = some i.toNat := by
  have : ixN n i = some i.toNat := by
    unfold ixN
    rw [if_pos h0]
    rw [if_pos (by omega)]
  exact (ixN_seq this).1
theorem get_erase_perm {α : Type} : ∀ {l : List α} {k : Nat} (h : k < l.length), (l[k] :: l.eraseIdx k).Perm l
  | [], k, h => absurd h (Nat.not_lt_zero _)
  | x :: l, 0, _ => List.Perm.refl _
  | x :: l, k + 1, h => by
    have hk : k < l.length := Nat.lt_of_succ_lt_succ h
    have := get_erase_perm (l := l) (k := k) hk
    show (l[k] :: x :: l.eraseIdx k).Perm (x :: l)
    exact (List.Perm.swap x l[k] _).trans (this.cons x)
theorem map_erase {α β : Type} (f : α → β) : ∀ (l : List α) (k : Nat), (l.map f).eraseIdx k = (l.eraseIdx k).map f
  | [], k => by cases k <;> rfl
  | x :: l, 0 => rfl
  | x :: l, k + 1 => by
    show f x :: (l.map f).eraseIdx k = f x :: (l.eraseIdx k).map f
    rw [map_erase f l k]
theorem pop_perm {α : Type} {taken rem pool : List α} {k : Nat} {y : α} (h : (taken ++ rem).Perm pool) (hk : rem[k]? = some y) : ((taken ++ [y]) ++ rem.eraseIdx k).Perm pool := by
  obtain ⟨hl, e⟩ := List.getElem?_eq_some_iff.mp hk
  subst e
  refine List.Perm.trans ?_ h
  rw [List.append_assoc]
  exact (get_erase_perm hl).append_left taken
def spSome : Sp := fun vs H Q _ => ∃ pa sa pl, ∃ pool : List Str, ∃ most n : Nat, vs = [.ref pa, .ref pl, .int most] ∧ Pen H pa sa (n + 1 + most) ∧ H pl = some (.lst (pool.map V.str)) ∧ pool.Nodup ∧ pool.length ≤ 1000 ∧ most ≤ 1000 ∧
  ∀ H' p, ∀ xs : List Str, But1 pa H H' → Pen H' pa sa n → H' p = some (.lst (xs.map V.str)) → xs.Nodup → (∀ x ∈ xs, x ∈ pool) → xs.length ≤ most → Q (.ref p) H'
/-- the numbers at d -/
def spAt : Sp := fun vs H Q _ => ∃ d f v i, vs = [.ref d, ndV v] ∧ NumD H d f ∧ numAt f v = some i ∧ Q (.int i) H
def spLShort : Sp := fun vs H Q _ => ∃ d f r p i, vs = [.ref d, .ref p] ∧ NumD H d f ∧ H p = some (.tup (ruleVs r)) ∧ shortF f r = some i ∧ Q (.int i) H
section
variable {P : Program} {w : World} {K : PySem.W.Frag} {mg : Str → Option Value} {base : Heap} {f : Addr} {fd : FuncData}
theorem sc_at : FnScope ["_law_held", "_law_thing"] ["_law_held", "_law_thing"] (defScope sAt) := ⟨rfl, rfl, rfl, by decide +kernel, rfl, by decide +kernel, by decide +kernel⟩
theorem ok_at (F : Fun K "_law_at" "_law_at" sAt f fd) : FnOk P w K mg base CX0 1 f fd ["_law_held", "_law_thing"] spAt := by
  refine F.ok sc_at (fun vs H Q E h => ?_) (fun cdv A outer s H vs Q E hr h => ?_)
  · obtain ⟨d, f, v, i, rfl, _⟩ := h
    rfl
  · obtain ⟨d, f, v, i, rfl, ⟨kvs, hd, hv⟩, hi, k⟩ := h
    have hu := hu_of hr
    refine ⟨_, pss_one (ps_ret (pe_ifExp (pt_cmp (pc_isN (pv 1))) pe_int (pe_dget hu (pv 0) (pv 1) (fun _ _ => rfl)))), ?_⟩
    cases v with
    | none =>
      cases hi
      refine ⟨_, rfl, _, rfl, ?_⟩
      exact iteT k
    | some x =>
      refine ⟨_, rfl, _, rfl, ?_⟩
      refine iteF ?_
      refine ⟨_, rfl, _, rfl, d, .int i, rfl, ?_, k⟩
      have e := hv x
      rw [show f x = some i from hi] at e
      have := DGet.k (k := Sum.inr x) hd
      rw [e] at this
      exact this
theorem sc_lshort : FnScope ["_law_held", "_law_ask"] ["_law_held", "_law_ask"] (defScope sLShort) := ⟨rfl, rfl, rfl, by decide +kernel, rfl, by decide +kernel, by decide +kernel⟩
theorem ok_lshort (F : Fun K "_law_short" "_law_short" sLShort f fd) (c : Cal P w K mg base 1 "_law_at" spAt) : FnOk P w K mg base CX0 2 f fd ["_law_held", "_law_ask"] spLShort := by
  refine F.ok sc_lshort (fun vs H Q E h => ?_) (fun cdv A outer s H vs Q E hr h => ?_)
  · obtain ⟨d, f, r, p, i, rfl, _⟩ := h
    rfl
  · obtain ⟨d, f, r, p, i, rfl, n, hp, hi, k⟩ := h
    have hu := hu_of hr
    refine ⟨_, pss_one (ps_ret (pe_sub (pe_add (pe_f (X := Cx.nox _) c hr (pa_cons (pv 0) (pa_cons (pe_ix ix_tup (pv 1) pe_int (fun _ _ => rfl)) pa_nil))) (pe_ix ix_tup (pv 1) pe_int (fun _ _ => rfl)))
      (pe_f (X := Cx.nox _) c hr (pa_cons (pv 0) (pa_cons (pe_ix ix_tup (pv 1) pe_int (fun _ _ => rfl)) pa_nil))))), ?_⟩
    cases ha : numAt f r.1 with
    | none => rw [shortF, ha] at hi; cases hi
    | some a =>
      cases hb : numAt f r.2.1 with
      | none => rw [shortF, ha, hb] at hi; cases hi
      | some b =>
        rw [shortF, ha, hb] at hi
        cases hi
        have tp : SqT K H p (ruleVs r) := SqT.of hp
        refine ⟨_, rfl, _, rfl, p, _, _, _, rfl, rfl, tp, rfl, d, f, r.1, a, rfl, n, ha, ?_⟩
        refine ⟨_, rfl, p, _, _, _, rfl, rfl, tp, rfl, _, _, rfl, rfl, ?_⟩
        refine ⟨_, rfl, _, rfl, p, _, _, _, rfl, rfl, tp, rfl, d, f, r.2.1, b, rfl, n, hb, ?_⟩
        exact ⟨_, _, rfl, rfl, k⟩
abbrev nSo : List Str := ["_law_pen_here", "_law_pool", "_law_most", "_law_left", "_law_turn"]
theorem sc_some : FnScope nSo ["_law_pen_here", "_law_pool", "_law_most"] (defScope sSome) := ⟨rfl, rfl, rfl, by decide +kernel, rfl, by decide +kernel, by decide +kernel⟩
theorem ok_some (F : Fun K "_law_some" "_law_some" sSome f fd) (g : Gm mg) (c : Cal P w K mg base 2 "_law_draw" spDraw) : FnOk P w K mg base CX0 3 f fd ["_law_pen_here", "_law_pool", "_law_most"] spSome := by
  refine F.ok sc_some (fun vs H Q E h => ?_) (fun cdv A outer s H vs Q E hr h => ?_)
  · obtain ⟨pa, sa, pl, pool, most, n, rfl, _⟩ := h
    rfl
  · obtain ⟨pa, sa, pl, pool, most, n, rfl, hP, hpl, hnd, hpl1, hm1, q⟩ := h
    have nd := sc_some.nd
    refine ⟨_, (pss_cons (ps_set (i := 3) nd rfl (Or.inr rfl) (pe_callTy call_list_of rfl g.list boot_list (pa_cons (pv 1) pa_nil)))
      (pss_one (ps_ret (pe_lc (own := [("_law_turn", 4)]) (g := gName 4) (tt := tYes) (te := tBM K "list" rPopAt (tVar 3) (tCons (tCall spDraw [] E0 (tCons (tVar 0) (tCons (tCB (rLen K) (tCons (tVar 3) tNil)) tNil))) tNil)) rfl nd
        (pi_range1 rfl g.range (pa_cons (pe_f (X := Cx.nox _) c hr (pa_cons (pv 0) (pa_cons (pe_add (pe_callB (call_min2 rfl) rfl g.min (by decide +kernel) (pa_cons (pv 2) (pa_cons (pe_callB call_len rfl g.len boot_len (pa_cons (pv 3) pa_nil)) pa_nil))) pe_int) pa_nil))) pa_nil)) (blkOk_by (own := [("_law_turn", 4)]) (N := nSo) (sc := defScope sSome) (by decide +kernel))
        (fun _ _ _ _ _ => pg_name (i := 4) nd rfl (Or.inl rfl)) (fun _ _ _ _ _ => pts_nil) (fun _ _ _ _ _ => by exact pe_bm PySem.F.plainAttrs_list PySem.F.slot_list_pop PySem.F.type_list_pop mt_popAt (pv 3) (pa_cons (pe_f c hr (pa_cons (pv 0) (pa_cons (pe_callB call_len rfl g.len boot_len (pa_cons (pv 3) pa_nil)) pa_nil))) pa_nil)))))), ?_⟩
    refine ⟨_, rfl, pl, _, rfl, .inl (SqL.of hpl), fun lf hlf => ?_⟩
    have s1 : Same H (upd H lf (.lst (pool.map V.str))) := Same.new hlf
    have hlf1 : (upd H lf (.lst (pool.map V.str))) lf = some (.lst (pool.map V.str)) := upd_same
    have hP1 := hP.same s1
    generalize upd H lf (.lst (pool.map V.str)) = H1 at s1 hlf1 hP1 ⊢
    refine ⟨_, rfl, _, rfl, _, rfl, _, _, rfl, .inl ⟨_, SqL.of hlf1, rfl⟩, most, _, rfl, _, _, rfl, rfl, ?_⟩
    rw [List.length_map]
    refine ⟨pa, sa, n + most, _, rfl, hP1.less (by omega), ?_, ?_, fun d H2 hd0 hd1 b2 hP2 => ?_⟩
    · split <;> omega
    · split <;> omega
    have hd2 : d ≤ (most : Nat) ∧ d ≤ (pool.length : Nat) := by
      split at hd1 <;> constructor <;> omega
    have nlp : lf ≠ pa := fun e => by
      obtain ⟨ms, i, k, x1, _⟩ := hP1
      rw [← e, hlf1] at x1
      have := HO.lst.inj (Option.some.inj x1)
      cases pool with
      | nil => cases this
      | cons z r => cases this
    refine ⟨d, rfl, by omega, by omega, fun D hD => ?_⟩
    have hD1 : ∀ {y u}, H y = some u → y ≠ pa → y ≠ D := fun e h => ne_of_none (b2 _ _ h (s1 _ _ e)) hD
    have hlf2 := b2 _ _ nlp hlf1
    have nsl : sa ≠ lf := fun e => by
      obtain ⟨ms, i, k, _, x2, _⟩ := hP
      rw [e, hlf] at x2; cases x2
    have nsD : sa ≠ D := fun e => by
      obtain ⟨ms, i, k, _, x2, _⟩ := hP2
      rw [e, hD] at x2; cases x2
    refine lc_range (lo := 0) (n := d.toNat) (fun i H3 => (∀ y u, y ≠ pa → H y = some u → H3 y = some u) ∧ Pen H3 pa sa (n + most - i) ∧ ∃ taken rem : List Str, H3 D = some (.lst (taken.map V.str)) ∧ H3 lf = some (.lst (rem.map V.str)) ∧ taken.length = i ∧ rem.length = pool.length - i ∧ (taken ++ rem).Perm pool) ?_ (fun i H3 hi p => ?_) fun H3 p => ?_
    · refine ⟨fun y u h e => ?_, ?_, [], pool, upd_same, ?_, rfl, rfl, List.Perm.refl _⟩
      · rw [upd_ne (hD1 e h)]; exact b2 _ _ h (s1 _ _ e)
      · exact hP2.same (Same.new hD)
      · exact (upd_ne (ne_of_none hlf2 hD)).trans hlf2
    · obtain ⟨k3, hP3, taken, rem, hD3, hlf3, hlt, hlr, hperm⟩ := p
      refine ⟨rfl, tyes ?_⟩
      have hrem : 0 < rem.length := by omega
      refine ⟨_, rfl, .inl ⟨rfl, _, SqL.of hlf3⟩, _, rfl, _, rfl, _, _, rfl, .inl ⟨_, SqL.of hlf3, rfl⟩, pa, sa, n + most - (i + 1), _, rfl, hP3.less (by omega), ?_, ?_, fun e H4 he0 he1 b4 hP4 => ?_⟩
      · rw [List.length_map]; omega
      · rw [List.length_map]; omega
      rw [List.length_map] at he1
      have hlf4 := b4 _ _ nlp hlf3
      have nDp : D ≠ pa := fun z => by
        obtain ⟨ms, i, k, x1, _⟩ := hP3
        rw [← z, hD3] at x1
        have := HO.lst.inj (Option.some.inj x1)
        cases taken with
        | nil => cases this
        | cons z r => cases this
      have hD4 := b4 _ _ nDp hD3
      have hel : e.toNat < rem.length := by omega
      have nlD : lf ≠ D := ne_of_none hlf2 hD
      refine ⟨lf, _, e, e.toNat, .str rem[e.toNat], rfl, rfl, hlf4, by omega, by omega, by rw [List.length_map]; exact seqIx he0 (by omega), by rw [List.getElem?_map, List.getElem?_eq_getElem hel]; rfl, ?_⟩
      refine ⟨_, (upd_ne (Ne.symm nlD)).trans hD4, by rw [List.length_map, sizeLine_eq]; omega, fun y u h e' => ?_, ?_, taken ++ [rem[e.toNat]], rem.eraseIdx e.toNat, ?_, ?_, ?_, ?_, pop_perm hperm (List.getElem?_eq_getElem hel)⟩
      · rw [upd_ne (hD1 e' h), upd_ne (fun z => by rw [z, hlf] at e'; cases e')]
        exact b4 _ _ h (k3 _ _ h e')
      · obtain ⟨ms, i1, k1, x1, x2, x3⟩ := hP4
        exact ⟨ms, i1, k1, (upd_ne (Ne.symm nDp)).trans ((upd_ne (Ne.symm nlp)).trans x1), (upd_ne nsD).trans ((upd_ne nsl).trans x2), x3⟩
      · rw [upd_same, List.map_append]; rfl
      · rw [upd_ne nlD, upd_same, map_erase]
      · rw [List.length_append, hlt]; rfl
      · rw [List.length_eraseIdx_of_lt hel]; omega
    · obtain ⟨k3, hP3, taken, rem, hD3, hlf3, hlt, hlr, hperm⟩ := p
      have hnd2 : (taken ++ rem).Nodup := hperm.nodup_iff.mpr hnd
      refine q H3 D taken k3 (hP3.less (by omega)) hD3 (List.nodup_append.mp hnd2).1 (fun x hx => hperm.mem_iff.mp (List.mem_append_left _ hx)) (by omega)
end
end Ws
end
section
/-! _law_gaps -/
namespace Ws
open PySem PySem.Spec PyProof.Rows L2
abbrev sGaps : Stmt := top 57
abbrev Goal := Addr × (Str → Int)
/-- a rule that some numbers keep -/
structure GRule (names : List Str) (gs : List Goal) (r : Rule) : Prop where
  ne : r.1 ≠ r.2.1
  lo : ∀ z, r.1 = some z → z ∈ names
  hi : ∀ z, r.2.1 = some z → z ∈ names
  gap : -100 ≤ r.2.2 ∧ r.2.2 ≤ 100
  keep : ∀ g ∈ gs, r.2.2 ≤ xt g.2 r.2.1 - xt g.2 r.1
def spGaps : Sp := fun vs H Q _ => ∃ pa sa ny go, ∃ names : List Str, ∃ gs : List Goal, ∃ most n : Nat, vs = [.ref pa, .ref ny, .ref go, .int most] ∧ Pen H pa sa (n + 1 + 4 * most) ∧ H ny = some (.lst (names.map V.str)) ∧ names.Nodup ∧ names.length ≤ 50 ∧ (∀ x ∈ names, okN (some x)) ∧
  H go = some (.lst (gs.map fun g => V.ref g.1)) ∧ gs ≠ [] ∧ gs.length ≤ 50 ∧ (∀ g ∈ gs, H g.1 = some (.dK (oldK names g.2)) ∧ ∀ x ∈ names, 0 ≤ g.2 x ∧ g.2 x ≤ 3) ∧ most ≤ 100 ∧
  ∀ H' p rl, But1 pa H H' → Pen H' pa sa n → H' p = some (.lst (refsR rl)) → (∀ r ∈ rl, H' r.1 = some (.tup (ruleVs r.2)) ∧ GRule names gs r.2) → rl.length ≤ 2 * most → Q (.ref p) H'
theorem xt_small {names : List Str} {x : Str → Int} (h : ∀ n ∈ names, 0 ≤ x n ∧ x n ≤ 3) {v : Nd} (hv : ∀ z, v = some z → z ∈ names) : 0 ≤ xt x v ∧ xt x v ≤ 3 := by
  cases v with
  | none => show 0 ≤ (0 : Int) ∧ (0 : Int) ≤ 3; decide
  | some n => exact h n (hv n rfl)
theorem oldF_at {names : List Str} {x : Str → Int} {v : Nd} (hv : ∀ z, v = some z → z ∈ names) : numAt (oldF names x) v = some (xt x v) := by
  cases v with
  | none => rfl
  | some n => show oldF names x n = _; unfold oldF; rw [if_pos (hv n rfl)]; rfl
theorem things_in {ss : List Str} {v : Nd} (h : v ∈ things ss) : ∀ z, v = some z → z ∈ ss := fun z e => by
  subst e
  rcases List.mem_cons.mp h with e | e
  · cases e
  · obtain ⟨z', hz', e'⟩ := List.mem_map.mp e
    cases e'; exact hz'
section
variable {P : Program} {w : World} {K : PySem.W.Frag} {mg : Str → Option Value} {base : Heap} {f : Addr} {fd : FuncData}
abbrev nGa : List Str := ["_law_pen_here", "_law_nyms_here", "_law_goals", "_law_most", "_law_found", "_law_things", "_law_turn", "_law_left", "_law_first", "_law_second", "_law_spans", "_law_gap", "_law_goal_here"]
theorem sc_gaps : FnScope nGa ["_law_pen_here", "_law_nyms_here", "_law_goals", "_law_most"] (defScope sGaps) := ⟨rfl, rfl, rfl, by decide +kernel, rfl, by decide +kernel, by decide +kernel⟩
theorem ok_gaps (F : Fun K "_law_gaps" "_law_gaps" sGaps f fd) (g : Gm mg) (c : Cal P w K mg base 2 "_law_draw" spDraw) (c2 : Cal P w K mg base 1 "_law_at" spAt) : FnOk P w K mg base CX0 3 f fd ["_law_pen_here", "_law_nyms_here", "_law_goals", "_law_most"] spGaps := by
  refine F.ok sc_gaps (fun vs H Q E h => ?_) (fun cdv A outer s H vs Q E hr h => ?_)
  · obtain ⟨pa, sa, ny, go, names, gs, most, n, rfl, _⟩ := h
    rfl
  · obtain ⟨pa, sa, ny, go, names, gs, most, n, rfl, hP, hny, hnd, hn50, hok, hgo, hgs0, hgs50, hgs, hm100, q⟩ := h
    have nd := sc_gaps.nd
    refine ⟨_, (pss_cons (ps_set (i := 4) nd rfl (Or.inl rfl) (pe_lst pa_nil))
      (pss_cons (ps_set (i := 5) nd rfl (Or.inl rfl) (pe_op op_cat (pe_lst (pa_cons pe_non pa_nil)) (pe_callTy call_list_of rfl g.list boot_list (pa_cons (pv 1) pa_nil))))
      (pss_cons (ps_for PassesOwn.never rfl (pi_range1 rfl g.range (pa_cons (pe_ifExp (pt_cmpR (op_neD hr.units) (pv 1) (pe_lst pa_nil) (nomark _)) (pe_f (X := Cx.nox _) c hr (pa_cons (pv 0) (pa_cons (pe_add (pv 3) pe_int) pa_nil))) pe_int) pa_nil)) (pg_name (i := 6) nd rfl (Or.inl rfl))
        (pss_cons (ps_set (i := 7) nd rfl (Or.inl rfl) (pe_callTy call_list_of rfl g.list boot_list (pa_cons (pv 5) pa_nil)))
        (pss_cons (ps_asg (pe_tup (pa_cons (pe_bm PySem.F.plainAttrs_list PySem.F.slot_list_pop PySem.F.type_list_pop mt_popAt (pv 7) (pa_cons (pe_f (X := Cx.nox _) c hr (pa_cons (pv 0) (pa_cons (pe_callB call_len rfl g.len boot_len (pa_cons (pv 7) pa_nil)) pa_nil))) pa_nil))
            (pa_cons (pe_ix ix_list (pv 7) (pe_f (X := Cx.nox _) c hr (pa_cons (pv 0) (pa_cons (pe_callB call_len rfl g.len boot_len (pa_cons (pv 7) pa_nil)) pa_nil))) (fun _ _ => rfl)) pa_nil))) (pg_tup (n := 2) rfl (pgs_cons (pg_name (i := 8) nd rfl (Or.inr rfl)) (pgs_cons (pg_name (i := 9) nd rfl (Or.inr rfl)) pgs_nil))))
        (pss_cons (ps_setLc (i := 10) (own := [("_law_goal_here", 12)]) (g := gName 12) (tt := tYes) (te := tSub (tCall spAt [] E0 (tCons (tVar 12) (tCons (tVar 9) tNil))) (tCall spAt [] E0 (tCons (tVar 12) (tCons (tVar 8) tNil)))) rfl nd rfl rfl (sw_true rfl rfl rfl (by decide +kernel)) (pi_list (pv 2)) (blkOk_by (own := [("_law_goal_here", 12)]) (N := nGa) (sc := defScope sGaps) (by decide +kernel))
            (fun _ _ _ _ _ => pg_name (i := 12) nd rfl (Or.inl rfl)) (fun _ _ _ _ _ => pts_nil) (fun _ _ _ _ _ => by exact pe_sub (pe_f c2 hr (pa_cons (pv 12) (pa_cons (pv 9) pa_nil))) (pe_f c2 hr (pa_cons (pv 12) (pa_cons (pv 8) pa_nil)))))
        (pss_cons (ps_set (i := 11) nd rfl (Or.inl rfl) (pe_callB (call_max2 rfl) rfl g.max (by decide +kernel) (pa_cons (pe_un un_neg pe_int) (pa_cons (pe_sub (pe_callB (cr_min rfl) rfl g.min (by decide +kernel) (pa_cons (pv 10) pa_nil)) (pe_ix ix_list (pe_lst (pa_cons pe_int (pa_cons pe_int (pa_cons pe_int (pa_cons pe_int (pa_cons pe_int (pa_cons pe_int pa_nil))))))) (pe_f (X := Cx.nox _) c hr (pa_cons (pv 0) (pa_cons pe_int pa_nil))) (fun _ _ => rfl))) pa_nil))))
        (pss_cut (ps_if (PW.pt (pw_and (pt_cmpR op_le (pv 11) pe_int (nomark _)) (pw_and1 (pt_cmpR op_le (pv 11) (pe_callB (cr_min rfl) rfl g.min (by decide +kernel) (pa_cons (pv 10) pa_nil)) (nomark _))))) (pss_one (ps_expr (pe_bm PySem.F.plainAttrs_list PySem.F.slot_list_append PySem.F.type_list_append mt_append (pv 4) (pa_cons (pe_tup (pa_cons (pv 8) (pa_cons (pv 9) (pa_cons (pv 11) pa_nil)))) pa_nil)))) pss_nil)
        (pss_one (ps_if (PW.pt (pw_and (pt_cmpR op_eq (pe_f (X := Cx.nox _) c hr (pa_cons (pv 0) (pa_cons pe_int pa_nil))) pe_int (nomark _)) (pw_and1 (pt_chain op_le op_le (pe_un un_neg pe_int) (pe_callB (cr_max rfl) rfl g.max (by decide +kernel) (pa_cons (pv 10) pa_nil)) pe_int)))) (pss_one (ps_expr (pe_bm PySem.F.plainAttrs_list PySem.F.slot_list_append PySem.F.type_list_append mt_append (pv 4) (pa_cons (pe_tup (pa_cons (pv 9) (pa_cons (pv 8) (pa_cons (pe_sub pe_int (pe_callB (cr_max rfl) rfl g.max (by decide +kernel) (pa_cons (pv 10) pa_nil))) pa_nil)))) pa_nil)))) pss_nil))))))))
      (pss_one (ps_ret (pv 4)))))), ?_⟩
    refine ⟨Nat.zero_le _, fun fo hfo => ⟨by show 1 ≤ sizeLine; decide, fun l1 hl1 => ?_⟩⟩
    have s1 : Same H (upd (upd H fo (.lst [])) l1 (.lst [.non])) := (Same.new hfo).trans (Same.new hl1)
    have hl11 : (upd (upd H fo (.lst [])) l1 (.lst [.non])) l1 = some (.lst [.non]) := upd_same
    have nfl : fo ≠ l1 := fun e => by rw [← e, upd_same] at hl1; cases hl1
    have hfo1 : (upd (upd H fo (.lst [])) l1 (.lst [.non])) fo = some (.lst []) := (upd_ne nfl).trans upd_same
    generalize (upd (upd H fo (.lst [])) l1 (.lst [.non])) = H1 at s1 hl11 hfo1 ⊢
    refine ⟨_, rfl, ny, _, rfl, .inl (SqL.of (s1 _ _ hny)), fun l2 hl2 => ?_⟩
    have s2 : Same H1 (upd H1 l2 (.lst (names.map V.str))) := Same.new hl2
    refine ⟨l1, l2, _, _, rfl, rfl, s2 _ _ hl11, upd_same, by rw [List.length_map, sizeLine_eq]; show 1 + names.length ≤ _; omega, fun th hth => ?_⟩
    have s3 := (s1.trans s2).trans (Same.new (o := .lst ([V.non] ++ names.map V.str)) hth)
    have hfo3 := (Same.new (o := .lst ([V.non] ++ names.map V.str)) hth) _ _ (s2 _ _ hfo1)
    have eth : ([V.non] ++ names.map V.str) = (things names).map ndV := by rw [← things_vs, List.append_nil]; rfl
    have hth3 : (upd (upd H1 l2 (.lst (names.map V.str))) th (.lst ([V.non] ++ names.map V.str))) th = some (.lst ((things names).map ndV)) := by rw [upd_same, eth]
    generalize (upd (upd H1 l2 (.lst (names.map V.str))) th (.lst ([V.non] ++ names.map V.str))) = H3 at s3 hfo3 hth3 ⊢
    have hfoH : H fo = none := hfo
    have eny : names.map V.str = (names.map some).map ndV := by rw [List.map_map]; rfl
    have okn : ∀ v ∈ names.map some, okN v := fun v hv => by
      obtain ⟨z, hz, rfl⟩ := List.mem_map.mp hv
      exact hok z hz
    let Pv : Nat → L2.St → Hp → Prop := fun i σ H' => (∀ y u, y ≠ pa → H y = some u → H' y = some u) ∧ Pen H' pa sa (n + 4 * (most - i)) ∧ H' th = some (.lst ((things names).map ndV)) ∧ (∃ rl, H' fo = some (.lst (refsR rl)) ∧ (∀ r ∈ rl, H' r.1 = some (.tup (ruleVs r.2)) ∧ GRule names gs r.2) ∧ rl.length ≤ 2 * i) ∧
      ∃ v6 v7 v8 v9 v10 v11 v12, σ = [some (.ref pa), some (.ref ny), some (.ref go), some (.int most), some (.ref fo), some (.ref th), v6, v7, v8, v9, v10, v11, v12]
    have fin : ∀ d : Nat, d ≤ most → ∀ σ H', Pv d σ H' → (∃ v, σ[4]? = some (some v) ∧ Q v H') := fun d hd σ H' p => by
      obtain ⟨k, hP', _, ⟨rl, hf, hr, hl⟩, _, _, _, _, _, _, _, rfl⟩ := p
      exact ⟨_, rfl, q H' fo rl k (hP'.less (by omega)) hf hr (by omega)⟩
    refine ⟨_, rfl, Nat.zero_le _, fun le hle => ⟨.list ((names.map some).map ndD), .list [], .lst (SqL.of (by rw [upd_ne (ne_of_none (s3 _ _ hny) hle), ← eny]; exact s3 _ _ hny)) (dpAll_nd _), .lst (SqL.of upd_same) .nil, shaped_nd okn, rfl, _, rfl, ?_⟩⟩
    rw [eqv_nil]
    have s4 := s3.trans (Same.new (o := .lst []) hle)
    have hfo4 := (Same.new (o := .lst []) hle) _ _ hfo3
    have hth4 := (Same.new (o := .lst []) hle) _ _ hth3
    generalize upd H3 le (.lst []) = H4 at s4 hfo4 hth4 ⊢
    have hP4 := hP.same s4
    by_cases hne : names = []
    · rw [hne, decide_eq_true (by rfl)]
      refine iteF ⟨0, rfl, by decide, by decide, for_it (walk_range (lo := 0) (n := 0)) Pv ⟨fun y u _ e => s4 _ _ e, hP4.less (by omega), hth4, ⟨[], hfo4, (fun r hr => nomatch hr), Nat.zero_le _⟩, _, _, _, _, _, _, _, rfl⟩ (fun _ _ _ _ _ => trivial) (fun i v σ H5 H5' hi _ _ => absurd hi (Nat.not_lt_zero _)) (fun σ H5 p => fin 0 (Nat.zero_le _) σ H5 p)⟩
    rw [decide_eq_false (by simpa using hne)]
    refine iteT ⟨_, rfl, _, rfl, _, _, rfl, rfl, pa, sa, n + 4 * most, _, rfl, hP4.less (by omega), by omega, by omega, fun d H5 hd0 hd1 b5 hP5 => ⟨d, rfl, by omega, by omega, ?_⟩⟩
    have nfp : fo ≠ pa := fun e => by
      obtain ⟨_, _, _, x1, _⟩ := hP
      rw [← e, hfoH] at x1; cases x1
    have ntp : th ≠ pa := fun e => by
      obtain ⟨_, _, _, x1, _⟩ := hP4
      rw [← e, hth4] at x1
      have h2 := congrArg List.length (HO.lst.inj (Option.some.inj x1))
      have h3 := (HO.lst.inj (Option.some.inj x1))
      rw [things, List.map_cons] at h3
      cases h3
    refine for_it (walk_range (lo := 0) (n := d.toNat)) Pv ⟨fun y u h e => b5 _ _ h (s4 _ _ e), hP5.less (by omega), b5 _ _ ntp hth4, ⟨[], b5 _ _ nfp hfo4, (fun r hr => nomatch hr), Nat.zero_le _⟩, _, _, _, _, _, _, _, rfl⟩ (fun _ _ _ _ _ => trivial) (fun i v σ H6 H6' hi p y => ?_) (fun σ H6 p => fin d.toNat (by omega) σ H6 p)
    obtain ⟨rfl, rfl⟩ := y
    obtain ⟨k6, hP6, hth6, ⟨rl, hfo6, hrl6, hrl⟩, w6, w7, w8, w9, w10, w11, w12, rfl⟩ := p
    have him : i < most := by omega
    have hTl : (things names).length = names.length + 1 := by rw [things, List.length_cons, List.length_map]
    -- left = list(things)
    refine ⟨_, rfl, th, _, rfl, .inl (SqL.of hth6), fun lf hlf => ?_⟩
    have s7 : Same H6' (upd H6' lf (.lst ((things names).map ndV))) := Same.new hlf
    have hlf7 : (upd H6' lf (.lst ((things names).map ndV))) lf = some (.lst ((things names).map ndV)) := upd_same
    generalize (upd H6' lf (.lst ((things names).map ndV))) = H7 at s7 hlf7 ⊢
    have nlp : lf ≠ pa := fun e => by
      obtain ⟨_, _, _, x1, _⟩ := hP6
      rw [← e, hlf] at x1; cases x1
    have nls : lf ≠ sa := fun e => by
      obtain ⟨_, _, _, _, x1, _⟩ := hP6
      rw [← e, hlf] at x1; cases x1
    have nlt : th ≠ lf := ne_of_none hth6 hlf
    have nlfo : fo ≠ lf := ne_of_none hfo6 hlf
    refine ⟨_, rfl, .inl ⟨rfl, _, SqL.of hlf7⟩, _, rfl, _, rfl, _, _, rfl, .inl ⟨_, SqL.of hlf7, rfl⟩, pa, sa, n + 4 * (most - i) - 1, _, rfl, (hP6.same s7).less (by omega), by rw [List.length_map]; omega, by rw [List.length_map]; omega, fun e0 H8 he0 he0' b8 hP8 => ?_⟩
    rw [List.length_map] at he0'
    have hk0 : e0.toNat < (things names).length := by omega
    have hlf8 := b8 _ _ nlp hlf7
    refine ⟨lf, _, e0, e0.toNat, ndV (things names)[e0.toNat], rfl, rfl, hlf8, by omega, by omega, by rw [List.length_map]; exact seqIx he0 he0', by rw [List.getElem?_map, List.getElem?_eq_getElem hk0]; rfl, ?_⟩
    have hv1 : (things names)[e0.toNat] ∈ things names := List.getElem_mem hk0
    have hperm := get_erase_perm hk0
    have hnd1 : ((things names)[e0.toNat] :: (things names).eraseIdx e0.toNat).Nodup := hperm.nodup_iff.mpr (things_nodup hnd)
    have hrest : ((things names).map ndV).eraseIdx e0.toNat = ((things names).eraseIdx e0.toNat).map ndV := map_erase _ _ _
    have hrl1 : ((things names).eraseIdx e0.toNat).length = names.length := by rw [List.length_eraseIdx_of_lt hk0]; omega
    have hmem2 : ∀ v ∈ (things names).eraseIdx e0.toNat, v ∈ things names := fun v hv => hperm.mem_iff.mp (List.mem_cons_of_mem _ hv)
    rw [hrest]
    generalize (things names)[e0.toNat] = v1 at hv1 hnd1 ⊢
    generalize (things names).eraseIdx e0.toNat = left at hnd1 hrl1 hmem2 ⊢
    have hlf9 : (upd H8 lf (.lst (left.map ndV))) lf = some (.lst (left.map ndV)) := upd_same
    have hP9 : Pen (upd H8 lf (.lst (left.map ndV))) pa sa (n + 4 * (most - i) - 1) := by
      obtain ⟨ms, i1, k1, x1, x2, x3⟩ := hP8
      exact ⟨ms, i1, k1, (upd_ne (Ne.symm nlp)).trans x1, (upd_ne (Ne.symm nls)).trans x2, x3⟩
    have k9 : ∀ y u, y ≠ pa → y ≠ lf → H6' y = some u → (upd H8 lf (.lst (left.map ndV))) y = some u := fun y u h h' e => by
      rw [upd_ne h']; exact b8 _ _ h (s7 _ _ e)
    generalize (upd H8 lf (.lst (left.map ndV))) = H9 at hlf9 hP9 k9 ⊢
    have hn1 : 0 < names.length := List.length_pos_iff.mpr hne
    refine ⟨_, rfl, _, rfl, _, rfl, _, _, rfl, .inl ⟨_, SqL.of hlf9, rfl⟩, pa, sa, n + 4 * (most - i) - 2, _, rfl, hP9.less (by omega), by rw [List.length_map]; omega, by rw [List.length_map]; omega, fun e1 H10 he1 he1' b10 hP10 => ?_⟩
    rw [List.length_map] at he1'
    have hlf10 := b10 _ _ nlp hlf9
    have hk1 : e1.toNat < left.length := by omega
    obtain ⟨k', v', ek', hk', hat⟩ := at_in (xs := left.map ndV) he1 (by rw [List.length_map]; exact he1')
    rw [List.getElem?_map] at hk'
    obtain ⟨v2, hv2, rfl⟩ := Option.map_eq_some_iff.mp hk'
    have hv2m := List.mem_of_getElem? hv2
    have hv2t := hmem2 v2 hv2m
    have hv12 : v1 ≠ v2 := fun e => (List.nodup_cons.mp hnd1).1 (e ▸ hv2m)
    refine ⟨lf, _, e1, ndV v2, rfl, rfl, SqL.of hlf10, hat, by show 2 ≤ sizeLine; decide, fun tt htt => ⟨tt, _, rfl, SqT.of upd_same, rfl, _, _, rfl, _, _, rfl, rfl, ?_⟩⟩
    have k11 : ∀ y u, y ≠ pa → y ≠ lf → H6' y = some u → (upd H10 tt (.tup [ndV v1, ndV v2])) y = some u := fun y u h h' e => (Same.new htt) _ _ (b10 _ _ h (k9 _ _ h h' e))
    have hP11 := hP10.same (Same.new (o := .tup [ndV v1, ndV v2]) htt)
    generalize (upd H10 tt (.tup [ndV v1, ndV v2])) = H11 at k11 hP11 ⊢
    have kH : ∀ y u, y ≠ pa → H y = some u → H11 y = some u := fun y u h e => k11 _ _ h (fun z => by
      have := k6 _ _ h e
      rw [z, hlf] at this; cases this) (k6 _ _ h e)
    have npg : go ≠ pa := fun e => by
      obtain ⟨_, _, _, x1, _⟩ := hP
      rw [← e, hgo] at x1
      have := HO.lst.inj (Option.some.inj x1)
      match gs, this with
      | [], h => cases h
      | [a], h => cases h
      | [a, b], h => cases h
      | a :: b :: c :: r, h => cases h
    have hgo11 := kH _ _ npg hgo
    have hgs11 : ∀ g ∈ gs, NumD H11 g.1 (oldF names g.2) := fun g hg => by
      have hg1 := (hgs g hg).1
      have : g.1 ≠ pa := fun e => by
        obtain ⟨_, _, _, x1, _⟩ := hP
        rw [← e, hg1] at x1; cases x1
      exact ⟨_, kH _ _ this hg1, valV_old hnd⟩
    -- spans
    let span : Goal → Int := fun g => xt g.2 v2 - xt g.2 v1
    have hgl : (gs.map fun g => V.ref g.1).length = gs.length := List.length_map ..
    refine ⟨_, rfl, go, rfl, ⟨_, SqL.of hgo11⟩, fun D hD => lc_map walk_list (fun i H v H' y => by rw [y.1]; exact Same.refl) (fun i => .int ((gs[i]?.map span).getD 0)) (by rw [hgl, sizeLine_eq]; omega) hD (fun H' s' => SqL.of (s' _ _ hgo11)) (fun j v H12 H13 R hj s12 y k => ?_) fun H12 s12 hl12 => ?_⟩
    · obtain ⟨rfl, hv⟩ := y
      rw [List.getElem?_map] at hv
      obtain ⟨gl, hgl', rfl⟩ := Option.map_eq_some_iff.mp hv
      have hgm := List.mem_of_getElem? hgl'
      have nd13 := (hgs11 gl hgm).same s12
      have kk := k _ Same.refl
      rw [hgl'] at kk
      exact ⟨rfl, _, rfl, _, rfl, gl.1, _, v2, _, rfl, nd13, oldF_at (things_in hv2t), _, rfl, _, rfl, gl.1, _, v1, _, rfl, nd13, oldF_at (things_in hv1), _, _, rfl, rfl, kk⟩
    have hsp : (List.range (gs.map fun g => V.ref g.1).length).map (fun i => V.int ((gs[i]?.map span).getD 0)) = (gs.map span).map V.int := by
      rw [hgl]
      refine List.ext_getElem? fun j => ?_
      rw [List.getElem?_map, List.getElem?_map, List.getElem?_map]
      by_cases h : j < gs.length
      · rw [List.getElem?_range h]
        show some (V.int ((gs[j]?.map span).getD 0)) = _
        rw [List.getElem?_eq_getElem h]; rfl
      · rw [List.getElem?_eq_none (by rw [List.length_range]; omega), List.getElem?_eq_none (by omega)]; rfl
    rw [hsp] at hl12
    have hspl : 0 < (gs.map span).length := by rw [List.length_map]; exact List.length_pos_iff.mpr hgs0
    have spB : ∀ m ∈ gs.map span, -3 ≤ m ∧ m ≤ 3 := fun m hm => by
      obtain ⟨gl, hg, rfl⟩ := List.mem_map.mp hm
      have h1 := xt_small (hgs gl hg).2 (things_in hv1)
      have h2 := xt_small (hgs gl hg).2 (things_in hv2t)
      show -3 ≤ xt gl.2 v2 - xt gl.2 v1 ∧ xt gl.2 v2 - xt gl.2 v1 ≤ 3
      omega
    have hP12 := hP11.same s12
    have nDp : D ≠ pa := fun e => by
      obtain ⟨_, _, _, x1, _⟩ := hP11
      rw [← e, hD] at x1; cases x1
    -- gap
    refine ⟨999, rfl, _, rfl, D, gs.map span, rfl, SqL.of hl12, hspl, fun mn hmn hle => ⟨by show 6 ≤ sizeLine; decide, fun l6 hl6 => ?_⟩⟩
    have s13 : Same H12 (upd H12 l6 (.lst ([0, 0, 0, 1, 3, 60].map V.int))) := Same.new hl6
    have nlp6 : l6 ≠ pa := fun e => by
      obtain ⟨_, _, _, x1, _⟩ := hP12
      rw [← e, hl6] at x1; cases x1
    refine ⟨_, rfl, pa, sa, n + 4 * (most - i) - 3, _, rfl, (hP12.same s13).less (by omega), by decide, by decide, fun e2 H14 he2 he2' b14 hP14 => ?_⟩
    obtain ⟨c6, hc6, hat6⟩ := at_int (ms := [0, 0, 0, 1, 3, 60]) he2 he2'
    have hc6' : 0 ≤ c6 ∧ c6 ≤ 60 := by
      simp at hc6
      rcases hc6 with h | h | h | h <;> omega
    refine ⟨l6, _, e2, .int c6, rfl, rfl, SqL.of (b14 _ _ nlp6 upd_same), hat6, _, _, rfl, rfl, _, _, rfl, ?_⟩
    have hmnB := spB mn hmn
    rw [if_pos (show mn - c6 > -999 by omega)]
    have k14 : ∀ y u, y ≠ pa → y ≠ lf → H6' y = some u → H14 y = some u := fun y u h h' e => b14 _ _ h (s13 _ _ (s12 _ _ (k11 _ _ h h' e)))
    have hD14 : H14 D = some (.lst ((gs.map span).map V.int)) := b14 _ _ nDp (s13 _ _ hl12)
    have hr6 : ∀ r ∈ rl, r.1 ≠ pa ∧ r.1 ≠ lf := fun r hr => by
      have h1 := (hrl6 r hr).1
      refine ⟨fun e => ?_, ne_of_none h1 hlf⟩
      obtain ⟨_, _, _, x1, _⟩ := hP6
      rw [← e, h1] at x1; cases x1
    have kH14 : ∀ y u, y ≠ pa → H y = some u → H14 y = some u := fun y u h e => b14 _ _ h (s13 _ _ (s12 _ _ (kH _ _ h e)))
    have hfo14 := k14 _ _ nfp nlfo hfo6
    have hth14 := k14 _ _ ntp nlt hth6
    have hrl14 : ∀ r ∈ rl, H14 r.1 = some (.tup (ruleVs r.2)) ∧ GRule names gs r.2 := fun r hr => ⟨k14 _ _ (hr6 r hr).1 (hr6 r hr).2 (hrl6 r hr).1, (hrl6 r hr).2⟩
    let Mv : L2.St → Hp → Prop := fun σ H' => (∀ y u, y ≠ pa → H y = some u → H' y = some u) ∧ Pen H' pa sa (n + 4 * (most - i) - 3) ∧ H' th = some (.lst ((things names).map ndV)) ∧ H' D = some (.lst ((gs.map span).map V.int)) ∧ (∃ rl, H' fo = some (.lst (refsR rl)) ∧ (∀ r ∈ rl, H' r.1 = some (.tup (ruleVs r.2)) ∧ GRule names gs r.2) ∧ rl.length ≤ 2 * i + 1) ∧
      ∃ v6 v7 v11 v12, σ = [some (.ref pa), some (.ref ny), some (.ref go), some (.int most), some (.ref fo), some (.ref th), v6, v7, some (ndV v1), some (ndV v2), some (.ref D), v11, v12]
    have nDfo : D ≠ fo := fun e => by
      have := k11 _ _ nfp nlfo hfo6
      rw [← e, hD] at this; cases this
    have nDth : D ≠ th := fun e => by
      have := k11 _ _ ntp nlt hth6
      rw [← e, hD] at this; cases this
    -- one more rule
    have more : ∀ (H' : Hp) (rl' : List (Addr × Rule)) (t1 : Addr) (r : Rule), (∀ y u, y ≠ pa → H y = some u → H' y = some u) → Pen H' pa sa (n + 4 * (most - i) - 3) → H' th = some (.lst ((things names).map ndV)) → H' D = some (.lst ((gs.map span).map V.int)) → H' fo = some (.lst (refsR rl')) → (∀ r ∈ rl', H' r.1 = some (.tup (ruleVs r.2)) ∧ GRule names gs r.2) → H' t1 = none → GRule names gs r →
        (∀ y u, y ≠ pa → H y = some u → (upd (upd H' t1 (.tup (ruleVs r))) fo (.lst (refsR rl' ++ [.ref t1]))) y = some u) ∧ Pen (upd (upd H' t1 (.tup (ruleVs r))) fo (.lst (refsR rl' ++ [.ref t1]))) pa sa (n + 4 * (most - i) - 3) ∧ (upd (upd H' t1 (.tup (ruleVs r))) fo (.lst (refsR rl' ++ [.ref t1]))) th = some (.lst ((things names).map ndV)) ∧
        (upd (upd H' t1 (.tup (ruleVs r))) fo (.lst (refsR rl' ++ [.ref t1]))) D = some (.lst ((gs.map span).map V.int)) ∧ (upd (upd H' t1 (.tup (ruleVs r))) fo (.lst (refsR rl' ++ [.ref t1]))) fo = some (.lst (refsR (rl' ++ [(t1, r)]))) ∧ (∀ x ∈ rl' ++ [(t1, r)], (upd (upd H' t1 (.tup (ruleVs r))) fo (.lst (refsR rl' ++ [.ref t1]))) x.1 = some (.tup (ruleVs x.2)) ∧ GRule names gs x.2) := fun H' rl' t1 r a1 a2 a3 a4 a5 a6 a7 a8 => by
      have ntf : t1 ≠ fo := fun e => by rw [e, a5] at a7; cases a7
      refine ⟨fun y u h e => ?_, ?_, ?_, ?_, ?_, fun x hx => ?_⟩
      · rw [upd_ne (fun z => by rw [z, hfoH] at e; cases e)]
        exact (Same.new a7) _ _ (a1 _ _ h e)
      · obtain ⟨ms, i1, k1, x1, x2, x3⟩ := a2
        have nsf : sa ≠ fo := fun z => by
          obtain ⟨_, _, _, _, x1, _⟩ := hP
          rw [z, hfoH] at x1; cases x1
        exact ⟨ms, i1, k1, (upd_ne (Ne.symm nfp)).trans ((Same.new a7) _ _ x1), (upd_ne nsf).trans ((Same.new a7) _ _ x2), x3⟩
      · have ntf2 : th ≠ fo := fun z => by
          rw [z, a5] at a3
          have h3 := (HO.lst.inj (Option.some.inj a3))
          rw [things, List.map_cons] at h3
          cases rl' <;> cases h3
        exact (upd_ne ntf2).trans ((Same.new a7) _ _ a3)
      · exact (upd_ne nDfo).trans ((Same.new a7) _ _ a4)
      · rw [upd_same]; unfold refsR; rw [List.map_append]; rfl
      · rcases List.mem_append.mp hx with z | z
        · obtain ⟨b1, b2⟩ := a6 x z
          exact ⟨(upd_ne (ne_of b1 a5 (fun z => nomatch z))).trans ((Same.new a7) _ _ b1), b2⟩
        · rw [List.mem_singleton.mp z]
          exact ⟨(upd_ne ntf).trans upd_same, a8⟩
    refine ⟨Mv, ?_, ?_⟩
    · have skip : ∀ v6 v7 v11 v12, Mv [some (.ref pa), some (.ref ny), some (.ref go), some (.int most), some (.ref fo), some (.ref th), v6, v7, some (ndV v1), some (ndV v2), some (.ref D), v11, v12] H14 := fun _ _ _ _ => ⟨kH14, hP14, hth14, hD14, ⟨rl, hfo14, hrl14, by omega⟩, _, _, _, _, rfl⟩
      refine ⟨_, rfl, _, _, rfl, rfl, _, rfl, ?_⟩
      refine iteD (by omega) ?_
      refine ⟨_, rfl, _, rfl, D, gs.map span, rfl, SqL.of hD14, hspl, fun m2 hm2 hle2 => ⟨_, _, rfl, rfl, _, rfl, ?_⟩⟩
      by_cases hg : mn - c6 ≤ m2
      · refine iteD hg ⟨_, rfl, .inl ⟨rfl, _, SqL.of hfo14⟩, _, rfl, _, rfl, _, rfl, by show 3 ≤ sizeLine; decide, fun t1 ht1 => ?_⟩
        obtain ⟨c1, c2, c3, c4, c5, c6'⟩ := more H14 rl t1 (v1, v2, mn - c6) kH14 hP14 hth14 hD14 hfo14 hrl14 ht1 ⟨hv12, things_in hv1, things_in hv2t, by show -100 ≤ mn - c6 ∧ mn - c6 ≤ 100; omega, fun gl hgl => by
          have := hle2 _ (List.mem_map_of_mem hgl)
          show mn - c6 ≤ xt gl.2 v2 - xt gl.2 v1
          have h3 : m2 ≤ xt gl.2 v2 - xt gl.2 v1 := this
          omega⟩
        exact ⟨fo, _, _, rfl, rfl, (upd_ne (ne_of_none hfo14 ht1)).trans hfo14, by rw [refsR, List.length_map, sizeLine_eq]; omega, c1, c2, c3, c4, ⟨_, c5, c6', by rw [List.length_append]; show rl.length + 1 ≤ _; omega⟩, _, _, _, _, rfl⟩
      · exact iteDF hg (skip _ _ _ _)
    · rintro σ' H15 ⟨a1, a2, a3, a4, ⟨rl', a5, a6, a7⟩, u6, u7, u11, u12, rfl⟩
      refine ⟨_, rfl, pa, sa, n + 4 * (most - i) - 4, _, rfl, a2.less (by omega), by decide, by decide, fun e3 H16 he3 he3' b16 hP16 => ⟨rfl, _, rfl, ?_⟩⟩
      have hr15 : ∀ r ∈ rl', r.1 ≠ pa := fun r hr e => by
        obtain ⟨_, _, _, x1, _⟩ := a2
        rw [← e, (a6 r hr).1] at x1; cases x1
      have d1 : ∀ y u, y ≠ pa → H y = some u → H16 y = some u := fun y u h e => b16 _ _ h (a1 _ _ h e)
      have d3 := b16 _ _ ntp a3
      have d4 := b16 _ _ nDp a4
      have d5 := b16 _ _ nfp a5
      have d6 : ∀ r ∈ rl', H16 r.1 = some (.tup (ruleVs r.2)) ∧ GRule names gs r.2 := fun r hr => ⟨b16 _ _ (hr15 r hr) (a6 r hr).1, (a6 r hr).2⟩
      have skip : ∀ v6 v7 v11 v12, Pv (i + 1) [some (.ref pa), some (.ref ny), some (.ref go), some (.int most), some (.ref fo), some (.ref th), v6, v7, some (ndV v1), some (ndV v2), some (.ref D), v11, v12] H16 := fun _ _ _ _ => ⟨d1, hP16.less (by omega), d3, ⟨rl', d5, d6, by omega⟩, _, _, _, _, _, _, _, rfl⟩
      by_cases h0 : V.int e3 = V.int 0
      · refine iteD h0 ?_
        refine ⟨999, rfl, _, rfl, D, gs.map span, rfl, SqL.of d4, hspl, fun mx hmx hge => ⟨_, _, rfl, rfl, true, ?_, iteT ⟨_, _, rfl, rfl, true, ?_, iteT ?_⟩⟩⟩
        · have := spB mx hmx
          show V.bl (decide (-999 ≤ mx)) = _
          rw [decide_eq_true (by omega)]
        · have := spB mx hmx
          show V.bl (decide (mx ≤ 999)) = _
          rw [decide_eq_true (by omega)]
        refine ⟨_, rfl, .inl ⟨rfl, _, SqL.of d5⟩, _, rfl, _, rfl, _, rfl, D, gs.map span, rfl, SqL.of d4, hspl, fun mx2 hmx2 hge2 => ⟨_, _, rfl, rfl, by show 3 ≤ sizeLine; decide, fun t1 ht1 => ?_⟩⟩
        have hP16' : Pen H16 pa sa (n + 4 * (most - i) - 4) := hP16
        have mB := spB mx2 hmx2
        have gr : GRule names gs (v2, v1, 0 - mx2) := ⟨Ne.symm hv12, things_in hv2t, things_in hv1, by show -100 ≤ 0 - mx2 ∧ 0 - mx2 ≤ 100; omega, fun gl hgl => by
          have := hge2 _ (List.mem_map_of_mem hgl)
          show 0 - mx2 ≤ xt gl.2 v1 - xt gl.2 v2
          have h3 : xt gl.2 v2 - xt gl.2 v1 ≤ mx2 := this
          omega⟩
        have ntf : t1 ≠ fo := fun e => by rw [e, d5] at ht1; cases ht1
        refine ⟨fo, _, _, rfl, rfl, (upd_ne (ne_of_none d5 ht1)).trans d5, by rw [refsR, List.length_map, sizeLine_eq]; omega, fun y u h e => ?_, ?_, ?_, ⟨rl' ++ [(t1, (v2, v1, 0 - mx2))], ?_, fun x hx => ?_, by rw [List.length_append]; show rl'.length + 1 ≤ _; omega⟩, _, _, _, _, _, _, _, rfl⟩
        · rw [upd_ne (fun z => by rw [z, hfoH] at e; cases e)]
          exact (Same.new ht1) _ _ (d1 _ _ h e)
        · obtain ⟨ms, i1, k1, x1, x2, x3, x4, x5, x6⟩ := hP16
          have nsf : sa ≠ fo := fun z => by
            obtain ⟨_, _, _, _, x1, _⟩ := hP
            rw [z, hfoH] at x1; cases x1
          exact ⟨ms, i1, k1, (upd_ne (Ne.symm nfp)).trans ((Same.new ht1) _ _ x1), (upd_ne nsf).trans ((Same.new ht1) _ _ x2), x3, x4, by omega, x6⟩
        · have ntf2 : th ≠ fo := fun z => by
            rw [z, d5] at d3
            have h3 := (HO.lst.inj (Option.some.inj d3))
            rw [things, List.map_cons] at h3
            cases rl' <;> cases h3
          exact (upd_ne ntf2).trans ((Same.new ht1) _ _ d3)
        · rw [upd_same]; unfold refsR; rw [List.map_append]; rfl
        · rcases List.mem_append.mp hx with z | z
          · obtain ⟨b1, b2⟩ := d6 x z
            exact ⟨(upd_ne (ne_of b1 d5 (fun z => nomatch z))).trans ((Same.new ht1) _ _ b1), b2⟩
          · rw [List.mem_singleton.mp z]
            exact ⟨(upd_ne ntf).trans upd_same, gr⟩
      · exact iteDF h0 (skip _ _ _ _)
end
end Ws
end
section
/-! xs[::k] of a list, k written: items of xs -/
namespace Ws
open PySem PySem.Spec PyProof.Rows L2
theorem pick_vals {xs : List V} {its : List Value} (r : Vals xs its) : ∀ is : List Nat, Vals (is.filterMap (xs[·]?)) (is.filterMap (its.toArray[·]?))
  | [] => .nil
  | i :: is => by
    have ih := pick_vals r is
    have hl := r.length
    rw [List.filterMap_cons, List.filterMap_cons]
    by_cases h : i < xs.length
    · obtain ⟨u, hu, ru⟩ := r.get (List.getElem?_eq_getElem h)
      rw [List.getElem?_eq_getElem h, show its.toArray[i]? = some u by simpa using hu]
      exact .cons ru ih
    · rw [List.getElem?_eq_none (by omega), show its.toArray[i]? = none by simp; omega]
      exact ih
def tSlK (K : PySem.W.Frag) (te : TE) : TE := fun σ H Q => te σ H fun x H1 => ∃ a xs, x = .ref a ∧ SqL K H1 a xs ∧ ∀ p ys, H1 p = none → (∀ y ∈ ys, y ∈ xs) → ys.length ≤ xs.length → Q (.ref p) (upd H1 p (.lst ys))
theorem pe_sliceK {X : Cx} {e : Expr} {k : Int} {j} {pos pos' p2 : Pos} {te : TE} (he : PE X e te) (hk : k ≠ 0 := by decide) : PE X (.Subscript e (.Slice none none (some (.Constant (.int k) j pos')) p2) pos) (tSlK X.K te) := by
  refine ⟨fun pins s σ H Q I h => ?_⟩
  refine Subscript_ (thn (he.run pins s σ H _ I h) fun v s1 ⟨x, H1, I1, r1, a, xs, ex, hx, q1⟩ => ?_)
  subst ex
  obtain rfl : v = Value.ref a := r1
  refine wpAny_Slice ?_
  rw [evalPart_none]
  refine wpAny_pure ?_
  refine wpAny_pure ?_
  rw [evalPart_some]
  refine wpAny_Constant_int ?_
  have I2 := I1.tok (s1.toks + 1)
  have I4 : Inv X pins σ H1 { s1 with toks := s1.toks + 1, heap := s1.heap.push { cls := .type "slice", data := .fields #[.none, .none, .int k s1.toks] } } := I2.kept (t' := s1.toks + 1) fun b ob q => Heap.get?_push_of_some _ q
  obtain ⟨its, r, ht, hz⟩ := I4.list hx
  have hlen := r.length
  show wpAny (model X.prog X.w) X.A (subscriptTail e (.Slice none none (some (.Constant (.int k) j pos')) p2) (.ref a) (.ref s1.heap.objs.size)) (EP X pins σ Q) X.xe { s1 with toks := s1.toks + 1, heap := s1.heap.push { cls := .type "slice", data := .fields #[.none, .none, .int k s1.toks] } }
  refine tail_any (ops := [.ref a, .ref s1.heap.objs.size]) (T := "list") ht.isList.typeIs slot_list_getitem.lookup ?_ (by with_unfolding_all rfl)
  refine wpAny_getItem_list_slice (lo := none) (hi := none) (st := some k) ht.isList (Heap.IsSliceOf.new ..) .none .none (.int k _) (by intro z; exact hk (Option.some.inj z)) ?_ (by rw [List.size_toArray] <;> omega)
  have hv := pick_vals r (sliceRange (sliceBounds none none (some k) its.toArray.size).1 (sliceBounds none none (some k) its.toArray.size).2.1 (sliceBounds none none (some k) its.toArray.size).2.2)
  have hsz : (slicePick its.toArray none none (some k)).size ≤ its.toArray.size := slicePick_size_le _ _ _ _
  have hl2 := hv.length
  have hsz2 : ((sliceRange (sliceBounds none none (some k) its.toArray.size).1 (sliceBounds none none (some k) its.toArray.size).2.1 (sliceBounds none none (some k) its.toArray.size).2.2).filterMap (its.toArray[·]?)).length ≤ its.toArray.size := by
    have := hsz
    unfold slicePick at this
    rw [List.size_toArray] at this
    exact this
  have e0 : its.toArray.size = its.length := List.size_toArray ..
  refine ⟨.ref _, _, I4.laid (t' := s1.toks + 1) (o := .lst ((sliceRange (sliceBounds none none (some k) its.toArray.size).1 (sliceBounds none none (some k) its.toArray.size).2.1 (sliceBounds none none (some k) its.toArray.size).2.2).filterMap (xs[·]?))) (fun b ob q => Heap.get?_push_of_some _ q) (Nat.le_refl _) ?_, rfl, q1 _ _ (I4.hok.fresh (Nat.le_refl _)) (fun y hy => ?_) (by omega)⟩
  · exact ⟨by omega, _, 0, hv, Heap.get?_push_size _ rfl⟩
  · obtain ⟨i, _, hi⟩ := List.mem_filterMap.mp hy
    exact List.mem_of_getElem? hi
end Ws
end
section
/-! _law_deal, _law_prices, _law_there, _law_task -/
namespace Ws
open PySem PySem.Spec PyProof.Rows L2
abbrev sDeal : Stmt := top 59
abbrev sPrices : Stmt := top 60
abbrev sThere : Stmt := top 61
abbrev sTask : Stmt := top 62
def nobody : Str := "nobody"
/-- prices of single settings, None for fixed ones -/
structure OwnOk (names : List Str) (kvs : List (Key × V)) : Prop where
  nd : (kvs.map (·.1)).Nodup
  key : ∀ p ∈ kvs, ∃ z, p.1 = .inr z ∧ (z ∈ names ∨ z = nobody)
  val : ∀ p ∈ kvs, p.2 = .non ∨ ∃ i, p.2 = .int i ∧ prOk i
theorem OwnOk.nil (names : List Str) : OwnOk names [] := ⟨List.nodup_nil, (fun _ h => nomatch h), fun _ h => nomatch h⟩
theorem put_keysK {κ : Type} [DecidableEq κ] (kvs : List (κ × V)) (k : κ) (v : V) : (putK kvs k v).map (·.1) = if k ∈ kvs.map (·.1) then kvs.map (·.1) else kvs.map (·.1) ++ [k] := by
  unfold putK
  by_cases h : (kvs.any fun kv => decide (kv.1 = k)) = true
  · rw [if_pos h, if_pos]
    · rw [List.map_map]
      refine List.map_congr_left fun p _ => ?_
      show (if p.1 = k then (p.1, v) else p).1 = p.1
      split <;> rfl
    · obtain ⟨p, hp, e⟩ := List.any_eq_true.mp h
      exact List.mem_map.mpr ⟨p, hp, of_decide_eq_true e⟩
  · rw [if_neg h, if_neg]
    · rw [List.map_append]; rfl
    · intro z
      obtain ⟨p, hp, e⟩ := List.mem_map.mp z
      exact h (List.any_eq_true.mpr ⟨p, hp, decide_eq_true e⟩)
theorem nodup_putK {κ : Type} [DecidableEq κ] {kvs : List (κ × V)} {k : κ} {v : V} (h : (kvs.map (·.1)).Nodup) : ((putK kvs k v).map (·.1)).Nodup := by
  rw [put_keysK]
  by_cases e : k ∈ kvs.map (·.1)
  · rw [if_pos e]; exact h
  · rw [if_neg e]
    exact List.nodup_append.mpr ⟨h, by simp, fun a ha b hb => by rw [List.mem_singleton.mp hb]; exact fun z => e (z ▸ ha)⟩
theorem mem_putK {κ : Type} [DecidableEq κ] {kvs : List (κ × V)} {k : κ} {v : V} {p : κ × V} (h : p ∈ putK kvs k v) : p = (k, v) ∨ p ∈ kvs := by
  unfold putK at h
  split at h
  · obtain ⟨x, hx, e⟩ := List.mem_map.mp h
    by_cases q : x.1 = k
    · rw [if_pos q] at e; rw [← e, q]; exact .inl rfl
    · rw [if_neg q] at e; rw [← e]; exact .inr hx
  · rcases List.mem_append.mp h with z | z
    · exact .inr z
    · exact .inl (List.mem_singleton.mp z)
theorem OwnOk.put {names : List Str} {kvs : List (Key × V)} {z : Str} {v : V} (o : OwnOk names kvs) (hz : z ∈ names ∨ z = nobody) (hv : v = .non ∨ ∃ i, v = .int i ∧ prOk i) : OwnOk names (putK kvs (.inr z) v) := by
  refine ⟨nodup_putK o.nd, fun p hp => ?_, fun p hp => ?_⟩
  · rcases mem_putK hp with e | e
    · rw [e]; exact ⟨z, rfl, hz⟩
    · exact o.key p e
  · rcases mem_putK hp with e | e
    · rw [e]; exact hv
    · exact o.val p e
theorem OwnOk.len {names : List Str} {kvs : List (Key × V)} (o : OwnOk names kvs) : kvs.length ≤ names.length + 1 := by
  have := nodup_le (c := kvs.map (·.1)) (V := (names ++ [nobody]).map Sum.inr) o.nd (fun k hk => by
    obtain ⟨p, hp, rfl⟩ := List.mem_map.mp hk
    obtain ⟨z, hz, h⟩ := o.key p hp
    rw [hz]
    refine List.mem_map_of_mem ?_
    rcases h with h | h
    · exact List.mem_append_left _ h
    · rw [h]; exact List.mem_append_right _ List.mem_cons_self)
  rw [List.length_map, List.length_map, List.length_append] at this
  exact this
def spDeal : Sp := fun vs H Q _ => ∃ pa sa ny, ∃ names : List Str, ∃ n : Nat, vs = [.ref pa, .ref ny] ∧ Pen H pa sa (n + 4 + 2 * (names.length + 1)) ∧ H ny = some (.lst (names.map V.str)) ∧ names.length ≤ 50 ∧
  ∀ H' p ow, ∀ a b : Int, ∀ kvs, But1 pa H H' → Pen H' pa sa n → H' p = some (.tup [.int a, .int b, .ref ow]) → H' ow = some (.dK kvs) → prOk a → prOk b → OwnOk names kvs → Q (.ref p) H'
section
variable {P : Program} {w : World} {K : PySem.W.Frag} {mg : Str → Option Value} {base : Heap} {f : Addr} {fd : FuncData}
abbrev nDe : List Str := ["_law_pen_here", "_law_nyms_here", "_law_found", "_law_own", "_law_one", "_law_road", "_law_turn"]
theorem sc_deal : FnScope nDe ["_law_pen_here", "_law_nyms_here"] (defScope sDeal) := ⟨rfl, rfl, rfl, by decide +kernel, rfl, by decide +kernel, by decide +kernel⟩
theorem ok_deal (F : Fun K "_law_deal" "_law_deal" sDeal f fd) (g : Gm mg) (c : Cal P w K mg base 2 "_law_draw" spDraw) : FnOk P w K mg base CX0 3 f fd ["_law_pen_here", "_law_nyms_here"] spDeal := by
  refine F.ok sc_deal (fun vs H Q E h => ?_) (fun cdv A outer s H vs Q E hr h => ?_)
  · obtain ⟨pa, sa, ny, names, n, rfl, _⟩ := h
    rfl
  · obtain ⟨pa, sa, ny, names, n, rfl, hP, hny, hn50, q⟩ := h
    have nd := sc_deal.nd
    have hu := hu_of hr
    refine ⟨_, (pss_cons (ps_setLc (i := 2) (own := [("_law_turn", 6)]) (g := gName 6) (tt := tYes) (te := tOp (rIxL K) (tLst (tCons (tC (.int 1)) (tCons (tC (.int 1)) (tCons (tC (.int 2)) (tCons (tC (.int 5)) (tCons (tC (.int 999)) (tCons (tAdd (tC (.int 1)) (tCall spDraw [] E0 (tCons (tVar 0) (tCons (tC (.int 9)) tNil)))) tNil))))))) (tCall spDraw [] E0 (tCons (tVar 0) (tCons (tC (.int 6)) tNil)))) rfl nd rfl rfl (sw_true rfl rfl rfl (by decide +kernel)) (pi_range1 rfl g.range (pa_cons pe_int pa_nil)) (blkOk_by (own := [("_law_turn", 6)]) (N := nDe) (sc := defScope sDeal) (by decide +kernel))
        (fun _ _ _ _ _ => pg_name (i := 6) nd rfl (Or.inl rfl)) (fun _ _ _ _ _ => pts_nil) (fun _ _ _ _ _ => by exact pe_ix ix_list (pe_lst (pa_cons pe_int (pa_cons pe_int (pa_cons pe_int (pa_cons pe_int (pa_cons pe_int (pa_cons (pe_add pe_int (pe_f c hr (pa_cons (pv 0) (pa_cons pe_int pa_nil)))) pa_nil))))))) (pe_f c hr (pa_cons (pv 0) (pa_cons pe_int pa_nil))) (fun _ _ => rfl)))
      (pss_cons (ps_set (i := 3) nd rfl (Or.inl rfl) pe_dnewK)
      (pss_cons (ps_for PassesOwn.never rfl (pi_list (pe_op op_cat (pe_callTy call_list_of rfl g.list boot_list (pa_cons (pv 1) pa_nil)) (pe_lst (pa_cons pe_str pa_nil)))) (pg_name (i := 4) nd rfl (Or.inl rfl))
        (pss_cons (ps_set (i := 5) nd rfl (Or.inl rfl) (pe_f (X := Cx.nox _) c hr (pa_cons (pv 0) (pa_cons pe_int pa_nil))))
        (pss_one (ps_if (pt_cmpR op_lt (pv 5) pe_int (nomark _)) (pss_one (ps_dput hu (pv 3) (pv 4) (pe_ix ix_list (pe_lst (pa_cons pe_non (pa_cons (pe_add pe_int (pe_f (X := Cx.nox _) c hr (pa_cons (pv 0) (pa_cons pe_int pa_nil)))) pa_nil))) (pv 5) (fun _ _ => rfl)) rfl)) pss_nil))))
      (pss_one (ps_ret (pe_tup (pa_cons (pe_ix ix_list (pv 2) pe_int (fun _ _ => rfl)) (pa_cons (pe_ix ix_list (pv 2) pe_int (fun _ _ => rfl)) (pa_cons (pv 3) pa_nil))))))))), ?_⟩
    refine ⟨2, rfl, by decide, by decide, fun D hD => ?_⟩
    have hDH : H D = none := hD
    have nDp : D ≠ pa := fun e => by
      obtain ⟨_, _, _, x1, _⟩ := hP
      rw [← e, hD] at x1; cases x1
    have nDs : sa ≠ D := fun e => by
      obtain ⟨_, _, _, _, x1, _⟩ := hP
      rw [e, hD] at x1; cases x1
    refine lc_range (lo := 0) (n := 2) (fun i H1 => (∀ y u, y ≠ pa → H y = some u → H1 y = some u) ∧ Pen H1 pa sa (n + 2 * (2 - i) + 2 * (names.length + 1)) ∧ ∃ ps : List Int, ps.length = i ∧ (∀ a ∈ ps, prOk a) ∧ H1 D = some (.lst (ps.map V.int))) ⟨fun y u h e => (Same.new hD) _ _ e, (hP.same (Same.new hD)).less (by omega), [], rfl, (fun _ h => nomatch h), upd_same⟩ (fun i H1 hi p => ?_) (fun H1 p => ?_)
    · obtain ⟨k1, hP1, ps, hps, hpo, hD1⟩ := p
      refine ⟨rfl, tyes ?_⟩
      refine ⟨_, rfl, pa, sa, n + 2 * (2 - i) + 2 * (names.length + 1) - 1, _, rfl, hP1.less (by omega), by decide, by decide, fun d H2 hd0 hd1 b2 hP2 => ⟨_, _, rfl, rfl, by show 6 ≤ sizeLine; decide, fun l hl => ?_⟩⟩
      have s3 : Same H2 (upd H2 l (.lst ([1, 1, 2, 5, 999, 1 + d].map V.int))) := Same.new hl
      have nlp : l ≠ pa := fun e => by
        obtain ⟨_, _, _, x1, _⟩ := hP2
        rw [← e, hl] at x1; cases x1
      have hD2 := b2 _ _ nDp hD1
      refine ⟨_, rfl, pa, sa, n + 2 * (2 - (i + 1)) + 2 * (names.length + 1), _, rfl, (hP2.same s3).less (by omega), by decide, by decide, fun d2 H4 he0 he1 b4 hP4 => ?_⟩
      obtain ⟨v, hv, hat⟩ := at_int (ms := [1, 1, 2, 5, 999, 1 + d]) he0 he1
      have hvo : prOk v := by
        simp at hv
        unfold prOk
        rcases hv with h | h | h | h | h <;> omega
      have hD4 := b4 _ _ nDp (s3 _ _ hD2)
      refine ⟨l, _, d2, .int v, rfl, rfl, SqL.of (b4 _ _ nlp upd_same), hat, _, hD4, by rw [List.length_map, sizeLine_eq]; omega, fun y u h e => ?_, ?_, ps ++ [v], by rw [List.length_append, hps]; rfl, fun a ha => ?_, ?_⟩
      · rw [upd_ne (fun z => by rw [z, hDH] at e; cases e)]
        exact b4 _ _ h (s3 _ _ (b2 _ _ h (k1 _ _ h e)))
      · obtain ⟨ms, i1, k2, x1, x2, x3⟩ := hP4
        exact ⟨ms, i1, k2, (upd_ne (Ne.symm nDp)).trans x1, (upd_ne nDs).trans x2, x3⟩
      · rcases List.mem_append.mp ha with z | z
        · exact hpo a z
        · rw [List.mem_singleton.mp z]; exact hvo
      · rw [upd_same, List.map_append]; rfl
    obtain ⟨k1, hP1, ps, hps, hpo, hD1⟩ := p
    obtain ⟨a, b, rfl⟩ : ∃ a b, ps = [a, b] := by
      match ps, hps with
      | [a, b], _ => exact ⟨a, b, rfl⟩
    have ha := hpo a List.mem_cons_self
    have hb := hpo b (List.mem_cons_of_mem _ List.mem_cons_self)
    intro ow how
    have how1 : H1 ow = none := how
    have s2 : Same H1 (upd H1 ow (.dK [])) := Same.new how
    have hP2 := hP1.same s2
    have hD2 := s2 _ _ hD1
    have how2 : upd H1 ow (.dK []) ow = some (.dK []) := upd_same
    have k2 : ∀ y u, y ≠ pa → H y = some u → upd H1 ow (.dK []) y = some u := fun y u h e => s2 _ _ (k1 _ _ h e)
    have howH : H ow = none := by
      cases e : H ow with
      | none => rfl
      | some u =>
        by_cases h : ow = pa
        · obtain ⟨_, _, _, x1, _⟩ := hP1
          rw [h, x1] at how1; cases how1
        · rw [k1 _ _ h e] at how1; cases how1
    have nwp : ow ≠ pa := fun e => by
      obtain ⟨_, _, _, x1, _⟩ := hP
      rw [← e, howH] at x1; cases x1
    have nws : sa ≠ ow := fun e => by
      obtain ⟨_, _, _, _, x1, _⟩ := hP
      rw [e, howH] at x1; cases x1
    have nDw : D ≠ ow := ne_of_none hD1 how1
    generalize upd H1 ow (.dK []) = H2 at s2 hP2 hD2 how2 k2 ⊢
    have npn : ny ≠ pa := fun e => by
      obtain ⟨_, _, _, x1, _⟩ := hP
      rw [← e, hny] at x1
      have := HO.lst.inj (Option.some.inj x1)
      cases names <;> cases this
    refine ⟨_, rfl, ny, _, rfl, .inl (SqL.of (k2 _ _ npn hny)), fun l1 hl1 => ⟨by show 1 ≤ sizeLine; decide, fun l2 hl2 => ?_⟩⟩
    have n12 : l1 ≠ l2 := fun e => by rw [← e, upd_same] at hl2; cases hl2
    refine ⟨l1, l2, _, _, rfl, rfl, (upd_ne n12).trans upd_same, upd_same, by rw [List.length_map, sizeLine_eq]; show names.length + 1 ≤ _; omega, fun it hit => ?_⟩
    have s5 : Same H2 (upd (upd (upd H2 l1 (.lst (names.map V.str))) l2 (.lst [.str "nobody"])) it (.lst (names.map V.str ++ [.str "nobody"]))) := ((Same.new hl1).trans (Same.new hl2)).trans (Same.new hit)
    have hit5 : (upd (upd (upd H2 l1 (.lst (names.map V.str))) l2 (.lst [.str "nobody"])) it (.lst (names.map V.str ++ [.str "nobody"]))) it = some (.lst ((names ++ [nobody]).map V.str)) := by rw [upd_same, List.map_append]; rfl
    have hD5 := s5 _ _ hD2
    have how5 := s5 _ _ how2
    have hP5 := hP2.same s5
    have k5 : ∀ y u, y ≠ pa → H y = some u → (upd (upd (upd H2 l1 (.lst (names.map V.str))) l2 (.lst [.str "nobody"])) it (.lst (names.map V.str ++ [.str "nobody"]))) y = some u := fun y u h e => s5 _ _ (k2 _ _ h e)
    have nit : it ≠ pa := fun e => by
      obtain ⟨_, _, _, x1, _⟩ := hP5
      rw [← e, hit5] at x1
      have h := HO.lst.inj (Option.some.inj x1)
      cases names <;> cases h
    generalize (upd (upd (upd H2 l1 (.lst (names.map V.str))) l2 (.lst [.str "nobody"])) it (.lst (names.map V.str ++ [.str "nobody"]))) = H5 at s5 hit5 hD5 how5 hP5 k5 ⊢
    have nwit : it ≠ ow := ne_of hit5 how5 (fun z => nomatch z)
    have hlen : ((names ++ [nobody]).map V.str).length = names.length + 1 := by rw [List.length_map, List.length_append]; rfl
    let Pv : Nat → L2.St → Hp → Prop := fun i σ H' => (∀ y u, y ≠ pa → H y = some u → H' y = some u) ∧ Pen H' pa sa (n + 2 * (names.length + 1 - i)) ∧ H' it = some (.lst ((names ++ [nobody]).map V.str)) ∧ H' D = some (.lst [.int a, .int b]) ∧ (∃ kvs, H' ow = some (.dK kvs) ∧ OwnOk names kvs) ∧ ∃ v4 v5 v6, σ = [some (.ref pa), some (.ref ny), some (.ref D), some (.ref ow), v4, v5, v6]
    have hw : it = it := rfl
    refine ⟨it, rfl, ⟨_, SqL.of hit5⟩, for_it (walk_list (K := K) (a := it) (xs := (names ++ [nobody]).map V.str)) Pv ⟨k5, hP5.less (by omega), hit5, hD5, ⟨[], how5, OwnOk.nil _⟩, _, _, _, rfl⟩ (fun _ _ _ _ p => SqL.of p.2.2.1) (fun i v σ H6 H6' hi p y => ?_) (fun σ H6 p => ?_)⟩
    · obtain ⟨rfl, hv⟩ := y
      rw [List.getElem?_map] at hv
      obtain ⟨z, hz, rfl⟩ := Option.map_eq_some_iff.mp hv
      have hzm : z ∈ names ∨ z = nobody := by
        rcases List.mem_append.mp (List.mem_of_getElem? hz) with h | h
        · exact .inl h
        · exact .inr (List.mem_singleton.mp h)
      rw [hlen] at hi
      obtain ⟨k6, hP6, hit6, hD6, ⟨kvs, how6, hown⟩, w4, w5, w6, rfl⟩ := p
      refine ⟨_, rfl, pa, sa, n + 2 * (names.length + 1 - i) - 1, _, rfl, hP6.less (by omega), by decide, by decide, fun d H7 hd0 hd1 b7 hP7 => ?_⟩
      have how7 := b7 _ _ nwp how6
      refine ⟨_, rfl, _, _, rfl, rfl, _, rfl, ?_⟩
      by_cases hlt : d < 2
      · refine iteD hlt ⟨_, rfl, pa, sa, n + 2 * (names.length + 1 - (i + 1)), _, rfl, hP7.less (by omega), by decide, by decide, fun e H8 he0 he1 b8 hP8 => ⟨_, _, rfl, rfl, by show 2 ≤ sizeLine; decide, fun l hl => ?_⟩⟩
        have s9 : Same H8 (upd H8 l (.lst [.non, .int (1 + e)])) := Same.new hl
        have how9 := s9 _ _ (b8 _ _ nwp how7)
        obtain ⟨k', v, _, hk', hat⟩ := at_in (xs := [V.non, V.int (1 + e)]) hd0 hlt
        have hvo : v = .non ∨ ∃ i, v = .int i ∧ prOk i := by
          rcases List.mem_cons.mp (List.mem_of_getElem? hk') with h | h
          · exact .inl h
          · exact .inr ⟨1 + e, List.mem_singleton.mp h, by unfold prOk; omega⟩
        refine ⟨_, rfl, l, _, d, v, rfl, rfl, SqL.of upd_same, hat, _, rfl, _, rfl, ow, _, rfl, DPut.k (k := Sum.inr z) how9 (by have := hown.len; rw [sizeLine_eq]; omega), fun y u h e => ?_, ?_, ?_, ?_, ⟨_, upd_same, hown.put hzm hvo⟩, _, _, _, rfl⟩
        · rw [upd_ne (fun z => by rw [z, howH] at e; cases e)]
          exact s9 _ _ (b8 _ _ h (b7 _ _ h (k6 _ _ h e)))
        · obtain ⟨ms, i1, k2, x1, x2, x3⟩ := hP8.same s9
          exact ⟨ms, i1, k2, (upd_ne (Ne.symm nwp)).trans x1, (upd_ne nws).trans x2, x3⟩
        · exact (upd_ne nwit).trans (s9 _ _ (b8 _ _ nit (b7 _ _ nit hit6)))
        · exact (upd_ne nDw).trans (s9 _ _ (b8 _ _ nDp (b7 _ _ nDp hD6)))
      · refine iteDF hlt ⟨fun y u h e => b7 _ _ h (k6 _ _ h e), hP7.less (by omega), b7 _ _ nit hit6, b7 _ _ nDp hD6, ⟨kvs, how7, hown⟩, _, _, _, rfl⟩
    · obtain ⟨k6, hP6, hit6, hD6, ⟨kvs, how6, hown⟩, w4, w5, w6, rfl⟩ := p
      have sD : SqL K H6 D [.int a, .int b] := SqL.of hD6
      refine ⟨_, rfl, D, _, _, _, rfl, rfl, sD, rfl, _, rfl, D, _, _, _, rfl, rfl, sD, rfl, _, rfl, by show 3 ≤ sizeLine; decide, fun p hp => ?_⟩
      have sl := Same.new (o := .tup [.int a, .int b, .ref ow]) hp
      exact q _ p ow a b kvs (fun y u h e => sl _ _ (k6 _ _ h e)) ((hP6.same sl).less (by omega)) upd_same (sl _ _ how6) ha hb hown
end
end Ws
end
section
/-! _law_prices, _law_there, _law_task -/
namespace Ws
open PySem PySem.Spec PyProof.Rows L2
def keyOkN (names : List Str) : Prop := ∀ x ∈ names, nameOk x
theorem nobody_ok : nameOk nobody := by
  refine ⟨by decide +kernel, by decide +kernel, ?_⟩
  intro c hc
  have : ∀ c ∈ nobody.cps, (!(Builtin.Str.occurrences letters ⟨#[c]⟩ 0 letters.length 1).isEmpty) = true := by decide +kernel
  exact this c hc
def spPrices (CP : Addr) : Sp := fun vs H Q _ => ∃ de ow, ∃ names : List Str, ∃ a b : Int, ∃ kvs, vs = [.ref de] ∧ H de = some (.tup [.int a, .int b, .ref ow]) ∧ H ow = some (.dK kvs) ∧ prOk a ∧ prOk b ∧ OwnOk names kvs ∧ names.length ≤ 50 ∧ keyOkN names ∧
  ∀ H' y fk, Same H H' → PrAt CP H' y a b fk → (∀ z : Str, valV fk (.inr z : Key) = valV kvs (.inr z)) → Q (.ref y) H'
section
variable {P : Program} {w : World} {K : PySem.W.Frag} {mg : Str → Option Value} {base : Heap} {f fi CP : Addr} {fd fdi : FuncData}
abbrev nPr : List Str := ["_law_deal_here", "_law_found", "_law_one"]
theorem sc_prices : FnScope nPr ["_law_deal_here"] (defScope sPrices) := ⟨rfl, rfl, rfl, by decide +kernel, rfl, by decide +kernel, by decide +kernel⟩
theorem ok_prices (F : Fun K "_law_prices" "_law_prices" sPrices f fd) (g : Gm mg) (cp : PrC K CP) (M : Mk K CP fi) (Fi : FnOk P w K mg base CX0 3 fi fdi ["self", "raising", "lowering"] (spPrI CP)) (kb : KBn K fdi ["self", "raising", "lowering"] 1 ["raising", "lowering"] (fun us ws => us ++ ws) (fun vs zs => vs ++ zs)) (mP : mg "Prices" = some (.ref CP))
    (c1 : Mth P w K mg base 5 CP "with_price" (spWith CP)) : FnOk P w K mg base CX0 6 f fd ["_law_deal_here"] (spPrices CP) := by
  refine F.ok sc_prices (fun vs H Q E h => ?_) (fun cdv A outer s H vs Q E hr h => ?_)
  · obtain ⟨de, ow, names, a, b, kvs, rfl, _⟩ := h
    rfl
  · obtain ⟨de, ow, names, a, b, kvs, rfl, hde, how, pa, pb, hown, hn50, hnok, q⟩ := h
    have nd := sc_prices.nd
    have hu := hu_of hr
    refine ⟨_, (pss_cons (ps_set (i := 1) nd rfl (Or.inl rfl) (pe_makeK0 M Fi (hr.mono (by decide)) rfl mP kb pass0 (pk_cons (pe_ix ix_tup (pv 0) pe_int (fun _ _ => rfl)) (pk_cons (pe_ix ix_tup (pv 0) pe_int (fun _ _ => rfl)) pk_nil))))
      (pss_cons (ps_for PassesOwn.never rfl (pi_list (pe_sliceK (pe_callTy (call_listD rfl) rfl g.list boot_list (pa_cons (pe_ix ix_tup (pv 0) pe_int (fun _ _ => rfl)) pa_nil)))) (pg_name (i := 2) nd rfl (Or.inl rfl))
        (pss_one (ps_set (i := 1) nd rfl (Or.inl rfl) (pe_m (X := Cx.nox _) c1 hr (pv 1) (pa_cons (pv 2) (pa_cons (pe_ifExp (pt_cmp (pc_isN (pe_dget hu (pe_ix ix_tup (pv 0) pe_int (fun _ _ => rfl)) (pv 2) (fun _ _ => rfl)))) pe_int pe_non) pa_nil))))))
      (pss_cons (ps_lock (ps_for PassesOwn.never rfl (pi_keys (pe_ix ix_tup (pv 0) pe_int (fun _ _ => rfl))) (pg_name (i := 2) nd rfl (Or.inl rfl))
        (pss_one (ps_set (i := 1) nd rfl (Or.inl rfl) (pe_m (X := Cx.nox _) c1 hr (pv 1) (pa_cons (pv 2) (pa_cons (pe_dget hu (pe_ix ix_tup (pv 0) pe_int (fun _ _ => rfl)) (pv 2) (fun _ _ => rfl)) pa_nil)))))))
      (pss_one (ps_ret (pv 1)))))), ?_⟩
    have td : ∀ {H1 : Hp}, Same H H1 → SqT K H1 de [.int a, .int b, .ref ow] := fun s => SqT.of (s _ _ hde)
    have nameZ : ∀ z, (z ∈ names ∨ z = nobody) → nameOk z := fun z h => by
      rcases h with h | h
      · exact hnok z h
      · rw [h]; exact nobody_ok
    have hkl := hown.len
    refine ⟨_, rfl, de, _, _, _, rfl, rfl, td Same.refl, rfl, _, rfl, de, _, _, _, rfl, rfl, td Same.refl, rfl, rfl, rfl, fun y dy hy hdy nyd => ?_⟩
    refine ⟨y, dy, a, b, rfl, upd_same, pa, pb, fun H2 s2 pr => ⟨rfl, ?_⟩⟩
    have s02 : Same H H2 := fun z u e => s2 z u (ne_of_none e hy) (by rw [upd_ne (ne_of_none e hy), upd_ne (ne_of_none e hdy)]; exact e)
    -- the prices, their dict new
    let Pr : Hp → Addr → List (Key × V) → Prop := fun H' y fk => PrNew CP H H' y a b fk
    have pr2 : Pr H2 y [] := by
      obtain ⟨dx, gp, o, h1, h2⟩ := pr
      refine ⟨dx, gp, o, ?_, h2⟩
      cases e : H o with
      | none => rfl
      | some u =>
        have : (upd (upd H dy (.own y)) y (.ins CP dy [])) o = some u := by rw [upd_ne (ne_of_none e hy), upd_ne (ne_of_none e hdy)]; exact e
        rw [this] at h1; cases h1
    let Sub : List (Key × V) → Prop := fun fk => OwnOk names fk ∧ ∀ k : Key, k ∉ kvs.map (·.1) → valV fk k = none
    refine ⟨_, rfl, de, _, _, _, rfl, rfl, td s02, rfl, ow, kvs, rfl, Rd.of (s02 _ _ how), fun l hl => ?_⟩
    have s3 : Same H2 (upd H2 l (.lst (kvs.map fun kv => kV kv.1))) := Same.new hl
    refine ⟨l, _, rfl, SqL.of upd_same, fun p ys hp hys hyl => ?_⟩
    have s4 := s3.trans (Same.new (o := .lst ys) hp)
    have hp4 : (upd (upd H2 l (.lst (kvs.map fun kv => kV kv.1))) p (.lst ys)) p = some (.lst ys) := upd_same
    generalize (upd (upd H2 l (.lst (kvs.map fun kv => kV kv.1))) p (.lst ys)) = H4 at s4 hp4 ⊢
    have same : ∀ {H' H'' : Hp} {y fk}, Pr H' y fk → Same H' H'' → Pr H'' y fk := fun ⟨dx, gp, o, h1, h2, h3, h4⟩ s => ⟨dx, gp, o, h1, s _ _ h2, s _ _ h3, s _ _ h4⟩
    have step : ∀ {H' H'' : Hp} {y fk}, Same H H' → PrNew CP H' H'' y a b fk → Pr H'' y fk := fun s ⟨dx, gp, o, h1, h2⟩ => ⟨dx, gp, o, (by
      cases e : H o with
      | none => rfl
      | some u => rw [s _ _ e] at h1; cases h1), h2⟩
    have key : ∀ v ∈ kvs.map (fun kv => kV kv.1), ∃ z x, v = .str z ∧ (z ∈ names ∨ z = nobody) ∧ (Sum.inr z, x) ∈ kvs ∧ valV kvs (.inr z : Key) = some x := fun v hv => by
      obtain ⟨kv, hkv, rfl⟩ := List.mem_map.mp hv
      obtain ⟨z, e, hz⟩ := hown.key kv hkv
      obtain ⟨k, x⟩ := kv
      have e' : k = Sum.inr z := e
      subst e'
      exact ⟨z, x, rfl, hz, hkv, valV_mem (p := ((Sum.inr z : Key), x)) hown.nd hkv⟩
    have notin : ∀ {z x}, (Sum.inr z, x) ∈ kvs → ∀ k : Key, k ∉ kvs.map (·.1) → k ≠ Sum.inr z := fun h k hk e => hk (by rw [e]; exact List.mem_map_of_mem (f := fun p : Key × V => p.1) h)
    let P1 : Nat → L2.St → Hp → Prop := fun i σ H' => Same H4 H' ∧ ∃ y fk, Pr H' y fk ∧ Sub fk ∧ ∃ v2, σ = [some (.ref de), some (.ref y), v2]
    refine ⟨p, rfl, ⟨_, SqL.of hp4⟩, for_it (walk_list (K := K) (a := p) (xs := ys)) P1 ⟨Same.refl, y, [], same pr2 s4, ⟨OwnOk.nil _, fun _ _ => rfl⟩, _, rfl⟩ (fun _ _ _ _ p' => SqL.of (p'.1 _ _ hp4)) (fun i v σ H5 H5' hi pp yy => ?_) (fun σ H5 pp => ?_)⟩
    · obtain ⟨rfl, hv⟩ := yy
      obtain ⟨s5, y, fk, hpr, hsub, w2, rfl⟩ := pp
      obtain ⟨z, x, rfl, hz, hzk, hvz⟩ := key v (hys v (List.mem_of_getElem? hv))
      have s05 := (s02.trans s4).trans s5
      have how5 := s05 _ _ how
      obtain ⟨dx, gp, o, h1, h2, h3, h4⟩ := id hpr
      have hfl := hsub.1.len
      refine ⟨_, rfl, y, dx, _, rfl, h2, rfl, _, rfl, _, rfl, de, _, _, _, rfl, rfl, td s05, rfl, _, rfl, ow, x, rfl, by have := DGet.k (k := Sum.inr z) how5; rw [hvz] at this; exact this, _, rfl, ?_⟩
      have go : ∀ qp : Option Int, (∀ p, qp = some p → prOk p) → spWith CP [.ref y, .str z, oiV qp] H5' (fun v H' => gName 1 v [some (.ref de), some (.ref y), some (.str z)] H' (P1 (i + 1))) E0 := fun qp hq => by
        refine ⟨y, a, b, fk, z, qp, rfl, hpr.at, nameZ z hz, hq, pa, pb, by omega, hsub.1.nd, fun y' H6 s6 pr6 => ⟨s5.trans s6, y', _, step s05 pr6, ⟨hsub.1.put hz ?_, fun k hk => ?_⟩, _, rfl⟩⟩
        · cases qp with
          | none => exact .inl rfl
          | some i => exact .inr ⟨i, rfl, hq i rfl⟩
        · rw [valV_put, if_neg (notin hzk k hk)]
          exact hsub.2 k hk
      by_cases hx : x = .non
      · exact iteD hx (go (some 3) fun p e => by cases e; unfold prOk; omega)
      · exact iteDF hx (go none fun p e => by cases e)
    · obtain ⟨s5, y, fk, hpr, hsub, w2, rfl⟩ := pp
      have s05 := (s02.trans s4).trans s5
      have how5 := s05 _ _ how
      refine ⟨ow, _, how5, True.intro, fun oo => ?_⟩
      have hfz : upd H5 ow (.frz oo (.dK kvs)) ow = some (.frz oo (.dK kvs)) := upd_same
      have nof : ∀ (z : Addr) (u : HO), z ≠ ow → H5 z = some u → upd H5 ow (.frz oo (.dK kvs)) z = some u := fun z u hz e => by rw [upd_ne hz]; exact e
      have neo : ∀ {o : Addr}, H o = none → o ≠ ow := fun h e => by rw [e, how] at h; cases h
      have prl : Pr (upd H5 ow (.frz oo (.dK kvs))) y fk := by
        obtain ⟨dx, gp, o, h1, h2, h3, h4⟩ := hpr
        exact ⟨dx, gp, o, h1, nof _ _ (ne_of h2 how5 (fun z => nomatch z)) h2, nof _ _ (ne_of h3 how5 (fun z => nomatch z)) h3, nof _ _ (neo h1) h4⟩
      have hdel : upd H5 ow (.frz oo (.dK kvs)) de = some (.tup [.int a, .int b, .ref ow]) := nof _ _ (ne_of hde how (fun z => nomatch z)) (s05 _ _ hde)
      have slk : ∀ {H'}, Same (upd H5 ow (.frz oo (.dK kvs))) H' → Same H (upd H' ow (.dK kvs)) := fun s z u e => by
        by_cases h : z = ow
        · subst h; rw [how] at e; rw [upd_same]; exact e
        · rw [upd_ne h]; exact s _ _ (nof _ _ h (s05 _ _ e))
      generalize hHl : upd H5 ow (.frz oo (.dK kvs)) = Hl at hfz prl hdel slk ⊢
      have newH : ∀ {H' H'' : Hp} {y fk}, Same Hl H' → PrNew CP H' H'' y a b fk → Pr H'' y fk := fun s ⟨dx, gp, o, h1, h2⟩ => ⟨dx, gp, o, (by
        cases e : H o with
        | none => rfl
        | some u =>
          exfalso
          by_cases h : o = ow
          · rw [h, s _ _ hfz] at h1; cases h1
          · have := nof o u h (s05 _ _ e)
            rw [hHl] at this
            rw [s _ _ this] at h1; cases h1), h2⟩
      let P2 : Nat → L2.St → Hp → Prop := fun i σ H' => Same Hl H' ∧ ∃ y fk, Pr H' y fk ∧ Sub fk ∧ (∀ j k x, j < i → kvs[j]? = some (k, x) → valV fk k = some x) ∧ ∃ v2, σ = [some (.ref de), some (.ref y), v2]
      refine ⟨_, rfl, de, _, _, _, rfl, rfl, SqT.of hdel, rfl, ow, oo, rfl, .inl ⟨kvs, hfz, for_it walk_keys P2 ⟨Same.refl, y, fk, prl, hsub, fun j k x hj => absurd hj (Nat.not_lt_zero _), _, rfl⟩ (fun _ _ _ _ p' => p'.1 _ _ hfz) (fun i v σ H6 H6' hi pp yy => ?_) (fun σ H6 pp => ?_)⟩⟩
      · obtain ⟨rfl, k, x, hkx, rfl⟩ := yy
        obtain ⟨s6, y, fk, hpr, hsub, hdone, w2, rfl⟩ := pp
        have hmem := List.mem_of_getElem? hkx
        obtain ⟨z, e, hz⟩ := hown.key (k, x) hmem
        have e' : k = Sum.inr z := e
        subst e'
        have hvz := valV_mem (p := ((Sum.inr z : Key), x)) hown.nd hmem
        obtain ⟨dx, gp, o, h1, h2, h3, h4⟩ := id hpr
        have hfl := hsub.1.len
        obtain ⟨qp, rfl, hqp⟩ : ∃ qp, x = oiV qp ∧ ∀ p, qp = some p → prOk p := by
          rcases hown.val _ hmem with h | ⟨i, h, hi⟩
          · exact ⟨none, h, fun p e => by cases e⟩
          · exact ⟨some i, h, fun p e => by cases e; exact hi⟩
        refine ⟨_, rfl, y, dx, _, rfl, h2, rfl, _, rfl, _, rfl, de, _, _, _, rfl, rfl, SqT.of (s6 _ _ hdel), rfl, _, rfl, ow, oiV qp, rfl, .inl ⟨kvs, Sum.inr z, .inr ⟨oo, s6 _ _ hfz⟩, rfl, hvz.symm⟩, ?_⟩
        refine ⟨y, a, b, fk, z, qp, rfl, hpr.at, nameZ z hz, hqp, pa, pb, by omega, hsub.1.nd, fun y' H7 s7 pr7 => ⟨s6.trans s7, y', _, newH s6 pr7, ⟨hsub.1.put hz ?_, fun k hk => ?_⟩, fun j k x' hj hjx => ?_, _, rfl⟩⟩
        · cases qp with
          | none => exact .inl rfl
          | some i => exact .inr ⟨i, rfl, hqp i rfl⟩
        · rw [valV_put, if_neg (notin hmem k hk)]
          exact hsub.2 k hk
        · rw [valV_put]
          by_cases hk : k = Sum.inr z
          · rw [if_pos hk]
            have := valV_mem (p := (k, x')) hown.nd (List.mem_of_getElem? hjx)
            rw [hk] at this
            rw [← hvz]; exact this
          · rw [if_neg hk]
            have hne : j ≠ i := fun e => by rw [e, hkx] at hjx; cases hjx; exact hk rfl
            exact hdone j k x' (by omega) hjx
      · obtain ⟨s6, y, fk, hpr, hsub, hdone, w2, rfl⟩ := pp
        refine ⟨s6 _ _ hfz, _, rfl, q _ y fk (slk s6) ?_ fun z => ?_⟩
        · obtain ⟨dx, gp, o, h1, h2, h3, h4⟩ := hpr
          have hfz6 := s6 _ _ hfz
          exact ⟨dx, gp, o, (upd_ne (ne_of h2 hfz6 (fun z => nomatch z))).trans h2, (upd_ne (ne_of h3 hfz6 (fun z => nomatch z))).trans h3, (upd_ne (neo h1)).trans h4⟩
        · cases e : valV kvs (.inr z : Key) with
          | some x =>
            obtain ⟨j, hj⟩ := List.mem_iff_getElem?.mp (valV_in e)
            exact hdone j _ _ (List.getElem?_eq_some_iff.mp hj).1 hj
          | none =>
            refine hsub.2 _ fun hk => ?_
            obtain ⟨p, hp, ep⟩ := List.mem_map.mp hk
            have := valV_mem hown.nd hp
            rw [show p.1 = Sum.inr z from ep, e] at this; cases this
end
end Ws
end
section
/-! _law_there, _law_task, _law_price -/
namespace Ws
open PySem PySem.Spec PyProof.Rows L2
abbrev sPrice : Stmt := top 63
/-- the law's model of a task -/
structure Md where
  names : List Str
  rl : List (Addr × Rule)
  old : Str → Int
  a : Int
  b : Int
  own : List (Key × V)
structure MdAt (H : Hp) (m ny ga od de : Addr) (d : Md) : Prop where
  at_ : H m = some (.tup [.ref ny, .ref ga, .ref od, .ref de])
  ny : H ny = some (.lst (d.names.map V.str))
  ga : H ga = some (.lst (refsR d.rl))
  tup : ∀ r ∈ d.rl, H r.1 = some (.tup (ruleVs r.2))
  od : H od = some (.dK (oldK d.names d.old))
  de : ∃ ow, H de = some (.tup [.int d.a, .int d.b, .ref ow]) ∧ H ow = some (.dK d.own)
structure Md.Ok (d : Md) : Prop where
  nd : d.names.Nodup
  len : d.names.length ≤ 4
  nok : keyOkN d.names
  sok : ∀ n ∈ d.names, PyData.strOk n = true
  rlen : d.rl.length ≤ 100
  rule : ∀ r ∈ d.rl, ruleOk r.2 ∧ (∀ z, r.2.1 = some z → z ∈ d.names) ∧ ∀ z, r.2.2.1 = some z → z ∈ d.names
  old : ∀ n ∈ d.names, -9999 ≤ d.old n ∧ d.old n ≤ 9999
  pa : prOk d.a
  pb : prOk d.b
  own : OwnOk d.names d.own
theorem MdAt.same {H H' : Hp} {m ny ga od de : Addr} {d : Md} (x : MdAt H m ny ga od de d) (s : Same H H') : MdAt H' m ny ga od de d :=
  ⟨s _ _ x.at_, s _ _ x.ny, s _ _ x.ga, fun r hr => s _ _ (x.tup r hr), s _ _ x.od, let ⟨ow, h1, h2⟩ := x.de; ⟨ow, s _ _ h1, s _ _ h2⟩⟩
/-- the task made of it -/
structure TkOf (d : Md) (t : Tk) : Prop where
  ss : t.ss.Perm d.names
  rl : RulesOf d.rl t.rl
  up : t.up = d.a
  lo : t.lo = d.b
  own : ∀ z : Str, valV t.own (.inr z : Key) = valV d.own (.inr z)
  old : t.old = d.old
def spThere (CS : Addr) : Sp := fun vs H Q _ => ∃ m ny ga od de d, vs = [.ref m] ∧ MdAt H m ny ga od de d ∧ d.Ok ∧ ∀ H' x ss out, Same H H' → SysAt CS H' x ss out → ss.Perm d.names → RulesOf d.rl out → Q (.ref x) H'
def spTask (C : TAd) : Sp := fun vs H Q _ => ∃ m ny ga od de d, vs = [.ref m] ∧ MdAt H m ny ga od de d ∧ d.Ok ∧ ∀ H' x t sy pr o2, Same H H' → TaskAt C H' x t sy pr o2 → TkOf d t → Q (.ref x) H'
/-! ### prices -/
def Md.fixed (d : Md) (n : Str) : Bool := decide (valV d.own (.inr n : Key) = some .non)
def Md.each (d : Md) (n : Str) (w : Int) : V := (valV d.own (.inr n : Key)).getD (.int (if 0 < w then d.a else d.b))
def Md.eachI (d : Md) (n : Str) (w : Int) : Int := match valV d.own (.inr n : Key) with
  | some (.int i) => i
  | _ => if 0 < w then d.a else d.b
def absI (w : Int) : Int := if w < 0 then -w else w
def Md.cost (d : Md) (x : Str → Int) (n : Str) : Int := if x n - d.old n = 0 then 0 else d.eachI n (x n - d.old n) * absI (x n - d.old n)
def Md.moved (d : Md) (x : Str → Int) (n : Str) : Bool := d.fixed n && decide (x n - d.old n ≠ 0)
def Md.price (d : Md) (x : Str → Int) : Option Int := if d.names.any (d.moved x) = true then none else some ((d.names.map (d.cost x)).sum)
def spPrice : Sp := fun vs H Q _ => ∃ m ny ga od de d q x, vs = [.ref m, .ref q] ∧ MdAt H m ny ga od de d ∧ d.Ok ∧ H q = some (.dK (oldK d.names x)) ∧ Q (oiV (d.price x)) H
theorem each_val {d : Md} (ok : d.Ok) (n : Str) (w : Int) : (d.each n w = .non ∧ d.fixed n = true) ∨ (d.each n w = .int (d.eachI n w) ∧ d.fixed n = false ∧ 1 ≤ d.eachI n w ∧ d.eachI n w ≤ 999) := by
  unfold Md.each Md.eachI Md.fixed
  have dflt : 1 ≤ (if 0 < w then d.a else d.b) ∧ (if 0 < w then d.a else d.b) ≤ 999 := by
    split
    · exact ok.pa
    · exact ok.pb
  cases e : valV d.own (.inr n : Key) with
  | none => exact .inr ⟨rfl, by simp, dflt⟩
  | some v =>
    rcases ok.own.val _ (valV_in e) with h | ⟨i, h, hi⟩
    · have h' : v = .non := h
      subst h'
      exact .inl ⟨rfl, by simp⟩
    · have h' : v = .int i := h
      subst h'
      exact .inr ⟨rfl, by simp, hi⟩
section
variable {P : Program} {w : World} {K : PySem.W.Frag} {mg : Str → Option Value} {base : Heap} {f CS : Addr} {C : TAd} {fd : FuncData}
theorem sc_there : FnScope ["_law_model"] ["_law_model"] (defScope sThere) := ⟨rfl, rfl, rfl, by decide +kernel, rfl, by decide +kernel, by decide +kernel⟩
theorem ok_there (F : Fun K "_law_there" "_law_there" sThere f fd) (g : Gm mg) (c1 : Mkr P w K mg base 6 "System" CS (spSys CS)) : FnOk P w K mg base CX0 8 f fd ["_law_model"] (spThere CS) := by
  refine F.ok sc_there (fun vs H Q E h => ?_) (fun cdv A outer s H vs Q E hr h => ?_)
  · obtain ⟨m, ny, ga, od, de, d, rfl, _⟩ := h
    rfl
  · obtain ⟨m, ny, ga, od, de, d, rfl, hm, ok, q⟩ := h
    refine ⟨_, pss_one (ps_ret (pe_new (X := Cx.nox _) c1 hr (pa_cons (pe_callTy call_list_of rfl g.list boot_list (pa_cons (pe_ix ix_tup (pv 0) pe_int (fun _ _ => rfl)) pa_nil)) (pa_cons (pe_callTy call_list_of rfl g.list boot_list (pa_cons (pe_ix ix_tup (pv 0) pe_int (fun _ _ => rfl)) pa_nil)) pa_nil)))), ?_⟩
    refine ⟨_, rfl, m, _, _, _, rfl, rfl, SqT.of hm.at_, rfl, ny, _, rfl, .inl (SqL.of hm.ny), fun l1 hl1 => ?_⟩
    have s1 : Same H (upd H l1 (.lst (d.names.map V.str))) := Same.new hl1
    refine ⟨_, rfl, m, _, _, _, rfl, rfl, SqT.of (s1 _ _ hm.at_), rfl, ga, _, rfl, .inl (SqL.of (s1 _ _ hm.ga)), fun l2 hl2 => ?_⟩
    have s2 : Same (upd H l1 (.lst (d.names.map V.str))) (upd (upd H l1 (.lst (d.names.map V.str))) l2 (.lst (refsR d.rl))) := Same.new hl2
    have h12 := s2 _ _ (show upd H l1 (.lst (d.names.map V.str)) l1 = some (.lst (d.names.map V.str)) from upd_same)
    have h22 : upd (upd H l1 (.lst (d.names.map V.str))) l2 (.lst (refsR d.rl)) l2 = some (.lst (refsR d.rl)) := upd_same
    have m2 := hm.same (s1.trans s2)
    have s02 := s1.trans s2
    generalize upd (upd H l1 (.lst (d.names.map V.str))) l2 (.lst (refsR d.rl)) = H2 at h12 h22 m2 s02 ⊢
    intro x dx hx hdx ndx
    have s3 : Same H2 (upd (upd H2 dx (.own x)) x (.ins CS dx [])) := fun z u e => by rw [upd_ne (ne_of_none e hx), upd_ne (ne_of_none e hdx)]; exact e
    refine ⟨x, dx, l1, l2, d.names, d.rl, rfl, upd_same, s3 _ _ h12, ok.nd, by have := ok.len; omega, ok.nok, s3 _ _ h22, fun r hr => s3 _ _ (m2.tup r hr), ok.rule, by have := ok.rlen; omega, fun H4 ss out k4 sys hperm hsort hrules => ⟨rfl, q H4 x ss out (fun z u e => ?_) sys hperm hrules⟩⟩
    have e2 := s02 _ _ e
    exact k4 z u (ne_of_none e2 hx) (s3 _ _ e2)
theorem sc_task : FnScope ["_law_model"] ["_law_model"] (defScope sTask) := ⟨rfl, rfl, rfl, by decide +kernel, rfl, by decide +kernel, by decide +kernel⟩
theorem ok_task (F : Fun K "_law_task" "_law_task" sTask f fd) (c1 : Cal P w K mg base 8 "_law_there" (spThere C.CS)) (c2 : Cal P w K mg base 6 "_law_prices" (spPrices C.CP)) (c3 : Mkr P w K mg base 5 "Task" C.CT (spTInit C)) : FnOk P w K mg base CX0 9 f fd ["_law_model"] (spTask C) := by
  refine F.ok sc_task (fun vs H Q E h => ?_) (fun cdv A outer s H vs Q E hr h => ?_)
  · obtain ⟨m, ny, ga, od, de, d, rfl, _⟩ := h
    rfl
  · obtain ⟨m, ny, ga, od, de, d, rfl, hm, ok, q⟩ := h
    refine ⟨_, pss_one (ps_ret (pe_new (X := Cx.nox _) c3 hr (pa_cons (pe_f (X := Cx.nox _) c1 hr (pa_cons (pv 0) pa_nil)) (pa_cons (pe_ix ix_tup (pv 0) pe_int (fun _ _ => rfl)) (pa_cons (pe_f (X := Cx.nox _) c2 hr (pa_cons (pe_ix ix_tup (pv 0) pe_int (fun _ _ => rfl)) pa_nil)) pa_nil))))), ?_⟩
    refine ⟨_, rfl, m, ny, ga, od, de, d, rfl, hm, ok, fun H1 sy ss out s1 sys hperm hrules => ?_⟩
    have m1 := hm.same s1
    refine ⟨_, rfl, m, _, _, _, rfl, rfl, SqT.of m1.at_, rfl, _, rfl, m, _, _, _, rfl, rfl, SqT.of m1.at_, rfl, ?_⟩
    obtain ⟨ow, hde, how⟩ := m1.de
    refine ⟨de, ow, d.names, d.a, d.b, d.own, rfl, hde, how, ok.pa, ok.pb, ok.own, by have := ok.len; omega, ok.nok, fun H2 pr fk s2 hpr hfk => ?_⟩
    have m2 := m1.same s2
    intro x dx hx hdx ndx
    have s3 : Same H2 (upd (upd H2 dx (.own x)) x (.ins C.CT dx [])) := fun z u e => by rw [upd_ne (ne_of_none e hx), upd_ne (ne_of_none e hdx)]; exact e
    have hlen := hperm.length_eq
    refine ⟨x, dx, sy, od, pr, ss, out, _, d.a, d.b, fk, d.old, rfl, upd_same, (sys.same s2).same s3, by have := ok.len; omega, hperm.nodup_iff.mpr ok.nd, s3 _ _ m2.od, by rw [oldK, List.length_map, hlen], fun n hn => ?_, hpr.same s3, fun o2 H4 k4 ta => ⟨rfl, q H4 x _ sy pr o2 (fun z u e => ?_) ta ⟨hperm, hrules, rfl, rfl, hfk, rfl⟩⟩⟩
    · have hn' := hperm.mem_iff.mp hn
      have := ok.old n hn'
      rw [valV_old ok.nd]
      unfold oldF
      rw [if_pos hn']
      exact ⟨rfl, by omega, by omega⟩
    · have e2 := s2 _ _ (s1 _ _ e)
      exact k4 z u (ne_of_none e2 hx) (s3 _ _ e2)
abbrev nPi : List Str := ["_law_model", "_law_held", "_law_nyms_here", "_law_gaps_here", "_law_old", "_law_deal_here", "_law_summed", "_law_nym", "_law_way", "_law_each"]
theorem sc_price : FnScope nPi ["_law_model", "_law_held"] (defScope sPrice) := ⟨rfl, rfl, rfl, by decide +kernel, rfl, by decide +kernel, by decide +kernel⟩
theorem ok_price (F : Fun K "_law_price" "_law_price" sPrice f fd) (g : Gm mg) : FnOk P w K mg base CX0 1 f fd ["_law_model", "_law_held"] spPrice := by
  refine F.ok sc_price (fun vs H Q E h => ?_) (fun cdv A outer s H vs Q E hr h => ?_)
  · obtain ⟨m, ny, ga, od, de, d, q, x, rfl, _⟩ := h
    rfl
  · obtain ⟨m, ny, ga, od, de, d, qa, x, rfl, hm, ok, hq, fin⟩ := h
    have nd := sc_price.nd
    have hu := hu_of hr
    refine ⟨_, (pss_cons (ps_asg (pv 0) (pg_tup (n := 4) rfl (pgs_cons (pg_name (i := 2) nd rfl (Or.inl rfl)) (pgs_cons (pg_name (i := 3) nd rfl (Or.inl rfl)) (pgs_cons (pg_name (i := 4) nd rfl (Or.inl rfl)) (pgs_cons (pg_name (i := 5) nd rfl (Or.inl rfl)) pgs_nil))))))
      (pss_cons (ps_set (i := 6) nd rfl (Or.inl rfl) pe_int)
      (pss_cons (ps_for PassesOwn.never rfl (pi_list (pv 2)) (pg_name (i := 7) nd rfl (Or.inl rfl))
        (pss_cons (ps_set (i := 8) nd rfl (Or.inl rfl) (pe_sub (pe_dget hu (pv 1) (pv 7) (fun _ _ => rfl)) (pe_dget hu (pv 4) (pv 7) (fun _ _ => rfl))))
        (pss_cons (ps_set (i := 9) nd rfl (Or.inl rfl) (pe_dget2 hu (pe_ix ix_tup (pv 5) pe_int (fun _ _ => rfl)) (pv 7) (pe_ifExp (pt_cmpR op_gt (pv 8) pe_int (nomark _)) (pe_ix ix_tup (pv 5) pe_int (fun _ _ => rfl)) (pe_ix ix_tup (pv 5) pe_int (fun _ _ => rfl))) ⟨rfl, rfl, rfl, rfl⟩))
        (pss_cons (ps_if (PW.pt (pw_and (pt_cmpR op_ne (pv 8) pe_int (nomark _)) (pw_and1 (pt_cmp (pc_isN (pv 9)))))) (pss_one (ps_ret pe_non)) pss_nil)
        (pss_one (ps_set (i := 6) nd rfl (Or.inl rfl) (pe_add (pv 6) (pe_ifExp (pt_cmpR op_eq (pv 8) pe_int (nomark _)) pe_int (pe_op op_mul (pv 9) (pe_callB call_abs rfl g.abs (by decide +kernel) (pa_cons (pv 8) pa_nil)))))))))))
      (pss_one (ps_ret (pv 6)))))), ?_⟩
    obtain ⟨ow, hde, how⟩ := hm.de
    refine ⟨_, rfl, m, _, rfl, SqT.of hm.at_, rfl, _, _, rfl, _, _, rfl, _, _, rfl, _, _, rfl, rfl, ?_⟩
    let Pv : Nat → L2.St → Hp → Prop := fun i σ H' => H' = H ∧ (d.names.take i).any (d.moved x) = false ∧ ∃ v7 v8 v9, σ = [some (.ref m), some (.ref qa), some (.ref ny), some (.ref ga), some (.ref od), some (.ref de), some (.int (((d.names.take i).map (d.cost x)).sum)), v7, v8, v9]
    refine ⟨_, rfl, ny, rfl, ⟨_, SqL.of hm.ny⟩, for_it walk_list Pv ⟨rfl, rfl, _, _, _, rfl⟩ (fun i σ H' _ p => by rw [p.1]; exact SqL.of hm.ny) (fun i v σ H1 H1' hi p y => ?_) (fun σ H1 p => ?_)⟩
    · obtain ⟨rfl, hv⟩ := y
      rw [List.getElem?_map] at hv
      obtain ⟨n, hn, rfl⟩ := Option.map_eq_some_iff.mp hv
      obtain ⟨rfl, hany, w7, w8, w9, rfl⟩ := p
      have hnm := List.mem_of_getElem? hn
      have htk : d.names.take (i + 1) = d.names.take i ++ [n] := by rw [List.take_add_one, hn]; rfl
      have dg : ∀ {a : Addr} {z : Str → Int}, H1' a = some (.dK (oldK d.names z)) → DGet H1' a (.str n) (some (.int (z n))) := fun h => by
        have := DGet.k (k := Sum.inr n) h
        rw [valV_old ok.nd] at this
        unfold oldF at this
        rw [if_pos hnm] at this
        exact this
      refine ⟨_, rfl, _, rfl, qa, _, rfl, dg hq, _, rfl, _, rfl, od, _, rfl, dg hm.od, _, _, rfl, rfl, ?_⟩
      refine ⟨_, rfl, de, _, _, _, rfl, rfl, SqT.of hde, rfl, ow, rfl, .inl ⟨_, .inl how⟩, _, rfl, _, rfl, _, _, rfl, rfl, _, rfl, ?_⟩
      -- the default
      have rest : ∀ R : V → Hp → Prop, R (.int (if 0 < x n - d.old n then d.a else d.b)) H1' → (if decide (x n - d.old n > 0) = true then tOp (rIxT K) (tVar 5) (tC (.int 0)) ([some (.ref m), some (.ref qa), some (.ref ny), some (.ref ga), some (.ref od), some (.ref de), some (.int (((d.names.take i).map (d.cost x)).sum)), some (.str n), some (.int (x n - d.old n)), w9]) H1' R else tOp (rIxT K) (tVar 5) (tC (.int 1)) ([some (.ref m), some (.ref qa), some (.ref ny), some (.ref ga), some (.ref od), some (.ref de), some (.int (((d.names.take i).map (d.cost x)).sum)), some (.str n), some (.int (x n - d.old n)), w9]) H1' R) := fun R hR => by
        by_cases h : x n - d.old n > 0
        · rw [if_pos (decide_eq_true h)]
          rw [if_pos h] at hR
          exact ⟨_, rfl, de, _, _, _, rfl, rfl, SqT.of hde, rfl, hR⟩
        · rw [if_neg (by rw [decide_eq_false h]; exact Bool.false_ne_true)]
          rw [if_neg h] at hR
          exact ⟨_, rfl, de, _, _, _, rfl, rfl, SqT.of hde, rfl, hR⟩
      refine rest _ ?_
      refine ⟨_, DGet.k (k := Sum.inr n) how, ?_⟩
      have hev : (valV d.own (Sum.inr n : Key)).getD (.int (if 0 < x n - d.old n then d.a else d.b)) = d.each n (x n - d.old n) := rfl
      rw [hev]
      have hcost : d.cost x n = if x n - d.old n = 0 then 0 else d.eachI n (x n - d.old n) * absI (x n - d.old n) := rfl
      have hmoved : d.moved x n = (d.fixed n && decide (x n - d.old n ≠ 0)) := rfl
      generalize hw : x n - d.old n = w at hcost hmoved ⊢
      refine ⟨_, rfl, rfl, _, rfl, ?_⟩
      have hwd : decide (V.int w = V.int 0) = decide (w = 0) := by
        by_cases h : w = 0
        · rw [h, decide_eq_true rfl, decide_eq_true rfl]
        · rw [decide_eq_false h, decide_eq_false fun z => h (V.int.inj z)]
      have hlast : d.fixed n = false ∨ w = 0 → ((List.take (i + 1) d.names).any (d.moved x)) = false := fun h => by
        rw [htk, List.any_append, hany]
        show (false || (d.moved x n || false)) = false
        rw [hmoved]
        rcases h with h | h
        · rw [h]; rfl
        · rw [h]; simp
      have hsum : (((d.names.take (i + 1)).map (d.cost x)).sum) = ((d.names.take i).map (d.cost x)).sum + (if w = 0 then 0 else d.eachI n w * absI w) := by
        rw [htk, List.map_append, List.sum_append, ← hcost]
        show _ + (d.cost x n + 0) = _
        rw [Int.add_zero]
      rw [hwd]
      rcases each_val ok n w with ⟨h1, h2⟩ | ⟨h1, h2, h3, h4⟩
      · by_cases h0 : w = 0
        · rw [decide_eq_true h0]
          refine iteF (iteF ?_)
          refine ⟨_, rfl, _, rfl, rfl, _, rfl, ?_⟩
          rw [hwd, decide_eq_true h0]
          refine iteT ⟨_, _, rfl, rfl, rfl, hlast (.inr h0), some (.str n), some (.int w), some (d.each n w), ?_⟩
          rw [hsum, if_pos h0]; rfl
        · rw [decide_eq_false h0]
          refine iteT ⟨_, rfl, _, by rw [h1]; rfl, iteT ?_⟩
          have hp : d.price x = none := by
            unfold Md.price
            rw [if_pos]
            refine List.any_eq_true.mpr ⟨n, hnm, ?_⟩
            rw [hmoved, h2, decide_eq_true h0]; rfl
          rw [hp] at fin
          exact fin
      · have common : ∀ R : L2.St → Hp → Prop, R ([some (.ref m), some (.ref qa), some (.ref ny), some (.ref ga), some (.ref od), some (.ref de), some (.int (((d.names.take i).map (d.cost x)).sum)), some (.str n), some (.int w), some (.int (d.eachI n w))].set 6 (some (.int (((d.names.take i).map (d.cost x)).sum + (if w = 0 then 0 else d.eachI n w * absI w))))) H1' → tAsg (tAdd (tVar 6) (tIf (tTest (tOp rEq (tVar 8) (tC (.int 0)))) (tC (.int 0)) (tOp (rI CMul fun i j => .int (i * j)) (tVar 9) (tCB (fun xs H Q => ∃ i, xs = [.int i] ∧ Q (.int (if i < 0 then -i else i)) H) (tCons (tVar 8) tNil))))) (gName 6) ⟨R, fun _ _ => False, R, R⟩ [some (.ref m), some (.ref qa), some (.ref ny), some (.ref ga), some (.ref od), some (.ref de), some (.int (((d.names.take i).map (d.cost x)).sum)), some (.str n), some (.int w), some (.int (d.eachI n w))] H1' := fun R hR => by
          refine ⟨_, rfl, _, rfl, rfl, _, rfl, ?_⟩
          rw [hwd]
          by_cases h0 : w = 0
          · rw [if_pos h0] at hR
            refine iteD h0 ⟨_, _, rfl, rfl, hR⟩
          · rw [if_neg h0] at hR
            refine iteDF h0 ⟨_, rfl, _, rfl, w, rfl, _, _, rfl, rfl, .inl ⟨by omega, by omega⟩, _, _, rfl, rfl, hR⟩
        have fin2 : Pv (i + 1) ([some (.ref m), some (.ref qa), some (.ref ny), some (.ref ga), some (.ref od), some (.ref de), some (.int (((d.names.take i).map (d.cost x)).sum)), some (.str n), some (.int w), some (.int (d.eachI n w))].set 6 (some (.int (((d.names.take i).map (d.cost x)).sum + (if w = 0 then 0 else d.eachI n w * absI w))))) H1' := ⟨rfl, hlast (.inl h2), some (.str n), some (.int w), some (.int (d.eachI n w)), by rw [hsum]; rfl⟩
        rw [h1]
        by_cases h0 : w = 0
        · rw [decide_eq_true h0]
          exact iteF (iteF (common _ fin2))
        · rw [decide_eq_false h0]
          refine iteT ⟨_, rfl, _, rfl, iteF (common _ fin2)⟩
    · obtain ⟨rfl, hany, w7, w8, w9, rfl⟩ := p
      rw [List.length_map, List.take_length] at hany
      refine ⟨_, rfl, ?_⟩
      rw [List.length_map, List.take_length]
      unfold Md.price at fin
      rw [hany, if_neg Bool.false_ne_true] at fin
      exact fin
end
end Ws
end
section
/-! _law_all_numbers -/
namespace Ws
open PySem PySem.Spec PyProof.Rows L2
abbrev sAll : Stmt := top 65
theorem merge_nodup : ∀ {more acc : List (Key × V)}, ((acc ++ more).map (·.1)).Nodup → mergeK acc more = acc ++ more
  | [], acc, _ => (List.append_nil acc).symm
  | p :: more, acc, h => by
    show mergeK (putK acc p.1 p.2) more = _
    have hn : p.1 ∉ acc.map (·.1) := fun z => by
      rw [List.map_append, List.map_cons] at h
      exact (List.nodup_append.mp h).2.2 _ z _ List.mem_cons_self rfl
    have e : putK acc p.1 p.2 = acc ++ [p] := putK_new hn
    rw [e, merge_nodup (by rw [List.append_assoc]; exact h), List.append_assoc]
    rfl
abbrev Fn := Addr × (Str → Int)
def refsF (fs : List Fn) : List V := fs.map fun x => .ref x.1
/-- dicts of all numbers of a box -/
structure Box (H : Hp) (pre : List Str) (low : Int) (fs : List Fn) : Prop where
  at_ : ∀ e ∈ fs, H e.1 = some (.dK (oldK pre e.2)) ∧ ∀ n ∈ pre, low ≤ e.2 n ∧ e.2 n ≤ low + 3
  all : ∀ y : Str → Int, (∀ n ∈ pre, low ≤ y n ∧ y n ≤ low + 3) → ∃ e ∈ fs, ∀ n ∈ pre, e.2 n = y n
theorem Box.same {H H' : Hp} {pre : List Str} {low : Int} {fs : List Fn} (b : Box H pre low fs) (s : ∀ e ∈ fs, ∀ u, H e.1 = some u → H' e.1 = some u) : Box H' pre low fs := ⟨fun e he => ⟨s e he _ (b.at_ e he).1, (b.at_ e he).2⟩, b.all⟩
def spAll : Sp := fun vs H Q _ => ∃ ny, ∃ names : List Str, ∃ low : Int, vs = [.ref ny, .int low, .int 3] ∧ H ny = some (.lst (names.map V.str)) ∧ names.Nodup ∧ names.length ≤ 4 ∧
  ∀ H' p fs, Same H H' → H' p = some (.lst (refsF fs)) → Box H' names low fs → fs.length ≤ 256 → Q (.ref p) H'
/-- one more -/
def setF (x : Str → Int) (n : Str) (v : Int) : Str → Int := fun z => if z = n then v else x z
theorem oldK_snoc {pre : List Str} {x : Str → Int} {n : Str} {v : Int} (hn : n ∉ pre) : oldK pre x ++ [((Sum.inr n : Key), V.int v)] = oldK (pre ++ [n]) (setF x n v) := by
  unfold oldK
  rw [List.map_append]
  congr 1
  · refine List.map_congr_left fun z hz => ?_
    show ((Sum.inr z : Key), V.int (x z)) = (Sum.inr z, V.int (if z = n then v else x z))
    rw [if_neg (fun e : z = n => hn (e ▸ hz))]
  · show _ = [((Sum.inr n : Key), V.int (if n = n then v else x n))]
    rw [if_pos rfl]
theorem oldK_keys (pre : List Str) (x : Str → Int) : (oldK pre x).map (·.1) = pre.map Sum.inr := by
  unfold oldK
  rw [List.map_map]; rfl
theorem keys_nodup {pre : List Str} (h : pre.Nodup) : (pre.map (Sum.inr : Str → Key)).Nodup := List.pairwise_map.mpr (h.imp fun h z => h (Sum.inr.inj z))
/-- what is made of the first j, and of the next one up to k -/
structure More (H : Hp) (pre : List Str) (n : Str) (low : Int) (fs : List Fn) (j k : Nat) (ms : List Fn) : Prop where
  at_ : ∀ e ∈ ms, H e.1 = some (.dK (oldK (pre ++ [n]) e.2)) ∧ ∀ z ∈ pre ++ [n], low ≤ e.2 z ∧ e.2 z ≤ low + 3
  all : ∀ e ∈ fs.take j, ∀ i : Nat, i < 4 → ∃ m ∈ ms, m.2 = setF e.2 n (low + i)
  now : ∀ e, fs[j]? = some e → ∀ i : Nat, i < k → ∃ m ∈ ms, m.2 = setF e.2 n (low + i)
  len : ms.length ≤ 4 * j + k
section
variable {P : Program} {w : World} {K : PySem.W.Frag} {mg : Str → Option Value} {base : Heap} {f : Addr} {fd : FuncData}
abbrev nAl : List Str := ["_law_nyms_here", "_law_low", "_law_tops", "_law_found", "_law_nym", "_law_more", "_law_one", "_law_k"]
theorem sc_all : FnScope nAl ["_law_nyms_here", "_law_low", "_law_tops"] (defScope sAll) := ⟨rfl, rfl, rfl, by decide +kernel, rfl, by decide +kernel, by decide +kernel⟩
theorem ok_all (F : Fun K "_law_all_numbers" "_law_all_numbers" sAll f fd) (g : Gm mg) : FnOk P w K mg base CX0 1 f fd ["_law_nyms_here", "_law_low", "_law_tops"] spAll := by
  refine F.ok sc_all (fun vs H Q E h => ?_) (fun cdv A outer s H vs Q E hr h => ?_)
  · obtain ⟨ny, names, low, rfl, _⟩ := h
    rfl
  · obtain ⟨ny, names, low, rfl, hny, hnd, hn4, q⟩ := h
    have nd := sc_all.nd
    refine ⟨_, (pss_cons (ps_set (i := 3) nd rfl (Or.inl rfl) (pe_lst (pa_cons pe_dnewK pa_nil)))
      (pss_cons (ps_for PassesOwn.never rfl (pi_list (pv 0)) (pg_name (i := 4) nd rfl (Or.inl rfl))
        (pss_cons (ps_set (i := 5) nd rfl (Or.inl rfl) (pe_lst pa_nil))
        (pss_cons (ps_for PassesOwn.never rfl (pi_list (pv 3)) (pg_name (i := 6) nd rfl (Or.inl rfl))
          (pss_one (ps_for PassesOwn.never rfl (pi_range1 rfl g.range (pa_cons (pe_add (pv 2) pe_int) pa_nil)) (pg_name (i := 7) nd rfl (Or.inl rfl))
            (pss_one (ps_expr (pe_bm PySem.F.plainAttrs_list PySem.F.slot_list_append PySem.F.type_list_append mt_append (pv 5) (pa_cons (pe_callTy (call_dictP rfl) rfl g.dict PyProof.Rows.boot_dict (pa_cons (pe_op op_cat (LiI.pe_listItems rfl (pv 6) rfl g.list boot_list) (pe_lst (pa_cons (pe_tup (pa_cons (pv 4) (pa_cons (pe_add (pv 1) (pv 7)) pa_nil))) pa_nil))) pa_nil)) pa_nil)))))))
        (pss_one (ps_set (i := 3) nd rfl (Or.inl rfl) (pv 5))))))
      (pss_one (ps_ret (pv 3))))), ?_⟩
    intro d0 hd0
    refine ⟨by show 1 ≤ sizeLine; decide, fun f0 hf0 => ?_⟩
    have s0 : Same H (upd (upd H d0 (.dK [])) f0 (.lst [.ref d0])) := (Same.new hd0).trans (Same.new hf0)
    have ndf : d0 ≠ f0 := fun e => by rw [← e, upd_same] at hf0; cases hf0
    have hd1 : (upd (upd H d0 (.dK [])) f0 (.lst [.ref d0])) d0 = some (.dK []) := (upd_ne ndf).trans upd_same
    have hf1 : (upd (upd H d0 (.dK [])) f0 (.lst [.ref d0])) f0 = some (.lst [.ref d0]) := upd_same
    generalize (upd (upd H d0 (.dK [])) f0 (.lst [.ref d0])) = H1 at s0 hd1 hf1 ⊢
    let Pv : Nat → L2.St → Hp → Prop := fun i σ H' => Same H H' ∧ ∃ fa fs, H' fa = some (.lst (refsF fs)) ∧ Box H' (names.take i) low fs ∧ fs.length ≤ 4 ^ i ∧ ∃ v4 v5 v6 v7, σ = [some (.ref ny), some (.int low), some (.int 3), some (.ref fa), v4, v5, v6, v7]
    refine ⟨_, rfl, ny, rfl, ⟨_, SqL.of (s0 _ _ hny)⟩, for_it walk_list Pv ⟨s0, f0, [(d0, fun _ => 0)], hf1, ⟨fun e he => ?_, fun y _ => ⟨_, List.mem_cons_self, (fun n hn => nomatch hn)⟩⟩, Nat.le_refl _, _, _, _, _, rfl⟩ (fun _ _ _ _ p => SqL.of (p.1 _ _ hny)) (fun i v σ H2 H2' hi p y => ?_) (fun σ H2 p => ?_)⟩
    · rw [List.mem_singleton.mp he]
      exact ⟨hd1, fun n hn => nomatch hn⟩
    · obtain ⟨rfl, hv⟩ := y
      rw [List.getElem?_map] at hv
      obtain ⟨n, hn, rfl⟩ := Option.map_eq_some_iff.mp hv
      obtain ⟨s2, fa, fs, hfa, hbox, hfl, w4, w5, w6, w7, rfl⟩ := p
      have hi4 : i < 4 := by rw [List.length_map] at hi; omega
      have hfl' : fs.length ≤ 64 := Nat.le_trans hfl (by
        have : i ≤ 3 := by omega
        exact Nat.pow_le_pow_right (by decide) this)
      have htk : names.take (i + 1) = names.take i ++ [n] := by rw [List.take_add_one, hn]; rfl
      have hndp : (names.take i ++ [n]).Nodup := by rw [← htk]; exact List.Sublist.nodup (List.take_sublist _ _) hnd
      have hnp : n ∉ names.take i := fun z => (List.nodup_append.mp hndp).2.2 _ z _ List.mem_cons_self rfl
      have hpl : (names.take i).length ≤ 4 := by rw [List.length_take]; omega
      have htk' : (names.take (i + 1)) = names.take i ++ [n] := htk
      generalize hpre : names.take i = pre at hbox htk hndp hnp hpl
      refine ⟨Nat.zero_le _, fun mo hmo => ?_⟩
      have s3 : Same H2' (upd H2' mo (.lst [])) := Same.new hmo
      have hmo3 : upd H2' mo (.lst []) mo = some (.lst []) := upd_same
      generalize upd H2' mo (.lst []) = H3 at s3 hmo3 ⊢
      let Iv : Nat → L2.St → Hp → Prop := fun j σ H4 => Same H2' H4 ∧ ∃ ms, H4 mo = some (.lst (refsF ms)) ∧ More H4 pre n low fs j 0 ms ∧ ∃ v6 v7, σ = [some (.ref ny), some (.int low), some (.int 3), some (.ref fa), some (.str n), some (.ref mo), v6, v7]
      refine ⟨_, rfl, fa, rfl, ⟨_, SqL.of (s3 _ _ hfa)⟩, for_it walk_list Iv ⟨s3, [], hmo3, ⟨(fun e he => nomatch he), (fun e he => nomatch he), (fun e he k hk => absurd hk (Nat.not_lt_zero _)), Nat.zero_le _⟩, _, _, rfl⟩ (fun _ _ _ _ p => SqL.of (p.1 _ _ hfa)) (fun j v σ H4 H4' hj p y => ?_) (fun σ H4 p => ?_)⟩
      · obtain ⟨rfl, hv⟩ := y
        rw [refsF, List.getElem?_map] at hv
        obtain ⟨e, he, rfl⟩ := Option.map_eq_some_iff.mp hv
        obtain ⟨s4, ms, hmo4, hmore, u6, u7, rfl⟩ := p
        have hem := List.mem_of_getElem? he
        have hjl : j < fs.length := by rw [refsF, List.length_map] at hj; exact hj
        let Kv : Nat → L2.St → Hp → Prop := fun k σ H5 => Same H2' H5 ∧ ∃ ms, H5 mo = some (.lst (refsF ms)) ∧ More H5 pre n low fs j k ms ∧ ∃ v7, σ = [some (.ref ny), some (.int low), some (.int 3), some (.ref fa), some (.str n), some (.ref mo), some (.ref e.1), v7]
        refine ⟨_, rfl, _, _, rfl, rfl, _, rfl, by decide, by decide, for_it (walk_range (lo := 0) (n := 4)) Kv ⟨s4, ms, hmo4, hmore, _, rfl⟩ (fun _ _ _ _ _ => trivial) (fun k v σ H5 H5' hk p y => ?_) (fun σ H5 p => ?_)⟩
        · obtain ⟨rfl, rfl⟩ := y
          obtain ⟨s5, ms5, hmo5, hm5, t7, rfl⟩ := p
          have hml := hm5.len
          refine ⟨_, rfl, .inl ⟨rfl, _, SqL.of hmo5⟩, _, rfl, e.1, _, rfl, s5 _ _ (hbox.at_ e hem).1, fun H6 lp ts s6 hlp hts hnlp hlp6 hpair => ?_⟩
          refine ⟨_, rfl, _, rfl, _, rfl, _, _, rfl, rfl, by show 2 ≤ sizeLine; decide, fun t1 ht1 => ⟨by show 1 ≤ sizeLine; decide, fun l2 hl2 => ?_⟩⟩
          rw [Int.zero_add] at *
          have s7 : Same H6 (upd (upd H6 t1 (.tup [.str n, .int (low + k)])) l2 (.lst [.ref t1])) := (Same.new ht1).trans (Same.new hl2)
          have n12 : t1 ≠ l2 := fun e => by rw [← e, upd_same] at hl2; cases hl2
          have ht7 : (upd (upd H6 t1 (.tup [.str n, .int (low + k)])) l2 (.lst [.ref t1])) t1 = some (.tup [.str n, .int (low + k)]) := (upd_ne n12).trans upd_same
          have hl7 : (upd (upd H6 t1 (.tup [.str n, .int (low + k)])) l2 (.lst [.ref t1])) l2 = some (.lst [.ref t1]) := upd_same
          generalize (upd (upd H6 t1 (.tup [.str n, .int (low + k)])) l2 (.lst [.ref t1])) = H7 at s7 ht7 hl7 ⊢
          have htl : ts.length = pre.length := by
            have : ∀ {xs : List Addr} {ys : List (Key × V)} {F : Addr → (Key × V) → Prop}, Paired F xs ys → xs.length = ys.length := fun p => by
              induction p with
              | nil => rfl
              | cons _ _ ih => rw [List.length_cons, List.length_cons, ih]
            rw [this hpair, oldK, List.length_map]
          refine ⟨lp, l2, _, _, rfl, rfl, s7 _ _ hlp6, hl7, by rw [List.length_map, htl, sizeLine_eq]; show pre.length + 1 ≤ _; omega, fun l3 hl3 => ?_⟩
          have hp3 : Paired (fun (p : Addr) (kv : Key × V) => SqT K (upd H7 l3 (.lst (ts.map V.ref ++ [V.ref t1]))) p [kV kv.1, kv.2]) (ts ++ [t1]) (oldK pre e.2 ++ [((Sum.inr n : Key), V.int (low + k))]) := by
            have mono : ∀ {xs : List Addr} {ys : List (Key × V)} {F G : Addr → (Key × V) → Prop}, Paired F xs ys → (∀ a b, F a b → G a b) → Paired G xs ys := fun p h => by
              induction p with
              | nil => exact .nil
              | cons q _ ih => exact .cons (h _ _ q) ih
            exact (mono hpair fun a b h => SqT.of ((Same.new hl3) _ _ (s7 _ _ h))).snoc (SqT.of ((Same.new hl3) _ _ ht7))
          refine ⟨l3, ts ++ [t1], oldK pre e.2 ++ [((Sum.inr n : Key), V.int (low + k))], rfl, SqL.of (by rw [upd_same, List.map_append]; rfl), hp3, fun dn hdn => ?_⟩
          have hkv : mergeK [] (oldK pre e.2 ++ [((Sum.inr n : Key), V.int (low + k))]) = oldK (pre ++ [n]) (setF e.2 n (low + k)) := by
            rw [oldK_snoc hnp, merge_nodup (acc := [])]
            · rfl
            · rw [List.nil_append, oldK_keys]; exact keys_nodup hndp
          rw [hkv]
          have s8 : Same H5' (upd (upd H7 l3 (.lst (ts.map V.ref ++ [V.ref t1]))) dn (.dK (oldK (pre ++ [n]) (setF e.2 n (low + k))))) := ((Same.trans s6 s7).trans (Same.new hl3)).trans (Same.new hdn)
          have hdn8 : (upd (upd H7 l3 (.lst (ts.map V.ref ++ [V.ref t1]))) dn (.dK (oldK (pre ++ [n]) (setF e.2 n (low + k))))) dn = some (.dK (oldK (pre ++ [n]) (setF e.2 n (low + k)))) := upd_same
          generalize (upd (upd H7 l3 (.lst (ts.map V.ref ++ [V.ref t1]))) dn (.dK (oldK (pre ++ [n]) (setF e.2 n (low + k))))) = H8 at s8 hdn8 ⊢
          have hmo8 := s8 _ _ hmo5
          have hbe := (hbox.at_ e hem).2
          refine ⟨mo, _, _, rfl, rfl, hmo8, by rw [refsF, List.length_map, sizeLine_eq]; omega, fun y u eu => ?_, ms5 ++ [(dn, setF e.2 n (low + k))], ?_, ⟨fun m hm => ?_, fun e' he' k' hk' => ?_, fun e' he' k' hk' => ?_, by rw [List.length_append]; show ms5.length + 1 ≤ _; omega⟩, _, rfl⟩
          · rw [upd_ne (fun z => by rw [z, hmo] at eu; cases eu)]
            exact s8 _ _ (s5 _ _ eu)
          · rw [upd_same]; unfold refsF; rw [List.map_append]; rfl
          · rcases List.mem_append.mp hm with z | z
            · obtain ⟨h1, h2⟩ := hm5.at_ m z
              exact ⟨(upd_ne (ne_of (s8 _ _ h1) hmo8 (fun z => nomatch z))).trans (s8 _ _ h1), h2⟩
            · rw [List.mem_singleton.mp z]
              refine ⟨(upd_ne (ne_of hdn8 hmo8 (fun z => nomatch z))).trans hdn8, fun w hw => ?_⟩
              show low ≤ (if w = n then low + (k : Int) else e.2 w) ∧ (if w = n then low + (k : Int) else e.2 w) ≤ low + 3
              by_cases q : w = n
              · rw [if_pos q]; omega
              · rw [if_neg q]
                rcases List.mem_append.mp hw with r | r
                · exact hbe w r
                · exact absurd (List.mem_singleton.mp r) q
          · obtain ⟨m, hm, em⟩ := hm5.all e' he' k' hk'
            exact ⟨m, List.mem_append_left _ hm, em⟩
          · by_cases q : k' = k
            · rw [he] at he'; cases he'
              exact ⟨_, List.mem_append_right _ List.mem_cons_self, by rw [q]⟩
            · obtain ⟨m, hm, em⟩ := hm5.now e' he' k' (by omega)
              exact ⟨m, List.mem_append_left _ hm, em⟩
        · obtain ⟨s5, ms5, hmo5, hm5, t7, rfl⟩ := p
          refine ⟨s5, ms5, hmo5, ⟨hm5.at_, fun e' he' k' hk' => ?_, (fun e' _ k' hk' => absurd hk' (Nat.not_lt_zero _)), by have := hm5.len; omega⟩, _, _, rfl⟩
          rw [List.take_add_one, he] at he'
          rcases List.mem_append.mp he' with z | z
          · exact hm5.all e' z k' hk'
          · obtain rfl : e' = e := List.mem_singleton.mp z
            exact hm5.now e' he k' hk'
      · obtain ⟨s4, ms, hmo4, hmore, u6, u7, rfl⟩ := p
        rw [refsF, List.length_map] at hmore
        refine ⟨_, rfl, s2.trans s4, mo, ms, hmo4, ?_, ?_, _, _, _, _, rfl⟩
        · rw [List.take_add_one, hn, hpre]
          show Box H4 (pre ++ [n]) low ms
          refine ⟨hmore.at_, fun y hy => ?_⟩
          obtain ⟨e, he, hey⟩ := hbox.all y fun z hz => hy z (List.mem_append_left _ hz)
          have hyn := hy n (List.mem_append_right _ List.mem_cons_self)
          obtain ⟨m, hm, em⟩ := hmore.all e (by rw [List.take_length]; exact he) (y n - low).toNat (by omega)
          refine ⟨m, hm, fun z hz => ?_⟩
          rw [em]
          show (if z = n then low + ((y n - low).toNat : Int) else e.2 z) = y z
          by_cases q : z = n
          · rw [if_pos q, q]; omega
          · rw [if_neg q]
            rcases List.mem_append.mp hz with r | r
            · exact hey z r
            · exact absurd (List.mem_singleton.mp r) q
        · have := hmore.len
          rw [Nat.pow_succ]; omega
    · obtain ⟨s2, fa, fs, hfa, hbox, hfl, w4, w5, w6, w7, rfl⟩ := p
      rw [List.length_map, List.take_length] at hbox
      rw [List.length_map] at hfl
      refine ⟨_, rfl, q H2 fa fs s2 hfa hbox (Nat.le_trans hfl ?_)⟩
      exact Nat.pow_le_pow_right (n := 4) (by decide) hn4
end
end Ws
end
section
/-! _law_boxed -/
namespace Ws
open PySem PySem.Spec PyProof.Rows L2
abbrev sBoxed : Stmt := top 64
/-- the block of the outer comprehension -/
abbrev scK : Scope := ⟨.function, [(".0", .local), ("_law_k", .local), ("dict", .globalImplicit), ("_law_nyms_here", .cell), ("_law_pen_here", .cell), ("_law_tops", .cell)], false, false, []⟩
def pool5 : List Str := ["a", "ab", "b", "c", "none"]
theorem pool_ok : ∀ x ∈ pool5, nameOk x := by
  have : ∀ x ∈ pool5, 1 ≤ x.length ∧ x.length ≤ 8 ∧ ∀ c ∈ x.cps, (!(Builtin.Str.occurrences letters ⟨#[c]⟩ 0 letters.length 1).isEmpty) = true := by decide +kernel
  exact this
theorem pool_okN : ∀ x ∈ pool5, okN (some x) := by
  have : ∀ x ∈ pool5, (ndD (some x)).canLay0 = true := by decide +kernel
  exact this
theorem cut_take {xs : List V} {k : Int} (h : 0 ≤ k) : cutV xs none (some k) = xs.take k.toNat := by
  unfold cutV
  have h1 : HT.sIx xs.length 0 none = 0 := rfl
  obtain ⟨m, rfl⟩ : ∃ m : Nat, k = m := ⟨k.toNat, by omega⟩
  rw [h1, HT.sIx_nat, List.drop_zero, Nat.sub_zero, Int.toNat_natCast, List.take_eq_take_iff]
  omega
def gndI (v : Nd) : Int := if v = none then 1 else 0
theorem gnd_if (v : Nd) : (if decide (ndV v = V.non) = true then (1 : Int) else 0) = gndI v := by cases v <;> rfl
def shiftR (low : Int) (r : Rule) : Rule := (r.1, r.2.1, r.2.2 + low * (gndI r.1 - gndI r.2.1))
theorem xt_shift (x : Str → Int) (low : Int) (v : Nd) : xt (fun z => x z + low) v = xt x v + low - low * gndI v := by
  cases v with
  | none => show (0 : Int) = 0 + low - low * 1; omega
  | some z => show x z + low = x z + low - low * 0; omega
theorem nd_ok {names : List Str} (hs : ∀ n ∈ names, n ∈ pool5) {v : Nd} (hv : ∀ z, v = some z → z ∈ names) : ndOk v := by
  cases v with
  | none => trivial
  | some z => exact pool_ok z (hs z (hv z rfl))
structure BoxOk (names : List Str) (rl : List (Addr × Rule)) (low : Int) (x : Str → Int) : Prop where
  nd : names.Nodup
  sub : ∀ n ∈ names, n ∈ pool5
  len : names.length ≤ 4
  rlen : rl.length ≤ 18
  rule : ∀ r ∈ rl, ruleOk r.2 ∧ (∀ z, r.2.1 = some z → z ∈ names) ∧ (∀ z, r.2.2.1 = some z → z ∈ names) ∧ r.2.2.2 ≤ xt x r.2.2.1 - xt x r.2.1
  lo : ∀ n ∈ names, ∃ r ∈ rl, r.2 = (none, some n, low)
  hi : ∀ n ∈ names, ∃ r ∈ rl, r.2 = (some n, none, 0 - low - 3)
  x : ∀ n ∈ names, low ≤ x n ∧ x n ≤ low + 3
  low : -2 ≤ low ∧ low ≤ 50
def spBoxed : Sp := fun vs H Q _ => ∃ pa sa n, vs = [.ref pa, .int 4, .int 5, .int 3] ∧ Pen H pa sa (n + 40) ∧
  ∀ H' p ny ga he names rl low x, But1 pa H H' → Pen H' pa sa n → H' p = some (.tup [.ref ny, .ref ga, .int low, .ref he]) → H' ny = some (.lst (names.map V.str)) → H' ga = some (.lst (refsR rl)) → (∀ r ∈ rl, H' r.1 = some (.tup (ruleVs r.2))) → H' he = some (.dK (oldK names x)) → BoxOk names rl low x → Q (.ref p) H'
def rDictP (K : PySem.W.Frag) : List V → Hp → VK → Prop := fun xs H Q => ∃ (a : Addr) (ps : List Addr) (kvs : List (Key × V)), xs = [.ref a] ∧ SqL K H a (ps.map V.ref) ∧ Paired (fun p kv => SqT K H p [kV kv.1, kv.2]) ps kvs ∧ ∀ p, H p = none → Q (.ref p) (upd H p (.dK (mergeK [] kvs)))
def rInt1 : List V → Hp → VK → Prop := fun xs H Q => (∃ i, xs = [.int i] ∧ Q (.int i) H) ∨ ∃ k : Bool, xs = [.bl k] ∧ Q (.int (if k then 1 else 0)) H
section
variable {P : Program} {w : World} {K : PySem.W.Frag} {mg : Str → Option Value} {base : Heap} {f : Addr} {fd : FuncData}
abbrev nBx : List Str := ["_law_pen_here", "_law_most", "_law_many", "_law_tops", "_law_nyms_here", "_law_nym", "_law_goals", "_law_gaps_here", "_law_shift", "_law_held", "_law_k", "_law_low", "_law_high", "_law_gap"]
theorem sc_boxed : FnScope nBx ["_law_pen_here", "_law_most", "_law_many", "_law_tops"] (defScope sBoxed) := ⟨rfl, rfl, rfl, by decide +kernel, rfl, by decide +kernel, by decide +kernel⟩
theorem ok_boxed (F : Fun K "_law_boxed" "_law_boxed" sBoxed f fd) (g : Gm mg) (c1 : Cal P w K mg base 3 "_law_some" spSome) (c2 : Cal P w K mg base 2 "_law_draw" spDraw) (c3 : Cal P w K mg base 3 "_law_gaps" spGaps) : FnOk P w K mg base CX0 4 f fd ["_law_pen_here", "_law_most", "_law_many", "_law_tops"] spBoxed := by
  refine F.ok sc_boxed (fun vs H Q E h => ?_) (fun cdv A outer s H vs Q E hr h => ?_)
  · obtain ⟨pa, sa, n, rfl, _⟩ := h
    rfl
  · obtain ⟨pa, sa, n, rfl, hP, q⟩ := h
    have nd := sc_boxed.nd
    have hu := hu_of hr
    refine ⟨_, (pss_cons (ps_set (i := 4) nd rfl (Or.inr rfl) (pe_f (X := Cx.nox _) c1 hr (pa_cons (pv 0) (pa_cons (pe_lst (pa_cons pe_str (pa_cons pe_str (pa_cons pe_str (pa_cons pe_str (pa_cons pe_str pa_nil)))))) (pa_cons (pv 1) pa_nil)))))
      (pss_cons (ps_set (i := 6) nd rfl (Or.inr rfl) (pe_lc (own := [("_law_k", 10)]) (g := gName 10) (tt := tYes) (te := tCB (rDictP K) (tCons (tLc (iList K (tVar 4)) (gName 5) tYes (tTup (tCons (tVar 5) (tCons (tCall spDraw [] E0 (tCons (tVar 0) (tCons (tAdd (tVar 3) (tC (.int 1))) tNil))) tNil))) [5]) tNil)) rfl nd (pi_range1 rfl g.range (pa_cons pe_int pa_nil)) (blkOk_by (own := [("_law_k", 10)]) (N := nBx) (sc := defScope sBoxed) (by decide +kernel))
          (fun _ _ _ _ _ => pg_name (i := 10) nd rfl (Or.inl rfl)) (fun _ _ _ _ _ => pts_nil) (fun _ _ _ _ _ => by exact pe_callTy (call_dictP rfl) rfl g.dict PyProof.Rows.boot_dict (pa_cons (pe_lc (own := [("_law_nym", 5)]) (g := gName 5) (tt := tYes) rfl nd (pi_list (pv 4)) (blkOk_by (own := [("_law_nym", 5)]) (N := nBx) (sc := scK) (by decide +kernel))
            (fun _ _ _ _ _ => pg_name (i := 5) nd rfl (Or.inl rfl)) (fun _ _ _ _ _ => pts_nil) (fun _ _ _ _ _ => by exact pe_tup (pa_cons (pv 5) (pa_cons (pe_f c2 hr (pa_cons (pv 0) (pa_cons (pe_add (pv 3) pe_int) pa_nil))) pa_nil)))) pa_nil))))
      (pss_cons (ps_set (i := 7) nd rfl (Or.inl rfl) (pe_f (X := Cx.nox _) c3 hr (pa_cons (pv 0) (pa_cons (pv 4) (pa_cons (pe_slice sl_list (pv 6) po_none (po_some (pe_add pe_int (pe_f (X := Cx.nox _) c2 hr (pa_cons (pv 0) (pa_cons pe_int pa_nil)))))) (pa_cons (pv 2) pa_nil))))))
      (pss_cons (ps_set (i := 8) nd rfl (Or.inr rfl) (pe_ix ix_list (pe_lst (pa_cons pe_int (pa_cons pe_int (pa_cons (pe_un un_neg pe_int) (pa_cons pe_int pa_nil))))) (pe_f (X := Cx.nox _) c2 hr (pa_cons (pv 0) (pa_cons pe_int pa_nil))) (fun _ _ => rfl)))
      (pss_cons (ps_setLc (i := 7) (own := [("_law_low", 11), ("_law_high", 12), ("_law_gap", 13)]) (g := gTup K 3 (gCons (gName 11) (gCons (gName 12) (gCons (gName 13) gNil)))) (tt := tYes) (te := tTup (tCons (tVar 11) (tCons (tVar 12) (tCons (tAdd (tVar 13) (tOp (rI CMul fun i j => .int (i * j)) (tVar 8) (tSub (tCB rInt1 (tCons (tIsN (tVar 11)) tNil)) (tCB rInt1 (tCons (tIsN (tVar 12)) tNil))))) tNil)))) rfl nd rfl rfl (sw_true rfl rfl rfl (by decide +kernel)) (pi_list (pv 7)) (blkOk_by (own := [("_law_low", 11), ("_law_high", 12), ("_law_gap", 13)]) (N := nBx) (sc := defScope sBoxed) (by decide +kernel))
          (fun _ _ _ _ _ => by exact pg_tup (n := 3) rfl (pgs_cons (pg_name (i := 11) nd rfl (Or.inl rfl)) (pgs_cons (pg_name (i := 12) nd rfl (Or.inl rfl)) (pgs_cons (pg_name (i := 13) nd rfl (Or.inl rfl)) pgs_nil)))) (fun _ _ _ _ _ => pts_nil)
          (fun _ _ _ _ _ => by exact pe_tup (pa_cons (pv 11) (pa_cons (pv 12) (pa_cons (pe_add (pv 13) (pe_op op_mul (pv 8) (pe_sub (pe_callTy call_int1 rfl g.int boot_int (pa_cons (pe_cmp (pc_isN (pv 11)) rfl) pa_nil)) (pe_callTy call_int1 rfl g.int boot_int (pa_cons (pe_cmp (pc_isN (pv 12)) rfl) pa_nil))))) pa_nil)))))
      (pss_cons (ps_for PassesOwn.never rfl (pi_list (pv 4)) (pg_name (i := 5) nd rfl (Or.inl rfl))
        (pss_one (ps_set (i := 7) nd rfl (Or.inl rfl) (pe_op op_cat (pv 7) (pe_lst (pa_cons (pe_tup (pa_cons pe_non (pa_cons (pv 5) (pa_cons (pv 8) pa_nil)))) (pa_cons (pe_tup (pa_cons (pv 5) (pa_cons pe_non (pa_cons (pe_sub (pe_sub pe_int (pv 8)) (pv 3)) pa_nil)))) pa_nil)))))))
      (pss_cons (ps_set (i := 9) nd rfl (Or.inl rfl) (pe_callTy (call_dictP rfl) rfl g.dict PyProof.Rows.boot_dict (pa_cons (pe_lc (own := [("_law_nym", 5)]) (g := gName 5) (tt := tYes) (te := tTup (tCons (tVar 5) (tCons (tAdd (tDGet (tOp (rIxL K) (tVar 6) (tC (.int 0))) (tVar 5)) (tVar 8)) tNil))) rfl nd (pi_list (pv 4)) (blkOk_by (own := [("_law_nym", 5)]) (N := nBx) (sc := defScope sBoxed) (by decide +kernel))
          (fun _ _ _ _ _ => pg_name (i := 5) nd rfl (Or.inl rfl)) (fun _ _ _ _ _ => pts_nil) (fun _ _ _ _ _ => by exact pe_tup (pa_cons (pv 5) (pa_cons (pe_add (pe_dget hu (pe_ix ix_list (pv 6) pe_int (fun _ _ => rfl)) (pv 5) (fun _ _ => rfl)) (pv 8)) pa_nil)))) pa_nil)))
      (pss_one (ps_ret (pe_tup (pa_cons (pv 4) (pa_cons (pv 7) (pa_cons (pv 8) (pa_cons (pv 9) pa_nil)))))))))))))), ?_⟩
    refine ⟨_, rfl, by show 5 ≤ sizeLine; decide, fun pl hpl => ?_⟩
    have s0 : Same H (upd H pl (.lst (pool5.map V.str))) := Same.new hpl
    refine ⟨_, rfl, pa, sa, pl, pool5, 4, n + 35, rfl, hP.same s0, upd_same, by decide +kernel, by decide, by decide, fun H1 ny names b1 hP1 hny hnd hsub hlen => ?_⟩
    have bH1 : But1 pa H H1 := (s0.but).trans b1
    have npy : ny ≠ pa := fun e => by
      obtain ⟨_, _, _, x1, _⟩ := hP1
      rw [← e, hny] at x1
      have h := HO.lst.inj (Option.some.inj x1)
      cases names <;> cases h
    -- goals
    refine ⟨2, rfl, by decide, by decide, fun D hD => ?_⟩
    have nDp : D ≠ pa := fun e => by
      obtain ⟨_, _, _, x1, _⟩ := hP1
      rw [← e, hD] at x1; cases x1
    have nDs : sa ≠ D := fun e => by
      obtain ⟨_, _, _, _, x1, _⟩ := hP1
      rw [e, hD] at x1; cases x1
    have hDn : H1 D = none := hD
    refine lc_range (lo := 0) (n := 2) (fun i H2 => (∀ y u, y ≠ pa → H1 y = some u → H2 y = some u) ∧ Pen H2 pa sa (n + 27 + 4 * (2 - i)) ∧ ∃ gs : List Goal, gs.length = i ∧ H2 D = some (.lst (gs.map fun g => V.ref g.1)) ∧ ∀ g ∈ gs, H2 g.1 = some (.dK (oldK names g.2)) ∧ ∀ x ∈ names, 0 ≤ g.2 x ∧ g.2 x ≤ 3)
      ⟨fun y u h e => (Same.new hD) _ _ e, (hP1.same (Same.new hD)).less (by omega), [], rfl, upd_same, fun g hg => nomatch hg⟩ (fun i H2 hi p => ?_) (fun H2 p => ?_)
    · obtain ⟨k2, hP2, gs, hgl, hD2, hgs⟩ := p
      refine ⟨rfl, tyes ?_⟩
      have hny2 := k2 _ _ npy hny
      refine ⟨_, rfl, ny, rfl, ⟨_, SqL.of hny2⟩, fun D2 hD2n => ?_⟩
      have nD2p : D2 ≠ pa := fun e => by
        obtain ⟨_, _, _, x1, _⟩ := hP2
        rw [← e, hD2n] at x1; cases x1
      have nD2s : sa ≠ D2 := fun e => by
        obtain ⟨_, _, _, _, x1, _⟩ := hP2
        rw [e, hD2n] at x1; cases x1
      refine walkP walk_list (fun j H3 => (∀ y u, y ≠ pa → H2 y = some u → H3 y = some u) ∧ Pen H3 pa sa (n + 27 + 4 * (2 - i) - j) ∧ ∃ ts x, H3 D2 = some (.lst (ts.map V.ref)) ∧ Paired (fun (t : Addr) (kv : Key × V) => H3 t = some (.tup [kV kv.1, kv.2])) ts (oldK (names.take j) x) ∧ ∀ z ∈ names.take j, 0 ≤ x z ∧ x z ≤ 3)
        ⟨fun y u h e => (Same.new hD2n) _ _ e, (hP2.same (Same.new hD2n)).less (by omega), [], fun _ => 0, upd_same, .nil, fun z hz => nomatch hz⟩ (fun j H3 _ p => SqL.of (p.1 _ _ npy hny2)) (fun j v H3 H3' hj p y => ?_) (fun H3 p => ?_)
      · obtain ⟨rfl, hv⟩ := y
        rw [List.getElem?_map] at hv
        obtain ⟨nm, hnm, rfl⟩ := Option.map_eq_some_iff.mp hv
        obtain ⟨k3, hP3, ts, x, hD3, hpair, hx3⟩ := p
        have hj' : j < names.length := by rw [List.length_map] at hj; exact hj
        have htk : names.take (j + 1) = names.take j ++ [nm] := by rw [List.take_add_one, hnm]; rfl
        have hndj : (names.take j ++ [nm]).Nodup := by rw [← htk]; exact List.Sublist.nodup (List.take_sublist _ _) hnd
        have hnp : nm ∉ names.take j := fun z => (List.nodup_append.mp hndj).2.2 _ z _ List.mem_cons_self rfl
        refine ⟨rfl, tyes ?_⟩
        refine ⟨_, rfl, _, rfl, _, rfl, _, _, rfl, rfl, pa, sa, n + 27 + 4 * (2 - i) - (j + 1), _, rfl, hP3.less (by omega), by decide, by decide, fun d H4 hd0 hd1 b4 hP4 => ⟨by show 2 ≤ sizeLine; decide, fun t ht => ?_⟩⟩
        have s5 : Same H4 (upd H4 t (.tup [.str nm, .int d])) := Same.new ht
        have ht5 : upd H4 t (.tup [.str nm, .int d]) t = some (.tup [.str nm, .int d]) := upd_same
        have hP5 := hP4.same s5
        generalize upd H4 t (.tup [.str nm, .int d]) = H5 at s5 ht5 hP5 ⊢
        have k5 : ∀ y u, y ≠ pa → H3' y = some u → H5 y = some u := fun y u h e => s5 _ _ (b4 _ _ h e)
        have hD5 := k5 _ _ nD2p hD3
        have hpl2 : ts.length = (names.take j).length := by
          have : ∀ {xs : List Addr} {ys : List (Key × V)} {F : Addr → (Key × V) → Prop}, Paired F xs ys → xs.length = ys.length := fun p => by
            induction p with
            | nil => rfl
            | cons _ _ ih => rw [List.length_cons, List.length_cons, ih]
          rw [this hpair, oldK, List.length_map]
        refine ⟨_, hD5, by rw [List.length_map, hpl2, List.length_take, sizeLine_eq]; omega, fun y u h e => ?_, ?_, ts ++ [t], setF x nm d, by rw [upd_same, List.map_append]; rfl, ?_, fun z hz => ?_⟩
        · rw [upd_ne (fun z => by rw [z, hD2n] at e; cases e)]
          exact k5 _ _ h (k3 _ _ h e)
        · obtain ⟨ms, i1, c1, x1, x2, x3⟩ := hP5
          exact ⟨ms, i1, c1, (upd_ne (Ne.symm nD2p)).trans x1, (upd_ne nD2s).trans x2, x3⟩
        · rw [htk, ← oldK_snoc hnp]
          have mono : ∀ {xs : List Addr} {ys : List (Key × V)} {F G : Addr → (Key × V) → Prop}, Paired F xs ys → (∀ a b, F a b → G a b) → Paired G xs ys := fun p h => by
            induction p with
            | nil => exact .nil
            | cons q _ ih => exact .cons (h _ _ q) ih
          refine (mono hpair fun a b h => ?_).snoc ((upd_ne (ne_of ht5 hD5 (fun z => nomatch z))).trans ht5)
          have hap : a ≠ pa := fun e => by
            obtain ⟨_, _, _, x1, _⟩ := hP3
            rw [← e, h] at x1; cases x1
          have h5 := k5 _ _ hap h
          exact (upd_ne (ne_of h5 hD5 (fun z => nomatch z))).trans h5
        · rw [htk] at hz
          show 0 ≤ (if z = nm then d else x z) ∧ (if z = nm then d else x z) ≤ 3
          by_cases q : z = nm
          · rw [if_pos q]; omega
          · rw [if_neg q]
            rcases List.mem_append.mp hz with r | r
            · exact hx3 z r
            · exact absurd (List.mem_singleton.mp r) q
      · obtain ⟨k3, hP3, ts, x, hD3, hpair, hx3⟩ := p
        rw [List.length_map, List.take_length] at hpair hx3
        rw [List.length_map] at hP3
        have mono : ∀ {xs : List Addr} {ys : List (Key × V)} {F G : Addr → (Key × V) → Prop}, Paired F xs ys → (∀ a b, F a b → G a b) → Paired G xs ys := fun p h => by
          induction p with
          | nil => exact .nil
          | cons q _ ih => exact .cons (h _ _ q) ih
        refine ⟨D2, ts, oldK names x, rfl, SqL.of hD3, mono hpair fun a b h => SqT.of h, fun gd hgd => ?_⟩
        have hkv : mergeK [] (oldK names x) = oldK names x := by
          rw [merge_nodup (acc := [])]
          · rfl
          · rw [List.nil_append, oldK_keys]; exact keys_nodup hnd
        rw [hkv]
        have s4 : Same H3 (upd H3 gd (.dK (oldK names x))) := Same.new hgd
        have hgd4 : upd H3 gd (.dK (oldK names x)) gd = some (.dK (oldK names x)) := upd_same
        have hP4 := hP3.same s4
        generalize upd H3 gd (.dK (oldK names x)) = H4 at s4 hgd4 hP4 ⊢
        have k4 : ∀ y u, y ≠ pa → H2 y = some u → H4 y = some u := fun y u h e => s4 _ _ (k3 _ _ h e)
        have hD4 := k4 _ _ nDp hD2
        refine ⟨_, hD4, by rw [List.length_map, hgl, sizeLine_eq]; omega, fun y u h e => ?_, ?_, gs ++ [(gd, x)], by rw [List.length_append, hgl]; rfl, by rw [upd_same, List.map_append]; rfl, fun g hg => ?_⟩
        · rw [upd_ne (fun z => by rw [z, hDn] at e; cases e)]
          exact k4 _ _ h (k2 _ _ h e)
        · obtain ⟨ms, i1, c1, x1, x2, x3, x4, x5, x6⟩ := hP4
          exact ⟨ms, i1, c1, (upd_ne (Ne.symm nDp)).trans x1, (upd_ne nDs).trans x2, x3, x4, by omega, x6⟩
        · rcases List.mem_append.mp hg with z | z
          · obtain ⟨h1, h2⟩ := hgs g z
            have hgp : g.1 ≠ pa := fun e => by
              obtain ⟨_, _, _, x1, _⟩ := hP2
              rw [← e, h1] at x1; cases x1
            have h4 := k4 _ _ hgp h1
            exact ⟨(upd_ne (ne_of h4 hD4 (fun z => nomatch z))).trans h4, h2⟩
          · rw [List.mem_singleton.mp z]
            exact ⟨(upd_ne (ne_of hgd4 hD4 (fun z => nomatch z))).trans hgd4, hx3⟩
    obtain ⟨k2, hP2, gs, hgl, hD2, hgs⟩ := p
    have hny2 := k2 _ _ npy hny
    have bH2 : But1 pa H H2 := bH1.trans fun y u h e => k2 y u h e
    have pgs : ∀ {H' : Hp}, But1 pa H2 H' → ∀ g ∈ gs, H' g.1 = some (.dK (oldK names g.2)) := fun b g hg => b _ _ (fun e => by
      obtain ⟨_, _, _, x1, _⟩ := hP2
      rw [← e, (hgs g hg).1] at x1; cases x1) (hgs g hg).1
    -- gaps
    refine ⟨_, rfl, _, rfl, _, rfl, _, rfl, pa, sa, n + 26, _, rfl, hP2.less (by omega), by decide, by decide, fun d H3 hd0 hd1 b3 hP3 => ⟨_, _, rfl, rfl, _, rfl, D, _, rfl, SqL.of (b3 _ _ nDp hD2), fun sl hsl => ?_⟩⟩
    rw [cut_take (by omega), ← List.map_take]
    have s4 : Same H3 (upd H3 sl (.lst ((gs.take (1 + d).toNat).map fun g => V.ref g.1))) := Same.new hsl
    have hsl4 : upd H3 sl (.lst ((gs.take (1 + d).toNat).map fun g => V.ref g.1)) sl = some (.lst ((gs.take (1 + d).toNat).map fun g => V.ref g.1)) := upd_same
    have hP4 := hP3.same s4
    have b4 : But1 pa H2 (upd H3 sl (.lst ((gs.take (1 + d).toNat).map fun g => V.ref g.1))) := b3.trans s4.but
    generalize upd H3 sl (.lst ((gs.take (1 + d).toNat).map fun g => V.ref g.1)) = H4 at s4 hsl4 hP4 b4 ⊢
    obtain ⟨g0, gr, rfl⟩ : ∃ g0 gr, gs = g0 :: gr := by
      match gs, hgl with
      | a :: r, _ => exact ⟨a, r, rfl⟩
    have hg0 : g0 ∈ (g0 :: gr).take (1 + d).toNat := by
      rw [show (1 + d).toNat = d.toNat + 1 by omega]
      exact List.mem_cons_self
    refine ⟨_, rfl, pa, sa, ny, sl, names, (g0 :: gr).take (1 + d).toNat, 5, n + 5, rfl, hP4.less (by omega), b4 _ _ npy hny2, hnd, by omega, fun x hx => pool_okN x (hsub x hx), hsl4, List.ne_nil_of_mem hg0, by rw [List.length_take, hgl]; omega, fun g hg => ⟨pgs b4 g (List.take_sublist _ _ |>.subset hg), (hgs g (List.take_sublist _ _ |>.subset hg)).2⟩, by decide, fun H5 ga0 rl0 b5 hP5 hga0 hrl0 hlen0 => ?_⟩
    have b25 := b4.trans b5
    have hny5 := b25 _ _ npy hny2
    have hD5 := b25 _ _ nDp hD2
    have hg05 := pgs b25 g0 List.mem_cons_self
    -- shift
    refine ⟨2, rfl, by show 4 ≤ sizeLine; decide, fun l hl => ?_⟩
    have s6 : Same H5 (upd H5 l (.lst ([0, 0, -2, 50].map V.int))) := Same.new hl
    have nlp : l ≠ pa := fun e => by
      obtain ⟨_, _, _, x1, _⟩ := hP5
      rw [← e, hl] at x1; cases x1
    refine ⟨_, rfl, pa, sa, n + 4, _, rfl, (hP5.same s6).less (by omega), by decide, by decide, fun d2 H7 he0 he1 b7 hP7 => ?_⟩
    obtain ⟨low, hlow, hat⟩ := at_int (ms := [0, 0, -2, 50]) he0 he1
    have hlowB : -2 ≤ low ∧ low ≤ 50 := by
      simp at hlow
      rcases hlow with h | h | h <;> omega
    have b57 : But1 pa H5 H7 := s6.but.trans b7
    have hny7 := b57 _ _ npy hny5
    have hD7 := b57 _ _ nDp hD5
    have ne5 : ∀ (z : Addr) (u : HO), H5 z = some u → (∀ xs, u ≠ .lst xs) → z ≠ pa := fun z u hz hu e => by
      obtain ⟨_, _, _, x1, _⟩ := hP5
      rw [← e, hz] at x1; exact hu _ (Option.some.inj x1)
    have hg07 := b57 _ _ (ne5 _ _ hg05 (fun _ z => nomatch z)) hg05
    have npga : ga0 ≠ pa := fun e => by
      obtain ⟨_, _, _, x1, _⟩ := hP5
      rw [← e, hga0] at x1
      have h := congrArg List.length (HO.lst.inj (Option.some.inj x1))
      have h2 := HO.lst.inj (Option.some.inj x1)
      match rl0, h2 with
      | [], z => cases z
      | [a], z => cases z
      | a :: b :: r, z => cases z
    have hga7 := b57 _ _ npga hga0
    have hrl7 : ∀ r ∈ rl0, H7 r.1 = some (.tup (ruleVs r.2)) ∧ GRule names ((g0 :: gr).take (1 + d).toNat) r.2 := fun r hr => ⟨b57 _ _ (ne5 _ _ (hrl0 r hr).1 (fun _ z => nomatch z)) (hrl0 r hr).1, (hrl0 r hr).2⟩
    have bH7 : But1 pa H H7 := (bH2.trans b25).trans b57
    let x : Str → Int := fun z => g0.2 z + low
    have hx : ∀ z ∈ names, low ≤ x z ∧ x z ≤ low + 3 := fun z hz => by
      have := (hgs g0 List.mem_cons_self).2 z hz
      show low ≤ g0.2 z + low ∧ g0.2 z + low ≤ low + 3
      omega
    let Good : Rule → Prop := fun r => ruleOk r ∧ (∀ z, r.1 = some z → z ∈ names) ∧ (∀ z, r.2.1 = some z → z ∈ names) ∧ r.2.2 ≤ xt x r.2.1 - xt x r.1
    have gI : ∀ v : Nd, gndI v = 0 ∨ gndI v = 1 := fun v => by cases v; exact .inr rfl; exact .inl rfl
    have hshift : ∀ r, GRule names ((g0 :: gr).take (1 + d).toNat) r → Good (shiftR low r) := fun r hr => by
      have hk := hr.keep g0 hg0
      have hb := hr.gap
      refine ⟨⟨nd_ok hsub hr.lo, nd_ok hsub hr.hi, hr.ne, ?_, ?_⟩, hr.lo, hr.hi, ?_⟩
      · show -999 ≤ r.2.2 + low * (gndI r.1 - gndI r.2.1)
        rcases gI r.1 with h1 | h1 <;> rcases gI r.2.1 with h2 | h2 <;> rw [h1, h2] <;> omega
      · show r.2.2 + low * (gndI r.1 - gndI r.2.1) ≤ 999
        rcases gI r.1 with h1 | h1 <;> rcases gI r.2.1 with h2 | h2 <;> rw [h1, h2] <;> omega
      · show r.2.2 + low * (gndI r.1 - gndI r.2.1) ≤ xt (fun z => g0.2 z + low) r.2.1 - xt (fun z => g0.2 z + low) r.1
        rw [xt_shift, xt_shift]
        rcases gI r.1 with h1 | h1 <;> rcases gI r.2.1 with h2 | h2 <;> rw [h1, h2] <;> omega
    refine ⟨l, _, d2, .int low, rfl, rfl, SqL.of (b7 _ _ nlp upd_same), hat, ?_⟩
    -- the rules moved
    have hrn : (refsR rl0).length = rl0.length := List.length_map ..
    refine ⟨_, rfl, ga0, rfl, ⟨_, SqL.of hga7⟩, fun D3 hD3 => ?_⟩
    refine walkP walk_list (fun j H8 => Same H7 H8 ∧ ∃ rl, H8 D3 = some (.lst (refsR rl)) ∧ rl.length = j ∧ ∀ r ∈ rl, H8 r.1 = some (.tup (ruleVs r.2)) ∧ Good r.2) ⟨Same.new hD3, [], upd_same, rfl, fun r hr => nomatch hr⟩ (fun j H8 _ p => SqL.of (p.1 _ _ hga7)) (fun j v H8 H8' hj p y => ?_) (fun H8 p => ?_)
    · obtain ⟨rfl, hv⟩ := y
      rw [refsR, List.getElem?_map] at hv
      obtain ⟨r, hr, rfl⟩ := Option.map_eq_some_iff.mp hv
      have hrm := List.mem_of_getElem? hr
      obtain ⟨s8, rl, hD8, hrl, hgood⟩ := p
      have htr := s8 _ _ (hrl7 r hrm).1
      refine ⟨_, _, rfl, SqT.of htr, rfl, _, _, rfl, _, _, rfl, _, _, rfl, rfl, rfl, tyes ?_⟩
      refine ⟨_, rfl, _, rfl, _, rfl, _, rfl, _, rfl, .inr ⟨_, rfl, ?_⟩⟩
      refine ⟨_, rfl, .inr ⟨_, rfl, _, _, rfl, rfl, _, _, rfl, rfl, .inl ⟨by omega, by omega⟩, _, _, rfl, rfl, by show 3 ≤ sizeLine; decide, fun t ht => ?_⟩⟩
      rw [gnd_if, gnd_if]
      have s9 : Same H8' (upd H8' t (.tup (ruleVs (shiftR low r.2)))) := Same.new ht
      have hD9 := s9 _ _ hD8
      refine ⟨_, hD9, by rw [refsR, List.length_map, hrl, sizeLine_eq]; rw [hrn] at hj; omega, fun y u e => ?_, rl ++ [(t, shiftR low r.2)], by rw [upd_same]; unfold refsR; rw [List.map_append]; rfl, by rw [List.length_append, hrl]; rfl, fun r' hr' => ?_⟩
      · rw [upd_ne (fun z => by rw [z, hD3] at e; cases e)]
        exact s9 _ _ (s8 _ _ e)
      · rcases List.mem_append.mp hr' with z | z
        · obtain ⟨h1, h2⟩ := hgood r' z
          exact ⟨(upd_ne (ne_of (s9 _ _ h1) hD9 (fun z => nomatch z))).trans (s9 _ _ h1), h2⟩
        · rw [List.mem_singleton.mp z]
          have ht9 : upd H8' t (.tup (ruleVs (shiftR low r.2))) t = some (.tup (ruleVs (shiftR low r.2))) := upd_same
          exact ⟨(upd_ne (ne_of ht9 hD9 (fun z => nomatch z))).trans ht9, hshift _ (hrl7 r hrm).2⟩
    obtain ⟨s8, rl1, hD8, hrl1, hgood1⟩ := p
    rw [hrn] at hrl1
    -- two rules to the ground for each name
    let Pv : Nat → L2.St → Hp → Prop := fun i σ H' => Same H7 H' ∧ ∃ gi rl, H' gi = some (.lst (refsR rl)) ∧ rl.length ≤ 10 + 2 * i ∧ (∀ r ∈ rl, H' r.1 = some (.tup (ruleVs r.2)) ∧ Good r.2) ∧ (∀ z ∈ names.take i, (∃ r ∈ rl, r.2 = (none, some z, low)) ∧ ∃ r ∈ rl, r.2 = (some z, none, 0 - low - 3)) ∧
      ∃ v5, σ = [some (.ref pa), some (.int 4), some (.int 5), some (.int 3), some (.ref ny), v5, some (.ref D), some (.ref gi), some (.int low), none, none, none, none, none]
    refine ⟨_, rfl, ny, rfl, ⟨_, SqL.of (s8 _ _ hny7)⟩, for_it walk_list Pv ⟨s8, D3, rl1, hD8, by omega, hgood1, (fun z hz => nomatch hz), _, rfl⟩ (fun _ _ _ _ p => SqL.of (p.1 _ _ hny7)) (fun i v σ H9 H9' hi p y => ?_) (fun σ H9 p => ?_)⟩
    · obtain ⟨rfl, hv⟩ := y
      rw [List.getElem?_map] at hv
      obtain ⟨nm, hnm, rfl⟩ := Option.map_eq_some_iff.mp hv
      obtain ⟨s9, gi, rl, hgi, hrl, hgood, hboth, v5, rfl⟩ := p
      have hnmm := List.mem_of_getElem? hnm
      have hi' : i < names.length := by rw [List.length_map] at hi; exact hi
      have htk : names.take (i + 1) = names.take i ++ [nm] := by rw [List.take_add_one, hnm]; rfl
      refine ⟨_, rfl, _, rfl, _, rfl, by show 3 ≤ sizeLine; decide, fun t1 ht1 => ⟨_, rfl, _, rfl, _, _, rfl, rfl, _, rfl, _, _, rfl, rfl, by show 3 ≤ sizeLine; decide, fun t2 ht2 => ⟨by show 2 ≤ sizeLine; decide, fun lt hlt => ?_⟩⟩⟩
      have s10 : Same H9' (upd (upd (upd H9' t1 (.tup (ruleVs (none, some nm, low)))) t2 (.tup (ruleVs (some nm, none, 0 - low - 3)))) lt (.lst [.ref t1, .ref t2])) := ((Same.new ht1).trans (Same.new ht2)).trans (Same.new hlt)
      have n12 : t1 ≠ t2 := fun e => by rw [← e, upd_same] at ht2; cases ht2
      have n1l : t1 ≠ lt := fun e => by rw [← e, upd_ne n12, upd_same] at hlt; cases hlt
      have n2l : t2 ≠ lt := fun e => by rw [← e, upd_same] at hlt; cases hlt
      have h1 : (upd (upd (upd H9' t1 (.tup (ruleVs (none, some nm, low)))) t2 (.tup (ruleVs (some nm, none, 0 - low - 3)))) lt (.lst [.ref t1, .ref t2])) t1 = some (.tup (ruleVs (none, some nm, low))) := by rw [upd_ne n1l, upd_ne n12, upd_same]
      have h2 : (upd (upd (upd H9' t1 (.tup (ruleVs (none, some nm, low)))) t2 (.tup (ruleVs (some nm, none, 0 - low - 3)))) lt (.lst [.ref t1, .ref t2])) t2 = some (.tup (ruleVs (some nm, none, 0 - low - 3))) := by rw [upd_ne n2l, upd_same]
      have h3 : (upd (upd (upd H9' t1 (.tup (ruleVs (none, some nm, low)))) t2 (.tup (ruleVs (some nm, none, 0 - low - 3)))) lt (.lst [.ref t1, .ref t2])) lt = some (.lst [.ref t1, .ref t2]) := upd_same
      have goal2 : ∀ H' : Hp, H' = (upd (upd (upd H9' t1 (.tup (ruleVs (none, some nm, low)))) t2 (.tup (ruleVs (some nm, none, 0 - low - 3)))) lt (.lst [.ref t1, .ref t2])) → True := fun _ _ => trivial
      refine ⟨gi, lt, _, _, rfl, rfl, s10 _ _ hgi, h3, by rw [refsR, List.length_map, sizeLine_eq]; show rl.length + 2 ≤ _; omega, fun gn hgn => ?_⟩
      have s11 := s10.trans (Same.new (o := .lst (refsR rl ++ [.ref t1, .ref t2])) hgn)
      have g1 : Good (none, some nm, low) := by
        refine ⟨⟨trivial, pool_ok nm (hsub nm hnmm), (fun z => nomatch z), by show -999 ≤ low; omega, by show low ≤ 999; omega⟩, (fun z e => nomatch e), (fun z e => by cases e; exact hnmm), ?_⟩
        show low ≤ x nm - 0
        have := hx nm hnmm; omega
      have g2 : Good (some nm, none, 0 - low - 3) := by
        refine ⟨⟨pool_ok nm (hsub nm hnmm), trivial, (fun z => nomatch z), by show -999 ≤ 0 - low - 3; omega, by show 0 - low - 3 ≤ 999; omega⟩, (fun z e => by cases e; exact hnmm), (fun z e => nomatch e), ?_⟩
        show 0 - low - 3 ≤ 0 - x nm
        have := hx nm hnmm; omega
      refine ⟨s9.trans s11, gn, rl ++ [(t1, (none, some nm, low)), (t2, (some nm, none, 0 - low - 3))], ?_, by rw [List.length_append]; show rl.length + 2 ≤ _; omega, fun r hr => ?_, fun z hz => ?_, _, rfl⟩
      · exact upd_same.trans (by unfold refsR; rw [List.map_append]; rfl)
      · rcases List.mem_append.mp hr with z | z
        · exact ⟨s11 _ _ (hgood r z).1, (hgood r z).2⟩
        · rcases List.mem_cons.mp z with z | z
          · rw [z]; exact ⟨(Same.new hgn) _ _ h1, g1⟩
          · rw [List.mem_singleton.mp z]; exact ⟨(Same.new hgn) _ _ h2, g2⟩
      · rw [htk] at hz
        rcases List.mem_append.mp hz with r | r
        · obtain ⟨⟨r1, m1, e1⟩, r2, m2, e2⟩ := hboth z r
          exact ⟨⟨r1, List.mem_append_left _ m1, e1⟩, r2, List.mem_append_left _ m2, e2⟩
        · rw [List.mem_singleton.mp r]
          exact ⟨⟨_, List.mem_append_right _ List.mem_cons_self, rfl⟩, _, List.mem_append_right _ (List.mem_cons_of_mem _ List.mem_cons_self), rfl⟩
    obtain ⟨s9, gi, rl, hgi, hrl, hgood, hboth, v5, rfl⟩ := p
    rw [List.length_map, List.take_length] at hboth
    rw [List.length_map] at hrl
    -- held
    refine ⟨_, rfl, ny, rfl, ⟨_, SqL.of (s9 _ _ hny7)⟩, fun D4 hD4 => ?_⟩
    refine walkP walk_list (fun j H3 => Same H9 H3 ∧ ∃ ts, H3 D4 = some (.lst (ts.map V.ref)) ∧ Paired (fun (t : Addr) (kv : Key × V) => H3 t = some (.tup [kV kv.1, kv.2])) ts (oldK (names.take j) x)) ⟨Same.new hD4, [], upd_same, .nil⟩ (fun j H3 _ p => SqL.of (p.1 _ _ (s9 _ _ hny7))) (fun j v H3 H3' hj p y => ?_) (fun H3 p => ?_)
    · obtain ⟨rfl, hv⟩ := y
      rw [List.getElem?_map] at hv
      obtain ⟨nm, hnm, rfl⟩ := Option.map_eq_some_iff.mp hv
      obtain ⟨s10, ts, hD10, hpair⟩ := p
      have hj' : j < names.length := by rw [List.length_map] at hj; exact hj
      have htk : names.take (j + 1) = names.take j ++ [nm] := by rw [List.take_add_one, hnm]; rfl
      have hnmm := List.mem_of_getElem? hnm
      have dg : DGet H3' g0.1 (.str nm) (some (.int (g0.2 nm))) := by
        have := DGet.k (k := Sum.inr nm) (s10 _ _ (s9 _ _ hg07))
        rw [valV_old hnd] at this
        unfold oldF at this
        rw [if_pos hnmm] at this
        exact this
      refine ⟨rfl, tyes ?_⟩
      refine ⟨_, rfl, _, rfl, D, _, _, _, rfl, rfl, SqL.of (s10 _ _ (s9 _ _ hD7)), atI_nat rfl, _, rfl, g0.1, _, rfl, dg, _, rfl, _, _, rfl, rfl, by show 2 ≤ sizeLine; decide, fun t ht => ?_⟩
      have s5 : Same H3' (upd H3' t (.tup [.str nm, .int (g0.2 nm + low)])) := Same.new ht
      have ht5 : upd H3' t (.tup [.str nm, .int (g0.2 nm + low)]) t = some (.tup [.str nm, .int (g0.2 nm + low)]) := upd_same
      generalize upd H3' t (.tup [.str nm, .int (g0.2 nm + low)]) = H5b at s5 ht5 ⊢
      have hD5b := s5 _ _ hD10
      have hpl2 : ts.length = (names.take j).length := by
        have : ∀ {xs : List Addr} {ys : List (Key × V)} {F : Addr → (Key × V) → Prop}, Paired F xs ys → xs.length = ys.length := fun p => by
          induction p with
          | nil => rfl
          | cons _ _ ih => rw [List.length_cons, List.length_cons, ih]
        rw [this hpair, oldK, List.length_map]
      refine ⟨_, hD5b, by rw [List.length_map, hpl2, List.length_take, sizeLine_eq]; omega, fun y u e => ?_, ts ++ [t], by rw [upd_same, List.map_append]; rfl, ?_⟩
      · rw [upd_ne (fun z => by rw [z, hD4] at e; cases e)]
        exact s5 _ _ (s10 _ _ e)
      · rw [htk, show oldK (names.take j ++ [nm]) x = oldK (names.take j) x ++ [((Sum.inr nm : Key), V.int (x nm))] by unfold oldK; rw [List.map_append]; rfl]
        have mono : ∀ {xs : List Addr} {ys : List (Key × V)} {F G : Addr → (Key × V) → Prop}, Paired F xs ys → (∀ a b, F a b → G a b) → Paired G xs ys := fun p h => by
          induction p with
          | nil => exact .nil
          | cons q _ ih => exact .cons (h _ _ q) ih
        refine (mono hpair fun a b h => ?_).snoc ((upd_ne (ne_of ht5 hD5b (fun z => nomatch z))).trans ht5)
        exact (upd_ne (ne_of (s5 _ _ h) hD5b (fun z => nomatch z))).trans (s5 _ _ h)
    · obtain ⟨s10, ts, hD10, hpair⟩ := p
      rw [List.length_map, List.take_length] at hpair
      have mono : ∀ {xs : List Addr} {ys : List (Key × V)} {F G : Addr → (Key × V) → Prop}, Paired F xs ys → (∀ a b, F a b → G a b) → Paired G xs ys := fun p h => by
        induction p with
        | nil => exact .nil
        | cons q _ ih => exact .cons (h _ _ q) ih
      refine ⟨D4, ts, oldK names x, rfl, SqL.of hD10, mono hpair fun a b h => SqT.of h, fun he hhe => ?_⟩
      have hkv : mergeK [] (oldK names x) = oldK names x := by
        rw [merge_nodup (acc := [])]
        · rfl
        · rw [List.nil_append, oldK_keys]; exact keys_nodup hnd
      rw [hkv]
      refine ⟨_, rfl, _, rfl, _, rfl, _, rfl, by show 4 ≤ sizeLine; decide, fun p hp => ?_⟩
      have s11 := (s9.trans s10).trans ((Same.new (o := .dK (oldK names x)) hhe).trans (Same.new (o := .tup [.ref ny, .ref gi, .int low, .ref he]) hp))
      have s9e : Same H9 _ := s10.trans ((Same.new (o := .dK (oldK names x)) hhe).trans (Same.new (o := .tup [.ref ny, .ref gi, .int low, .ref he]) hp))
      refine q _ p ny gi he names rl low x (bH7.trans s11.but) ((hP7.same s11).less (by omega)) upd_same (s11 _ _ hny7) (s9e _ _ hgi) (fun r hr => s9e _ _ (hgood r hr).1) ((Same.new hp) _ _ upd_same) ⟨hnd, hsub, hlen, by omega, fun r hr => (hgood r hr).2, fun z hz => (hboth z hz).1, fun z hz => (hboth z hz).2, hx, hlowB⟩
end
end Ws
end
section
/-! list != [], whatever the items are; repr of an int or None -/
namespace Ws
open PySem PySem.Spec PyProof.Rows L2
def rNeNil (K : PySem.W.Frag) : R2 := fun x y H Q => ∃ a b xs, x = .ref a ∧ y = .ref b ∧ SqL K H a xs ∧ SqL K H b [] ∧ Q (.bl (!xs.isEmpty)) H
def rRepr : List V → Hp → VK → Prop := fun xs H Q => (∃ i, xs = [.int i] ∧ i.natAbs.log2 < 1920 ∧ Q (.str (toString i)) H) ∨ (xs = [.non] ∧ Q (.str "None") H)
section
variable {X : Cx}
theorem or_neNil (hu : X.A.units < cLine) : OpR X (compareOp .NotEq) (rNeNil X.K) := by
  intro pins s σ H x y v u Q I rx ry h
  obtain ⟨a, b, xs, rfl, rfl, ha, hb, q⟩ := h
  obtain rfl : v = Value.ref a := rx
  obtain rfl : u = Value.ref b := ry
  obtain ⟨its, r, ht, hz⟩ := I.list ha
  obtain ⟨its2, r2, ht2, hz2⟩ := I.list hb
  have e2 : its2 = [] := by cases r2; rfl
  subst e2
  show wpAny (model X.prog X.w) X.A (richCompare .NotEq (.ref a) (.ref b)) _ _ _
  have hl := r.length
  cases xs with
  | nil =>
    have e1 : its = [] := by cases r; rfl
    subst e1
    refine SeqAt.RcNeAt.lists (e := fun _ => true) ht.isList ht2.isList rfl hu (fun j h1 _ => absurd h1 (Nat.not_lt_zero _)) X.prog X.w _ _ ⟨.bl false, H, I, rfl, q⟩
  | cons x xs =>
    refine SeqAt.RcNeAt.lists_lengths ht.isList ht2.isList ?_ hu X.prog X.w _ _ ⟨.bl true, H, I, rfl, q⟩
    rw [List.size_toArray, List.size_toArray, ← hl]
    simp
theorem call_repr2 : CallR X (.builtin "repr") rRepr := by
  intro pins s σ H xs us Q I r h
  rcases h with ⟨i, rfl, hz, q⟩ | ⟨rfl, q⟩
  · obtain ⟨u, rfl, t, rfl⟩ := vals1 r
    exact PySem.P.repr_of_int hz ⟨.str _, H, I.tok _, ⟨_, rfl⟩, q⟩
  · obtain ⟨u, rfl, ru⟩ := vals1 r
    obtain rfl : u = Value.none := ru
    exact PySem.P.repr_of_none ⟨.str _, H, I.tok _, ⟨_, rfl⟩, q⟩
end
end Ws
end
section
/-! What _law_right compares. -/
namespace Ws
open PySem PySem.Spec PyProof.Rows L2
/-- the two rules to the ground, and numbers that keep all -/
structure Md.Box (d : Md) (low : Int) : Prop where
  lo : ∀ n ∈ d.names, ∃ r ∈ d.rl, r.2 = (none, some n, low)
  hi : ∀ n ∈ d.names, ∃ r ∈ d.rl, r.2 = (some n, none, 0 - low - 3)
  low : -2 ≤ low ∧ low ≤ 50
  x0 : ∃ x : Str → Int, ∀ r ∈ d.rl, r.2.2.2 ≤ xt x r.2.2.1 - xt x r.2.1
/-- numbers that keep all rules and change no fixed setting, as the law has it -/
def Md.keeps (d : Md) (y : Str → Int) : Prop := ∀ r ∈ d.rl, r.2.2.2 ≤ xt y r.2.2.1 - xt y r.2.1
def Md.free (d : Md) (y : Str → Int) : Prop := ∀ n ∈ d.names, d.fixed n = true → y n = d.old n
section
variable {d : Md} {t : Tk} {low : Int}
theorem TkOf.firm (h : TkOf d t) (n : Str) : t.firm (some n) = d.fixed n := by
  show decide (valV t.own (.inr n : Key) = some .non) = decide (valV d.own (.inr n : Key) = some .non)
  rw [h.own]
theorem TkOf.sat (h : TkOf d t) {y : Str → Int} : t.Sat y ↔ d.keeps y ∧ d.free y := by
  constructor
  · intro s
    refine ⟨fun r hr => ?_, fun n hn hf => ?_⟩
    · obtain ⟨r', hr', e⟩ := h.rl.all r hr
      have := s.rule r' hr'
      rw [e] at this
      exact this
    · rw [← h.old]
      exact s.firm n (h.ss.mem_iff.mpr hn) (by rw [h.firm]; exact hf)
  · rintro ⟨h1, h2⟩
    refine ⟨fun r hr => h1 r (h.rl.sub r hr), fun n hn hf => ?_⟩
    rw [h.old]
    exact h2 n (h.ss.mem_iff.mp hn) (by rw [← h.firm]; exact hf)
theorem TkOf.pre (h : TkOf d t) (ok : d.Ok) (bx : d.Box low) : t.Pre := by
  have hl := h.ss.length_eq
  have hl4 := ok.len
  refine ⟨⟨h.ss.nodup_iff.mpr ok.nd, by omega, by have := h.rl.len; have := ok.rlen; omega, fun r hr => ?_, fun n hn => ok.sok n (h.ss.mem_iff.mp hn)⟩, ⟨by rw [h.up]; exact ok.pa, by rw [h.lo]; exact ok.pb, fun n v hv => ?_⟩, ⟨fun n hn => ?_, fun r hr => ?_⟩, fun n hn => ?_, ?_⟩
  · obtain ⟨_, h1, h2⟩ := ok.rule r (h.rl.sub r hr)
    exact ⟨fun z hz => h.ss.mem_iff.mpr (h1 z hz), fun z hz => h.ss.mem_iff.mpr (h2 z hz)⟩
  · rw [h.own] at hv
    exact ok.own.val _ (valV_in hv)
  · have := ok.old n (h.ss.mem_iff.mp hn)
    rw [h.old]; omega
  · have := (ok.rule r (h.rl.sub r hr)).1
    exact ⟨this.2.2.2.1, this.2.2.2.2⟩
  · obtain ⟨r, hr, e⟩ := bx.lo n (h.ss.mem_iff.mp hn)
    obtain ⟨r', hr', e'⟩ := h.rl.all r hr
    exact ⟨r', hr', by rw [e', e], by rw [e', e]⟩
  · obtain ⟨x, hx⟩ := bx.x0
    exact ⟨xt x, fun r hr => hx r (h.rl.sub r hr)⟩
/-- kept rules keep the numbers within the box -/
theorem Md.Box.in_ (bx : d.Box low) {y : Str → Int} (h : d.keeps y) {n : Str} (hn : n ∈ d.names) : low ≤ y n ∧ y n ≤ low + 3 := by
  obtain ⟨r, hr, e⟩ := bx.lo n hn
  obtain ⟨r', hr', e'⟩ := bx.hi n hn
  have h1 := h r hr
  have h2 := h r' hr'
  rw [e] at h1
  rw [e'] at h2
  have h1' : low ≤ y n - 0 := h1
  have h2' : 0 - low - 3 ≤ 0 - y n := h2
  omega
theorem keeps_congr (ok : d.Ok) {y z : Str → Int} (h : ∀ n ∈ d.names, y n = z n) : d.keeps y ↔ d.keeps z := by
  have one : ∀ r ∈ d.rl, xt y r.2.1 = xt z r.2.1 ∧ xt y r.2.2.1 = xt z r.2.2.1 := fun r hr => by
    obtain ⟨_, h1, h2⟩ := ok.rule r hr
    have go : ∀ v : Nd, (∀ z, v = some z → z ∈ d.names) → xt y v = xt z v := fun v hv => by
      cases v with
      | none => rfl
      | some n => exact h n (hv n rfl)
    exact ⟨go _ h1, go _ h2⟩
  constructor
  · intro k r hr
    rw [← (one r hr).1, ← (one r hr).2]; exact k r hr
  · intro k r hr
    rw [(one r hr).1, (one r hr).2]; exact k r hr
theorem free_congr {y z : Str → Int} (h : ∀ n ∈ d.names, y n = z n) : d.free y ↔ d.free z :=
  ⟨fun k n hn hf => by rw [← h n hn]; exact k n hn hf, fun k n hn hf => by rw [h n hn]; exact k n hn hf⟩
theorem price_congr {y z : Str → Int} (h : ∀ n ∈ d.names, y n = z n) : d.price y = d.price z := by
  have h1 : d.names.any (d.moved y) = d.names.any (d.moved z) := by
    have : ∀ l : List Str, (∀ n ∈ l, n ∈ d.names) → l.any (d.moved y) = l.any (d.moved z) := fun l => by
      induction l with
      | nil => intro _; rfl
      | cons n l ih =>
        intro hl
        rw [List.any_cons, List.any_cons, ih fun m hm => hl m (List.mem_cons_of_mem _ hm)]
        unfold Md.moved
        rw [h n (hl n List.mem_cons_self)]
    exact this _ fun _ h => h
  have h2 : d.names.map (d.cost y) = d.names.map (d.cost z) := List.map_congr_left fun n hn => by unfold Md.cost; rw [h n hn]
  unfold Md.price
  rw [h1, h2]
theorem price_none {y : Str → Int} : d.price y = none ↔ ¬ d.free y := by
  unfold Md.price
  constructor
  · intro h hf
    by_cases q : d.names.any (d.moved y) = true
    · obtain ⟨n, hn, e⟩ := List.any_eq_true.mp q
      unfold Md.moved at e
      rw [Bool.and_eq_true] at e
      have := hf n hn e.1
      have h2 := of_decide_eq_true e.2
      omega
    · rw [if_neg q] at h; cases h
  · intro h
    rw [if_pos]
    refine Classical.byContradiction fun q => h fun n hn hf => ?_
    have q' : d.names.any (d.moved y) = false := by simpa using q
    have := List.any_eq_false.mp q' n hn
    unfold Md.moved at this
    rw [hf] at this
    simp at this
    omega
theorem price_some {y : Str → Int} (h : d.free y) : d.price y = some ((d.names.map (d.cost y)).sum) := by
  cases e : d.price y with
  | none => exact absurd h (price_none.mp e)
  | some v =>
    unfold Md.price at e
    split at e
    · cases e
    · exact e.symm
theorem perm_sum {l m : List Int} (h : l.Perm m) : l.sum = m.sum := by
  induction h with
  | nil => rfl
  | cons x _ ih => rw [List.sum_cons, List.sum_cons, ih]
  | swap x y l => rw [List.sum_cons, List.sum_cons, List.sum_cons, List.sum_cons]; omega
  | trans _ _ ih1 ih2 => rw [ih1, ih2]
theorem filter_sum (p : Str → Bool) (f : Str → Int) : ∀ l : List Str, (∀ n ∈ l, p n = false → f n = 0) → ((l.filter p).map f).sum = (l.map f).sum
  | [], _ => rfl
  | n :: l, h => by
    have ih := filter_sum p f l fun m hm => h m (List.mem_cons_of_mem _ hm)
    rw [List.map_cons, List.sum_cons, ← ih]
    cases e : p n with
    | true => rw [List.filter_cons_of_pos e, List.map_cons, List.sum_cons]
    | false => rw [List.filter_cons_of_neg (by rw [e]; exact Bool.false_ne_true), h n List.mem_cons_self e, Int.zero_add]
theorem cost_loose (ok : d.Ok) (h : TkOf d t) {y : Str → Int} {n : Str} (hn : n ∈ t.ss) (hl : t.loose n = true) : t.cost (t.dif y) n = d.cost y n := by
  have hf : d.fixed n = false := by
    unfold Tk.loose at hl
    rw [h.firm] at hl
    simpa using hl
  have hd : t.dif y n = y n - d.old n := by unfold Tk.dif; rw [if_pos hn, h.old]
  unfold Tk.cost Md.cost
  rw [hd]
  generalize y n - d.old n = w
  have hU : t.prU n = match valV d.own (.inr n : Key) with | some (.int i) => i | _ => d.a := by
    unfold Tk.prU Tk.own1
    rw [h.own, h.up]
    all_goals
      rcases valV d.own (.inr n : Key) with _ | v
      · rfl
      · cases v <;> rfl
  have hL : t.prL n = match valV d.own (.inr n : Key) with | some (.int i) => i | _ => d.b := by
    unfold Tk.prL Tk.own1
    rw [h.own, h.lo]
    all_goals
      rcases valV d.own (.inr n : Key) with _ | v
      · rfl
      · cases v <;> rfl
  have hE : d.eachI n w = if 0 < w then t.prU n else t.prL n := by
    rw [hU, hL]
    unfold Md.eachI
    cases e : valV d.own (.inr n : Key) with
    | none => rfl
    | some v =>
      cases v with
      | int i => by_cases q : 0 < w <;> simp [q]
      | _ => rfl
  rw [hE]
  unfold pos absI
  by_cases h0 : w = 0
  · subst h0; simp
  · rw [if_neg h0]
    by_cases hp : 0 < w
    · rw [if_pos hp, if_pos (show 0 ≤ w by omega), if_neg (show ¬ 0 ≤ -w by omega), if_neg (show ¬ w < 0 by omega), Int.mul_zero, Int.add_zero]
    · rw [if_neg hp, if_neg (show ¬ 0 ≤ w by omega), if_pos (show 0 ≤ -w by omega), if_pos (show w < 0 by omega), Int.mul_zero, Int.zero_add]
/-- the price as the net has it is the price as the law has it -/
theorem price_net (ok : d.Ok) (h : TkOf d t) {y : Str → Int} (hf : d.free y) : t.net.price (t.dif y) = (d.names.map (d.cost y)).sum := by
  rw [price_eq]
  have e1 : (t.ss.filter t.loose).map (t.cost (t.dif y)) = (t.ss.filter t.loose).map (d.cost y) := List.map_congr_left fun n hn => by
    obtain ⟨h1, h2⟩ := List.mem_filter.mp hn
    exact cost_loose ok h h1 h2
  rw [e1, filter_sum]
  · exact perm_sum (h.ss.map _)
  · intro n hn hl
    have hfx : d.fixed n = true := by
      unfold Tk.loose at hl
      rw [h.firm] at hl
      simpa using hl
    have := hf n (h.ss.mem_iff.mp hn) hfx
    unfold Md.cost
    rw [if_pos (by omega)]
/-! ### the best -/
/-- T is the price of some numbers that keep all, and no others are cheaper -/
structure Md.Least (d : Md) (T : Int) : Prop where
  some_ : ∃ y, d.keeps y ∧ d.free y ∧ (d.names.map (d.cost y)).sum = T
  le : ∀ y, d.keeps y → d.free y → T ≤ (d.names.map (d.cost y)).sum
theorem Md.Least.uniq {T T' : Int} (a : d.Least T) (b : d.Least T') : T = T' := by
  obtain ⟨y, h1, h2, h3⟩ := a.some_
  obtain ⟨y', h1', h2', h3'⟩ := b.some_
  have := a.le y' h1' h2'
  have := b.le y h1 h2
  omega
theorem end_fig (ok : d.Ok) (bx : d.Box low) (h : TkOf d t) {a : Nat → Int} (e : t.End a) (hx : ∃ x, t.Sat x) : d.keeps (t.fig a) ∧ d.free (t.fig a) ∧ (d.names.map (d.cost (t.fig a))).sum = t.net.total a := by
  have pre := h.pre ok bx
  obtain ⟨x, hx⟩ := hx
  obtain ⟨s1, s2, s3⟩ := best_sol pre.ok pre.pr e.inv e.pot (hx.sol pre.ok)
  have sat : t.Sat (t.fig a) := sat_of pre.ok s1 s3
  obtain ⟨k1, k2⟩ := h.sat.mp sat
  refine ⟨k1, k2, ?_⟩
  rw [← price_net ok h k2, s2, price_eq, price_eq]
  congr 1
  refine List.map_congr_left fun n hn => ?_
  have hn' := (List.mem_filter.mp hn).1
  have : t.dif (t.fig a) n = diff (figB t.net a (t.ss.length + 1)) n := by
    unfold Tk.dif Tk.fig
    rw [if_pos hn']; omega
  unfold Tk.cost
  rw [this]
theorem end_least (ok : d.Ok) (bx : d.Box low) (h : TkOf d t) {a : Nat → Int} (e : t.End a) (hx : ∃ x, t.Sat x) : d.Least (t.net.total a) := by
  have pre := h.pre ok bx
  refine ⟨⟨_, end_fig ok bx h e hx⟩, fun y hk hf => ?_⟩
  rw [← price_net ok h hf]
  exact weak (net_ok pre.ok pre.pr) e.inv ((h.sat.mpr ⟨hk, hf⟩).sol pre.ok)
theorem cost_bound (ok : d.Ok) (bx : d.Box low) {y : Str → Int} (hk : d.keeps y) {n : Str} (hn : n ∈ d.names) : 0 ≤ d.cost y n ∧ d.cost y n ≤ 20000000 := by
  have h1 := bx.in_ hk hn
  have h2 := ok.old n hn
  have h3 := bx.low
  unfold Md.cost
  by_cases h0 : y n - d.old n = 0
  · rw [if_pos h0]; decide
  · rw [if_neg h0]
    have hw : 0 ≤ absI (y n - d.old n) ∧ absI (y n - d.old n) ≤ 11000 := by
      unfold absI
      split <;> omega
    have he : 0 ≤ d.eachI n (y n - d.old n) ∧ d.eachI n (y n - d.old n) ≤ 999 := by
      rcases each_val ok n (y n - d.old n) with ⟨_, h⟩ | ⟨_, _, h4, h5⟩
      · unfold Md.eachI
        unfold Md.fixed at h
        rw [of_decide_eq_true h]
        show 0 ≤ (if 0 < y n - d.old n then d.a else d.b) ∧ (if 0 < y n - d.old n then d.a else d.b) ≤ 999
        have := ok.pa
        have := ok.pb
        unfold prOk at *
        split <;> omega
      · omega
    generalize d.eachI n (y n - d.old n) = e at he
    generalize absI (y n - d.old n) = w at hw
    refine ⟨Int.mul_nonneg he.1 hw.1, ?_⟩
    have := Int.mul_le_mul he.2 hw.2 hw.1 (by decide : (0 : Int) ≤ 999)
    omega
theorem sum_bound {f : Str → Int} {c : Int} : ∀ l : List Str, (∀ n ∈ l, 0 ≤ f n ∧ f n ≤ c) → 0 ≤ (l.map f).sum ∧ (l.map f).sum ≤ l.length * c
  | [], _ => ⟨Int.le_refl _, by simp⟩
  | n :: l, h => by
    have ih := sum_bound l fun m hm => h m (List.mem_cons_of_mem _ hm)
    have hn := h n List.mem_cons_self
    rw [List.map_cons, List.sum_cons, List.length_cons]
    refine ⟨by omega, ?_⟩
    have : ((l.length + 1 : Nat) : Int) * c = (l.length : Int) * c + c := by
      rw [Int.natCast_add, Int.add_mul]; simp
    omega
theorem least_bound (ok : d.Ok) (bx : d.Box low) {T : Int} (h : d.Least T) : 0 ≤ T ∧ T ≤ 80000000 := by
  obtain ⟨y, h1, h2, h3⟩ := h.some_
  have := sum_bound d.names fun n hn => cost_bound ok bx h1 hn
  have hl := ok.len
  rw [h3] at this
  have h4 : (d.names.length : Int) * 20000000 ≤ 4 * 20000000 := Int.mul_le_mul_of_nonneg_right (by omega) (by decide)
  omega
end
end Ws
end
section
/-! _law_right -/
namespace Ws
open PySem PySem.Spec PyProof.Rows L2
abbrev sRight : Stmt := top 66
def spRight : Sp := fun vs H Q _ => ∃ m ny ga od de d low, vs = [.ref m, .int low] ∧ MdAt H m ny ga od de d ∧ d.Ok ∧ d.Box low ∧ Al Q H (.bl true)
/-- a good pair: its tuple, its price, its dict and numbers -/
abbrev Gd := Addr × Int × Fn
def refsG (gs : List Gd) : List V := gs.map fun q => .ref q.1
structure GdAt (d : Md) (H : Hp) (fs : List Fn) (gs : List Gd) : Prop where
  at_ : ∀ q ∈ gs, H q.1 = some (.tup [.int q.2.1, .ref q.2.2.1])
  mem : ∀ q ∈ gs, q.2.2 ∈ fs
  ok : ∀ q ∈ gs, d.keeps q.2.2.2 ∧ d.free q.2.2.2 ∧ (d.names.map (d.cost q.2.2.2)).sum = q.2.1
structure DueOf (gs : List Gd) (o : Option Int) : Prop where
  none_ : o = none → gs = []
  some_ : ∀ T, o = some T → (∃ q ∈ gs, q.2.1 = T) ∧ ∀ q ∈ gs, T ≤ q.2.1
theorem same_dict {names ss : List Str} {x y : Str → Int} (hp : ss.Perm names) (hn : names.Nodup) (h : ∀ n ∈ names, x n = y n) : sameD (oldK names x) (oldK ss y) = true := by
  unfold sameD
  rw [Bool.and_eq_true]
  constructor
  · unfold oldK
    rw [List.length_map, List.length_map, hp.length_eq]
    exact beq_self_eq_true _
  · refine List.all_eq_true.mpr fun p hp' => decide_eq_true ?_
    obtain ⟨n, hn', rfl⟩ := List.mem_map.mp hp'
    show valV (oldK ss y) (.inr n : Key) = some (.int (x n))
    rw [valV_old (hp.nodup_iff.mpr hn)]
    unfold oldF
    rw [if_pos (hp.mem_iff.mpr hn'), h n hn']; rfl
theorem allI_old (ss : List Str) (x : Str → Int) : allI (oldK ss x) := fun p hp => by
  obtain ⟨n, _, rfl⟩ := List.mem_map.mp hp
  exact ⟨x n, rfl⟩
theorem log_small {T : Int} (h0 : 0 ≤ T) (h1 : T ≤ 80000000) : T.natAbs.log2 < 1920 := by
  by_cases h : T.natAbs = 0
  · rw [h]; decide
  · refine (Nat.log2_lt h).mpr (Nat.lt_of_lt_of_le (show T.natAbs < 2 ^ 27 by omega) (Nat.pow_le_pow_right (by decide) (by decide)))
section
variable {P : Program} {w : World} {K : PySem.W.Frag} {mg : Str → Option Value} {base : Heap} {f : Addr} {C : TAd} {fd : FuncData}
abbrev nRi : List Str := ["_law_model", "_law_low", "_law_task_here", "_law_good", "_law_one", "_law_each", "_law_due", "_law_found", "_law_ask"]
theorem sc_right : FnScope nRi ["_law_model", "_law_low"] (defScope sRight) := ⟨rfl, rfl, rfl, by decide +kernel, rfl, by decide +kernel, by decide +kernel⟩
theorem ok_right (F : Fun K "_law_right" "_law_right" sRight f fd) (g : Gm mg) (c1 : Cal P w K mg base 9 "_law_task" (spTask C)) (c2 : Cal P w K mg base 1 "_law_all_numbers" spAll) (c3 : Cal P w K mg base 1 "_law_price" spPrice) (c4 : Cal P w K mg base 2 "_law_short" spLShort)
    (c5 : Cal P w K mg base 10 "least_price" (spLP C)) (c6 : Cal P w K mg base 11 "cheapest" (spCh C)) (c7 : Cal P w K mg base 4 "total" (spTot C)) (c8 : Cal P w K mg base 11 "certificate" (spCert C)) : FnOk P w K mg base CX0 12 f fd ["_law_model", "_law_low"] spRight := by
  refine F.ok sc_right (fun vs H Q E h => ?_) (fun cdv A outer s H vs Q E hr h => ?_)
  · obtain ⟨m, ny, ga, od, de, d, low, rfl, _⟩ := h
    rfl
  · obtain ⟨m, ny, ga, od, de, d, low, rfl, hm, ok, bx, fin⟩ := h
    have nd := sc_right.nd
    have hu := hu_of hr
    refine ⟨_, (pss_cons (ps_par (i := 2) (j := 3) rfl nd rfl rfl (by decide) rfl rfl (pa_cons (pe_f (X := Cx.nox _) c1 hr (pa_cons (pv 0) pa_nil)) (pa_cons (pe_lst pa_nil) pa_nil)) (by rfl))
      (pss_cons (ps_for PassesOwn.never rfl (pi_list (pe_f (X := Cx.nox _) c2 hr (pa_cons (pe_ix ix_tup (pv 0) pe_int (fun _ _ => rfl)) (pa_cons (pv 1) (pa_cons pe_int pa_nil))))) (pg_name (i := 4) nd rfl (Or.inr rfl))
        (pss_cons (ps_set (i := 5) nd rfl (Or.inl rfl) (pe_f (X := Cx.nox _) c3 hr (pa_cons (pv 0) (pa_cons (pv 4) pa_nil))))
        (pss_one (ps_if (PW.pt (pw_and (pt_cmp (pc_notN (pv 5))) (pw_and1 (pt_val (pe_callB (cr_all rfl) rfl g.all boot_all (pa_cons (pe_lc (own := [("_law_ask", 8)]) (g := gName 8) (tt := tYes) (te := tLe (tCall spLShort [] E0 (tCons (tVar 4) (tCons (tVar 8) tNil))) (tC (.int 0))) rfl nd (pi_list (pe_ix ix_tup (pv 0) pe_int (fun _ _ => rfl))) (blkOk_by (own := [("_law_ask", 8)]) (N := nRi) (sc := defScope sRight) (by decide +kernel))
              (fun _ _ _ _ _ => pg_name (i := 8) nd rfl (Or.inl rfl)) (fun _ _ _ _ _ => pts_nil) (fun _ _ _ _ _ => by exact pe_cmp (pc_le (pe_f c4 hr (pa_cons (pv 4) (pa_cons (pv 8) pa_nil))) pe_int) rfl)) pa_nil))))))
          (pss_one (ps_expr (pe_bm PySem.F.plainAttrs_list PySem.F.slot_list_append PySem.F.type_list_append mt_append (pv 3) (pa_cons (pe_tup (pa_cons (pv 5) (pa_cons (pv 4) pa_nil))) pa_nil)))) pss_nil))))
      (pss_cut (ps_set (i := 6) nd rfl (Or.inr rfl) (pe_ifExp (pt_cmpR (or_neNil (Nat.lt_of_succ_lt hu)) (pv 3) (pe_lst pa_nil) (nomark _)) (pe_callB (cr_min rfl) rfl g.min (by decide +kernel) (pa_cons (pe_lc (own := [("_law_one", 4)]) (g := gName 4) (tt := tYes) (te := tOp (rIxT K) (tVar 4) (tC (.int 0))) rfl nd (pi_list (pv 3)) (blkOk_by (own := [("_law_one", 4)]) (N := nRi) (sc := defScope sRight) (by decide +kernel))
            (fun _ _ _ _ _ => pg_name (i := 4) nd rfl (Or.inl rfl)) (fun _ _ _ _ _ => pts_nil) (fun _ _ _ _ _ => by exact pe_ix ix_tup (pv 4) pe_int (fun _ _ => rfl))) pa_nil)) pe_non))
      (pss_cons (ps_if (pt_cmpR op_ne (pe_callB call_repr2 rfl g.repr (by decide +kernel) (pa_cons (pe_f (X := Cx.nox _) c5 hr (pa_cons (pv 2) pa_nil)) pa_nil)) (pe_callB call_repr2 rfl g.repr (by decide +kernel) (pa_cons (pv 6) pa_nil)) (nomark _)) (pss_one (ps_ret pe_bl)) pss_nil)
      (pss_cons (ps_if (pt_cmp (pc_isN (pv 6))) (pss_one (ps_ret pe_bl)) pss_nil)
      (pss_cons (ps_set (i := 7) nd rfl (Or.inl rfl) (pe_f (X := Cx.nox _) c6 hr (pa_cons (pv 2) pa_nil)))
      (pss_one (ps_ret (pe_and (pe_cmpR (or_inP hr.units) (pv 7) (pe_lc (own := [("_law_one", 4)]) (g := gName 4) (tt := tTest (tOp rEq (tOp (rIxT K) (tVar 4) (tC (.int 0))) (tVar 6))) (te := tVar 4) rfl nd (pi_list (pv 3)) (blkOk_by (own := [("_law_one", 4)]) (N := nRi) (sc := defScope sRight) (by decide +kernel))
            (fun _ _ _ _ _ => pg_name (i := 4) nd rfl (Or.inl rfl)) (fun _ _ _ _ _ => by exact pts_one (pt_cmpR op_eq (pe_ix ix_tup (pv 4) pe_int (fun _ _ => rfl)) (pv 6) (nomark _))) (fun _ _ _ _ _ => by exact pv 4)) rfl)
          (pe_one (pe_cmpR op_eq (pe_f (X := Cx.nox _) c7 hr (pa_cons (pv 2) (pa_cons (pe_f (X := Cx.nox _) c8 hr (pa_cons (pv 2) pa_nil)) pa_nil))) (pv 6) (nomark _)))))))))))), ?_⟩
    refine ⟨_, rfl, m, ny, ga, od, de, d, rfl, hm, ok, fun H1 x t sy pr o2 s1 ta tkof => ?_⟩
    refine ⟨Nat.zero_le _, fun gl hgl => ⟨_, _, rfl, ?_⟩⟩
    have hglH : H gl = none := by
      cases e : H gl with
      | none => rfl
      | some u => rw [s1 _ _ e] at hgl; cases hgl
    have s2 : Same H1 (upd H1 gl (.lst [])) := Same.new hgl
    have hgl2 : upd H1 gl (.lst []) gl = some (.lst []) := upd_same
    have hm2 := hm.same (s1.trans s2)
    have ta2 := ta.same s2
    have s02 := s1.trans s2
    generalize upd H1 gl (.lst []) = H2 at s2 hgl2 hm2 ta2 s02 ⊢
    refine ⟨_, rfl, m, _, _, _, rfl, rfl, SqT.of hm2.at_, rfl, _, rfl, ny, d.names, low, rfl, hm2.ny, ok.nd, ok.len, fun H3 fa fs s3 hfa hbox hfl => ?_⟩
    have hgl3 := s3 _ _ hgl2
    have s03 := s02.trans s3
    have hm3 := hm2.same s3
    have ta3 := ta2.same s3
    have kp : ∀ {H' : Hp}, (∀ y u, y ≠ gl → H3 y = some u → H' y = some u) → Same H H' := fun k y u e => k y u (fun z => by rw [z, hglH] at e; cases e) (s03 _ _ e)
    have kp1 : ∀ {H' : Hp}, (∀ y u, y ≠ gl → H3 y = some u → H' y = some u) → Same H1 H' := fun k y u e => k y u (fun z => by rw [z, hgl] at e; cases e) (s3 _ _ (s2 _ _ e))
    obtain ⟨e00, he00, _⟩ := hbox.all (fun _ => low) (fun n _ => by omega)
    have nfa : fa ≠ gl := fun z => by
      rw [z, hgl3] at hfa
      have h := HO.lst.inj (Option.some.inj hfa)
      cases fs with
      | nil => cases he00
      | cons a r => cases h
    have hfe : ∀ e ∈ fs, H3 e.1 = some (.dK (oldK d.names e.2)) ∧ e.1 ≠ gl := fun e he => ⟨(hbox.at_ e he).1, ne_of (hbox.at_ e he).1 hgl3 (fun z => nomatch z)⟩
    let Pv : Nat → L2.St → Hp → Prop := fun i σ H' => (∀ y u, y ≠ gl → H3 y = some u → H' y = some u) ∧ (∃ gs, H' gl = some (.lst (refsG gs)) ∧ GdAt d H' fs gs ∧ (∀ e ∈ fs.take i, d.keeps e.2 → d.free e.2 → ∃ q ∈ gs, q.2.2 = e) ∧ gs.length ≤ i) ∧
      ∃ v4 v5 v6 v7 v8, σ = [some (.ref m), some (.int low), some (.ref x), some (.ref gl), v4, v5, v6, v7, v8]
    refine ⟨fa, rfl, ⟨_, SqL.of hfa⟩, for_it walk_list Pv ⟨fun _ _ _ e => e, ⟨[], hgl3, ⟨(fun q h => nomatch h), (fun q h => nomatch h), (fun q h => nomatch h)⟩, (fun e h => nomatch h), Nat.zero_le _⟩, _, _, _, _, _, rfl⟩ (fun _ _ _ _ p => SqL.of (p.1 _ _ nfa hfa)) (fun i v σ H4 H4' hi p y => ?_) (fun σ H4 p => ?_)⟩
    · obtain ⟨rfl, hv⟩ := y
      rw [refsF, List.getElem?_map] at hv
      obtain ⟨e, he, rfl⟩ := Option.map_eq_some_iff.mp hv
      have hem := List.mem_of_getElem? he
      have hi' : i < fs.length := (List.getElem?_eq_some_iff.mp he).1
      obtain ⟨k4, ⟨gs, hgl4, hgd, hgot, hgl'⟩, w4, w5, w6, w7, w8, rfl⟩ := p
      have hm4 := hm.same (kp k4)
      obtain ⟨he3, neg⟩ := hfe e hem
      have he4 := k4 _ _ neg he3
      refine ⟨_, rfl, _, rfl, m, ny, ga, od, de, d, e.1, e.2, rfl, hm4, ok, he4, ?_⟩
      have htk : fs.take (i + 1) = fs.take i ++ [e] := by rw [List.take_add_one, he]; rfl
      have skip : ∀ (H5 : Hp), Same H4' H5 → ¬ (d.keeps e.2 ∧ d.free e.2) → ∀ v4 v5 v6 v7 v8, Pv (i + 1) [some (.ref m), some (.int low), some (.ref x), some (.ref gl), v4, v5, v6, v7, v8] H5 := fun H5 s5 hno v4 v5 v6 v7 v8 => by
        refine ⟨fun y u h e => s5 _ _ (k4 _ _ h e), ⟨gs, s5 _ _ hgl4, ⟨fun q hq => s5 _ _ (hgd.at_ q hq), hgd.mem, hgd.ok⟩, fun e' he' h1 h2 => ?_, by omega⟩, _, _, _, _, _, rfl⟩
        rw [htk] at he'
        rcases List.mem_append.mp he' with z | z
        · exact hgot e' z h1 h2
        · rw [List.mem_singleton.mp z] at h1 h2
          exact absurd ⟨h1, h2⟩ hno
      cases hp : d.price e.2 with
      | none => exact ⟨_, rfl, _, rfl, iteF (iteF (skip H4' Same.refl (fun z => price_none.mp hp z.2) _ _ _ _ _))⟩
      | some each =>
        have hfree : d.free e.2 := Classical.byContradiction fun z => by
          have := price_none.mpr z
          rw [hp] at this; cases this
        have heach : (d.names.map (d.cost e.2)).sum = each := by
          have := price_some hfree
          rw [hp] at this
          exact (Option.some.inj this).symm
        refine ⟨_, rfl, _, rfl, iteT ?_⟩
        have hrn : (refsR d.rl).length = d.rl.length := List.length_map ..
        let bs : List Bool := d.rl.map fun r => decide (xt e.2 r.2.1 + r.2.2.2 - xt e.2 r.2.2.1 ≤ 0)
        refine ⟨_, rfl, m, _, _, _, rfl, rfl, SqT.of hm4.at_, rfl, ga, rfl, ⟨_, SqL.of hm4.ga⟩, fun D hD => lc_map walk_list (fun i H v H' y => by rw [y.1]; exact Same.refl) (fun j => .bl ((d.rl[j]?.map fun r => decide (xt e.2 r.2.1 + r.2.2.2 - xt e.2 r.2.2.1 ≤ 0)).getD true)) (by rw [hrn, sizeLine_eq]; have := ok.rlen; omega) hD (fun H' s' => SqL.of (s' _ _ hm4.ga)) (fun j v H5 H6 R hj s5 y k => ?_) fun H5 s5 hl5 => ?_⟩
        · obtain ⟨rfl, hv⟩ := y
          rw [refsR, List.getElem?_map] at hv
          obtain ⟨r, hr', rfl⟩ := Option.map_eq_some_iff.mp hv
          have hrm := List.mem_of_getElem? hr'
          obtain ⟨_, hlo, hhi⟩ := ok.rule r hrm
          have kk := k _ Same.refl
          rw [hr'] at kk
          refine ⟨rfl, _, rfl, _, rfl, e.1, oldF d.names e.2, r.2, r.1, xt e.2 r.2.1 + r.2.2.2 - xt e.2 r.2.2.1, rfl, ⟨_, s5 _ _ he4, valV_old ok.nd⟩, s5 _ _ (hm4.tup r hrm), ?_, _, _, rfl, rfl, kk⟩
          rw [shortF, oldF_at hlo, oldF_at hhi]; rfl
        · have hbs : (List.range (refsR d.rl).length).map (fun j => V.bl ((d.rl[j]?.map fun r => decide (xt e.2 r.2.1 + r.2.2.2 - xt e.2 r.2.2.1 ≤ 0)).getD true)) = bs.map V.bl := by
            rw [hrn]
            refine List.ext_getElem? fun j => ?_
            rw [List.getElem?_map, List.getElem?_map, List.getElem?_map]
            by_cases h : j < d.rl.length
            · rw [List.getElem?_range h]
              show some (V.bl ((d.rl[j]?.map fun r => decide (xt e.2 r.2.1 + r.2.2.2 - xt e.2 r.2.2.1 ≤ 0)).getD true)) = _
              rw [List.getElem?_eq_getElem h]; rfl
            · rw [List.getElem?_eq_none (by rw [List.length_range]; omega), List.getElem?_eq_none (by omega)]; rfl
          rw [hbs] at hl5
          refine ⟨D, bs, rfl, SqL.of hl5, _, rfl, ?_⟩
          have hall : bs.all id = true ↔ d.keeps e.2 := by
            rw [List.all_eq_true]
            constructor
            · intro h r hr'
              have := of_decide_eq_true (h _ (List.mem_map_of_mem (f := fun r : Addr × Rule => decide (xt e.2 r.2.1 + r.2.2.2 - xt e.2 r.2.2.1 ≤ 0)) hr'))
              omega
            · intro h b hb
              obtain ⟨r, hr', rfl⟩ := List.mem_map.mp hb
              have := h r hr'
              exact decide_eq_true (by omega)
          by_cases hk : bs.all id = true
          · rw [hk]
            have hkeep := hall.mp hk
            refine iteT ?_
            have hgl5 := s5 _ _ hgl4
            refine ⟨_, rfl, .inl ⟨rfl, _, SqL.of hgl5⟩, _, rfl, _, rfl, by show 2 ≤ sizeLine; decide, fun tp htp => ?_⟩
            have s6 : Same H5 (upd H5 tp (.tup [.int each, .ref e.1])) := Same.new htp
            have htp6 : upd H5 tp (.tup [.int each, .ref e.1]) tp = some (.tup [.int each, .ref e.1]) := upd_same
            have hgl6 := s6 _ _ hgl5
            refine ⟨gl, _, _, rfl, rfl, hgl6, by rw [refsG, List.length_map, sizeLine_eq]; omega, fun y u h e => ?_, ⟨gs ++ [(tp, each, e)], ?_, ⟨fun q hq => ?_, fun q hq => ?_, fun q hq => ?_⟩, fun e' he' h1 h2 => ?_, by rw [List.length_append]; show gs.length + 1 ≤ _; omega⟩, _, _, _, _, _, rfl⟩
            · rw [upd_ne h]
              exact s6 _ _ (s5 _ _ (k4 _ _ h e))
            · rw [upd_same]; unfold refsG; rw [List.map_append]; rfl
            · rcases List.mem_append.mp hq with z | z
              · have := s6 _ _ (s5 _ _ (hgd.at_ q z))
                exact (upd_ne (ne_of this hgl6 (fun z => nomatch z))).trans this
              · rw [List.mem_singleton.mp z]
                exact (upd_ne (ne_of htp6 hgl6 (fun z => nomatch z))).trans htp6
            · rcases List.mem_append.mp hq with z | z
              · exact hgd.mem q z
              · rw [List.mem_singleton.mp z]; exact hem
            · rcases List.mem_append.mp hq with z | z
              · exact hgd.ok q z
              · rw [List.mem_singleton.mp z]; exact ⟨hkeep, hfree, heach⟩
            · rw [htk] at he'
              rcases List.mem_append.mp he' with z | z
              · obtain ⟨q, hq, eq⟩ := hgot e' z h1 h2
                exact ⟨q, List.mem_append_left _ hq, eq⟩
              · rw [List.mem_singleton.mp z]
                exact ⟨_, List.mem_append_right _ List.mem_cons_self, rfl⟩
          · have hk' : bs.all id = false := by simpa using hk
            rw [hk']
            exact iteF (skip H5 s5 (fun z => hk (hall.mpr z.1)) _ _ _ _ _)
    · obtain ⟨k4, ⟨gs, hgl4, hgd, hgot, hgln⟩, w4, w5, w6, w7, w8, rfl⟩ := p
      rw [refsF, List.length_map, List.take_length] at hgot
      rw [refsF, List.length_map] at hgln
      have hgln' : gs.length ≤ 256 := Nat.le_trans hgln hfl
      -- every solution's numbers are among the pairs
      have hrep : ∀ y, d.keeps y → d.free y → ∃ q ∈ gs, (∀ n ∈ d.names, q.2.2.2 n = y n) ∧ q.2.1 = (d.names.map (d.cost y)).sum := fun y hk hf => by
        obtain ⟨e, he, hey⟩ := hbox.all y fun n hn => bx.in_ hk hn
        obtain ⟨q, hq, eq⟩ := hgot e he ((keeps_congr ok hey).mpr hk) ((free_congr hey).mpr hf)
        refine ⟨q, hq, by rw [eq]; exact hey, ?_⟩
        rw [← (hgd.ok q hq).2.2, eq]
        congr 1
        exact List.map_congr_left fun n hn => by unfold Md.cost; rw [hey n hn]
      have hgln2 : (refsG gs).length = gs.length := List.length_map ..
      refine ⟨fun σ H5 => Same H4 H5 ∧ ∃ due, DueOf gs due ∧ ∃ v4 v5 v8, σ = [some (.ref m), some (.int low), some (.ref x), some (.ref gl), v4, v5, some (oiV due), w7, v8], ?_, ?_⟩
      · refine ⟨_, rfl, Nat.zero_le _, fun le hle => ⟨gl, le, _, rfl, rfl, SqL.of ((Same.new hle) _ _ hgl4), SqL.of upd_same, _, rfl, ?_⟩⟩
        have s5 : Same H4 (upd H4 le (.lst [])) := Same.new hle
        generalize upd H4 le (.lst []) = H5 at s5 ⊢
        cases hgs : gs with
        | nil =>
          refine iteF ⟨s5, none, ⟨(fun _ => rfl), (fun T h => nomatch h)⟩, _, _, _, rfl⟩
        | cons q0 gr =>
          refine iteT ?_
          have hgl5 := s5 _ _ hgl4
          refine ⟨_, rfl, gl, rfl, ⟨_, SqL.of hgl5⟩, fun D hD => lc_map walk_list (fun i H v H' y => by rw [y.1]; exact Same.refl) (fun i => .int ((gs[i]?.map fun q => q.2.1).getD 0)) (by rw [hgln2, sizeLine_eq]; omega) hD (fun H' s' => SqL.of (s' _ _ hgl5)) (fun j v H6 H7 R hj s6 y k => ?_) fun H6 s6 hl6 => ?_⟩
          · obtain ⟨rfl, hv⟩ := y
            rw [refsG, List.getElem?_map] at hv
            obtain ⟨q, hq, rfl⟩ := Option.map_eq_some_iff.mp hv
            have kk := k _ Same.refl
            rw [hq] at kk
            exact ⟨rfl, _, rfl, q.1, _, _, _, rfl, rfl, SqT.of (s6 _ _ (s5 _ _ (hgd.at_ q (List.mem_of_getElem? hq)))), rfl, kk⟩
          · have hps : (List.range (refsG gs).length).map (fun i => V.int ((gs[i]?.map fun q => q.2.1).getD 0)) = (gs.map fun q => q.2.1).map V.int := by
              rw [hgln2]
              refine List.ext_getElem? fun j => ?_
              rw [List.getElem?_map, List.getElem?_map, List.getElem?_map]
              by_cases h : j < gs.length
              · rw [List.getElem?_range h]
                show some (V.int ((gs[j]?.map fun q => q.2.1).getD 0)) = _
                rw [List.getElem?_eq_getElem h]; rfl
              · rw [List.getElem?_eq_none (by rw [List.length_range]; omega), List.getElem?_eq_none (by omega)]; rfl
            rw [hps] at hl6
            refine ⟨D, gs.map fun q => q.2.1, rfl, SqL.of hl6, by rw [List.length_map, hgs]; exact Nat.succ_pos _, fun mn hmn hle' => ⟨s5.trans s6, some mn, ⟨(fun h => nomatch h), fun T h => ?_⟩, _, _, _, rfl⟩⟩
            cases h
            rw [← hgs]
            obtain ⟨q, hq, e⟩ := List.mem_map.mp hmn
            exact ⟨⟨q, hq, e⟩, fun q' hq' => hle' _ (List.mem_map_of_mem hq')⟩
      · rintro σ' H5 ⟨s5, due, hdue, v4, v5, v8, rfl⟩
        have s15 : Same H1 H5 := (kp1 k4).trans s5
        have sH5 : Same H H5 := s1.trans s15
        have pre := tkof.pre ok bx
        have hgl5 := s5 _ _ hgl4
        have hat5 : ∀ q ∈ gs, H5 q.1 = some (.tup [.int q.2.1, .ref q.2.2.1]) ∧ H5 q.2.2.1 = some (.dK (oldK d.names q.2.2.2)) := fun q hq => by
          obtain ⟨h1, h2⟩ := hfe _ (hgd.mem q hq)
          exact ⟨s5 _ _ (hgd.at_ q hq), s5 _ _ (k4 _ _ h2 h1)⟩
        refine ⟨_, rfl, x, t, sy, pr, o2, rfl, ta.same s15, pre, fun H6 s6 hno => ?_, fun H6 a s6 hsat hend => ?_⟩
        · -- no solution
          have hgs : gs = [] := by
            cases hgs : gs with
            | nil => rfl
            | cons q0 gr =>
              exfalso
              have hq0 : q0 ∈ gs := by rw [hgs]; exact List.mem_cons_self
              obtain ⟨h1, h2, _⟩ := hgd.ok q0 hq0
              exact hno _ (tkof.sat.mpr ⟨h1, h2⟩)
          have hd0 : due = none := by
            cases hd : due with
            | none => rfl
            | some T =>
              obtain ⟨⟨q, hq, _⟩, _⟩ := hdue.some_ T hd
              rw [hgs] at hq; cases hq
          subst hd0
          refine .inr ⟨rfl, _, rfl, .inr ⟨rfl, rfl, _, rfl, ?_⟩⟩
          rw [decide_eq_true rfl]
          exact iteF ⟨_, rfl, _, rfl, iteT (fin _ (sH5.trans s6))⟩
        · -- the least price
          have hl := end_least ok bx tkof hend hsat
          obtain ⟨b0, b1⟩ := least_bound ok bx hl
          have hdT : due = some (t.net.total a) := by
            obtain ⟨y, h1, h2, h3⟩ := hl.some_
            obtain ⟨q, hq, _, hqp⟩ := hrep y h1 h2
            cases hd : due with
            | none => rw [hdue.none_ hd] at hq; cases hq
            | some T =>
              obtain ⟨⟨q', hq', e'⟩, hle⟩ := hdue.some_ T hd
              have h4 := hle q hq
              obtain ⟨k1, k2, k3⟩ := hgd.ok q' hq'
              have h5 := hl.le _ k1 k2
              rw [k3, e'] at h5
              rw [hqp, h3] at h4
              congr 1
              omega
          subst hdT
          refine .inl ⟨_, rfl, log_small b0 b1, _, rfl, .inl ⟨_, rfl, log_small b0 b1, rfl, _, rfl, ?_⟩⟩
          rw [decide_eq_true rfl]
          refine iteF ⟨_, rfl, _, rfl, iteF ?_⟩
          have s16 := s15.trans s6
          refine ⟨_, rfl, x, t, sy, pr, o2, rfl, ta.same s16, pre, hsat, fun H7 p D a' s7 hp6 hD6 hp7 hD7 hend' => ?_⟩
          have hl' := end_least ok bx tkof hend' hsat
          have hT : t.net.total a' = t.net.total a := hl'.uniq hl
          rw [hT] at hp7
          have s57 := s6.trans s7
          have hgl7 := s57 _ _ hgl5
          have hat7 : ∀ q ∈ gs, H7 q.1 = some (.tup [.int q.2.1, .ref q.2.2.1]) ∧ H7 q.2.2.1 = some (.dK (oldK d.names q.2.2.2)) := fun q hq => ⟨s57 _ _ (hat5 q hq).1, s57 _ _ (hat5 q hq).2⟩
          refine ⟨_, rfl, _, rfl, gl, rfl, ⟨_, SqL.of hgl7⟩, fun D2 hD2 => ?_⟩
          let sel : Nat → List Addr := fun j => ((gs.take j).filter fun q => decide (q.2.1 = t.net.total a)).map fun q => q.1
          refine walkP walk_list (fun j H8 => Same H7 H8 ∧ H8 D2 = some (.lst ((sel j).map V.ref))) ⟨Same.new hD2, upd_same⟩ (fun j H8 _ p => SqL.of (p.1 _ _ hgl7)) (fun j v H8 H8' hj p y => ?_) (fun H8 p => ?_)
          · obtain ⟨rfl, hv⟩ := y
            rw [refsG, List.getElem?_map] at hv
            obtain ⟨q, hq, rfl⟩ := Option.map_eq_some_iff.mp hv
            obtain ⟨s8, hD8⟩ := p
            have hqm := List.mem_of_getElem? hq
            have hsel : sel (j + 1) = sel j ++ if q.2.1 = t.net.total a then [q.1] else [] := by
              show ((gs.take (j + 1)).filter _).map _ = _
              rw [List.take_add_one, hq, Option.toList_some, List.filter_append, List.map_append]
              congr 1
              by_cases h : q.2.1 = t.net.total a
              · rw [if_pos h]; simp [List.filter_cons, h]
              · rw [if_neg h]; simp [List.filter_cons, h]
            refine ⟨rfl, _, rfl, q.1, _, _, _, rfl, rfl, SqT.of (s8 _ _ (hat7 q hqm).1), rfl, _, rfl, rfl, _, rfl, ?_⟩
            by_cases h : q.2.1 = t.net.total a
            · refine iteD (congrArg V.int h) ⟨_, rfl, _, hD8, ?_, fun y u e => ?_, ?_⟩
              · rw [List.length_map, sizeLine_eq]
                show (((gs.take j).filter fun q => decide (q.2.1 = t.net.total a)).map fun q => q.1).length < _
                rw [List.length_map]
                have h1 := List.length_filter_le (fun q : Gd => decide (q.2.1 = t.net.total a)) (gs.take j)
                rw [List.length_take] at h1
                omega
              · rw [upd_ne (fun z => by rw [z, hD2] at e; cases e)]
                exact s8 _ _ e
              · rw [upd_same, hsel, if_pos h, List.map_append]; rfl
            · refine iteDF (fun z => h (V.int.inj z)) ⟨s8, ?_⟩
              rw [hsel, if_neg h, List.append_nil]; exact hD8
          · obtain ⟨s8, hD8⟩ := p
            have hsl : sel (refsG gs).length = (gs.filter fun q => decide (q.2.1 = t.net.total a)).map fun q => q.1 := by
              show ((gs.take (refsG gs).length).filter _).map _ = _
              rw [hgln2, List.take_length]
            rw [hsl] at hD8
            have s58 := s57.trans s8
            have hat8 : ∀ q ∈ gs, H8 q.1 = some (.tup [.int q.2.1, .ref q.2.2.1]) ∧ H8 q.2.2.1 = some (.dK (oldK d.names q.2.2.2)) := fun q hq => ⟨s8 _ _ (hat7 q hq).1, s8 _ _ (hat7 q hq).2⟩
            refine ⟨p, t.net.total a, D, oldK t.ss (t.fig a'), D2, _, rfl, s8 _ _ hp7, s8 _ _ hD7, allI_old _ _, rfl, hD8, fun qa hqa => ?_, ?_⟩
            · obtain ⟨q, hq, rfl⟩ := List.mem_map.mp hqa
              have hqm := (List.mem_filter.mp hq).1
              refine ⟨fun e => ?_, q.2.1, q.2.2.1, oldK d.names q.2.2.2, (hat8 q hqm).1, fun e => ?_, (hat8 q hqm).2, allI_old _ _, ?_⟩
              · have := s6 _ _ (hat5 q hqm).1
                rw [e, hp6] at this; cases this
              · have := s6 _ _ (hat5 q hqm).2
                rw [e, hD6] at this; cases this
              · rw [oldK_keys]; exact keys_nodup ok.nd
            · -- it is among them
              obtain ⟨f1, f2, f3⟩ := end_fig ok bx tkof hend' hsat
              obtain ⟨q, hq, hqe, hqp⟩ := hrep _ f1 f2
              rw [f3, hT] at hqp
              have hany : (((gs.filter fun q => decide (q.2.1 = t.net.total a)).map fun q => q.1).any (eqP H8 (t.net.total a) (oldK t.ss (t.fig a')))) = true := by
                refine List.any_eq_true.mpr ⟨q.1, List.mem_map_of_mem (List.mem_filter.mpr ⟨hq, decide_eq_true hqp⟩), ?_⟩
                unfold eqP
                rw [(hat8 q hq).1]
                simp only
                rw [(hat8 q hq).2]
                simp only
                rw [same_dict tkof.ss ok.nd hqe, hqp, beq_self_eq_true]; rfl
              rw [hany]
              refine ⟨true, rfl, iteT ?_⟩
              have s18 := (s16.trans s7).trans s8
              refine ⟨_, rfl, _, rfl, x, t, sy, pr, o2, rfl, ta.same s18, pre, hsat, fun H9 pc a2 s9 hpc hend2 => ?_⟩
              have hl2 := end_least ok bx tkof hend2 hsat
              have hT2 : t.net.total a2 = t.net.total a := hl2.uniq hl
              refine ⟨x, t, sy, pr, o2, pc, a2, rfl, ta.same (s18.trans s9), pre, hpc, hend2.inv, fun i hi => ?_, fun H10 s10 => ?_⟩
              · have := hend2.inv.le i (by rw [net_n]; omega)
                omega
              · refine ⟨_, rfl, rfl, ?_⟩
                rw [hT2, show decide (V.int (t.net.total a) = oiV (some (t.net.total a))) = true from decide_eq_true rfl]
                exact fin _ ((s1.trans (s18.trans s9)).trans s10)
end
end Ws
end
section
/-! law -/
namespace Ws
open PySem PySem.Spec PyProof.Rows L2
abbrev sLaw : Stmt := top 67
def spLaw (K : PySem.W.Frag) : Sp := fun vs H Q _ => ∃ s, ∃ ns : List Int, vs = [.ref s] ∧ SqL K H s (ns.map V.int) ∧ Al Q H (.bl true)
theorem Pen.neq {H : Hp} {pa sa y : Addr} {n : Nat} {u : HO} (hP : Pen H pa sa n) (hy : H y = some u) (hu : ∀ s i k, u ≠ .lst [.ref s, .int i, .int k]) : y ≠ pa := fun e => by
  obtain ⟨_, _, _, x1, _⟩ := hP
  rw [← e, hy] at x1
  exact hu _ _ _ (Option.some.inj x1)
theorem strs_pen {names : List Str} (s : Addr) (i k : Int) : HO.lst (names.map V.str) ≠ .lst [.ref s, .int i, .int k] := fun z => by
  have h := HO.lst.inj z
  cases names <;> cases h
theorem refs_pen {rl : List (Addr × Rule)} (s : Addr) (i k : Int) : HO.lst (refsR rl) ≠ .lst [.ref s, .int i, .int k] := fun z => by
  have h := HO.lst.inj z
  match rl, h with
  | [], z => cases z
  | [a], z => cases z
  | a :: b :: r, z => cases z
theorem pool_strOk : ∀ x ∈ pool5, PyData.strOk x = true := by decide +kernel
theorem mono_paired {α β : Type} {xs : List α} {ys : List β} {F G : α → β → Prop} (p : Paired F xs ys) (h : ∀ a b, F a b → G a b) : Paired G xs ys := by
  induction p with
  | nil => exact .nil
  | cons q _ ih => exact .cons (h _ _ q) ih
theorem len_paired {α β : Type} {xs : List α} {ys : List β} {F : α → β → Prop} (p : Paired F xs ys) : xs.length = ys.length := by
  induction p with
  | nil => rfl
  | cons _ _ ih => rw [List.length_cons, List.length_cons, ih]
section
variable {P : Program} {w : World} {K : PySem.W.Frag} {mg : Str → Option Value} {base : Heap} {f : Addr} {fd : FuncData}
abbrev nLa : List Str := ["_law_script", "_law_pen_here", "_law_turn", "_law_nyms_here", "_law_gaps_here", "_law_low", "_law_held", "_law_far_off", "_law_old", "_law_nym"]
theorem sc_law : FnScope nLa ["_law_script"] (defScope sLaw) := ⟨rfl, rfl, rfl, by decide +kernel, rfl, by decide +kernel, by decide +kernel⟩
theorem ok_law (F : Fun K "law" "law" sLaw f fd) (g : Gm mg) (c1 : Cal P w K mg base 1 "_law_pen" (spPen K)) (c2 : Cal P w K mg base 4 "_law_boxed" spBoxed) (c3 : Cal P w K mg base 2 "_law_draw" spDraw) (c4 : Cal P w K mg base 12 "_law_right" spRight) (c5 : Cal P w K mg base 3 "_law_deal" spDeal) : FnOk P w K mg base CX0 13 f fd ["_law_script"] (spLaw K) := by
  refine F.ok sc_law (fun vs H Q E h => ?_) (fun cdv A outer s H vs Q E hr h => ?_)
  · obtain ⟨s, ns, rfl, _⟩ := h
    rfl
  · obtain ⟨s, ns, rfl, hs, fin⟩ := h
    have nd := sc_law.nd
    have hu := hu_of hr
    refine ⟨_, (pss_cons (ps_set (i := 1) nd rfl (Or.inr rfl) (pe_f (X := Cx.nox _) c1 hr (pa_cons (pv 0) pa_nil)))
      (pss_cons (ps_for PassesOwn.never rfl (pi_range1 rfl g.range (pa_cons pe_int pa_nil)) (pg_name (i := 2) nd rfl (Or.inl rfl))
        (pss_cons (ps_asg (pe_f (X := Cx.nox _) c2 hr (pa_cons (pv 1) (pa_cons pe_int (pa_cons pe_int (pa_cons pe_int pa_nil))))) (pg_tup (n := 4) rfl (pgs_cons (pg_name (i := 3) nd rfl (Or.inl rfl)) (pgs_cons (pg_name (i := 4) nd rfl (Or.inl rfl)) (pgs_cons (pg_name (i := 5) nd rfl (Or.inl rfl)) (pgs_cons (pg_name (i := 6) nd rfl (Or.inr rfl)) pgs_nil))))))
        (pss_cons (ps_set (i := 7) nd rfl (Or.inl rfl) (pe_callTy (call_dictP rfl) rfl g.dict PyProof.Rows.boot_dict (pa_cons (pe_lc (own := [("_law_nym", 9)]) (g := gName 9) (tt := tYes) (te := tTup (tCons (tVar 9) (tCons (tAdd (tDGet (tVar 6) (tVar 9)) (tOp (rIxL K) (tLst (tCons (tC (.int 0)) (tCons (tC (.int 1)) (tCons (tUn (rU fun i => V.int (-i)) (tC (.int 1))) (tCons (tC (.int 7)) (tCons (tUn (rU fun i => V.int (-i)) (tC (.int 300))) tNil)))))) (tCall spDraw [] E0 (tCons (tVar 1) (tCons (tC (.int 5)) tNil))))) tNil))) rfl nd (pi_list (pv 3)) (blkOk_by (own := [("_law_nym", 9)]) (N := nLa) (sc := defScope sLaw) (by decide +kernel))
            (fun _ _ _ _ _ => pg_name (i := 9) nd rfl (Or.inl rfl)) (fun _ _ _ _ _ => pts_nil) (fun _ _ _ _ _ => by exact pe_tup (pa_cons (pv 9) (pa_cons (pe_add (pe_dget hu (pv 6) (pv 9) (fun _ _ => rfl)) (pe_ix ix_list (pe_lst (pa_cons pe_int (pa_cons pe_int (pa_cons (pe_un un_neg pe_int) (pa_cons pe_int (pa_cons (pe_un un_neg pe_int) pa_nil)))))) (pe_f c3 hr (pa_cons (pv 1) (pa_cons pe_int pa_nil))) (fun _ _ => rfl))) pa_nil)))) pa_nil)))
        (pss_one (ps_for PassesOwn.never rfl (pi_tup (pe_tup (pa_cons (pv 6) (pa_cons (pv 7) pa_nil)))) (pg_name (i := 8) nd rfl (Or.inl rfl))
          (pss_one (ps_if (pt_not (pt_val (pe_f (X := Cx.nox _) c4 hr (pa_cons (pe_tup (pa_cons (pv 3) (pa_cons (pv 4) (pa_cons (pv 8) (pa_cons (pe_f (X := Cx.nox _) c5 hr (pa_cons (pv 1) (pa_cons (pv 3) pa_nil))) pa_nil))))) (pa_cons (pv 5) pa_nil))))) (pss_one (ps_ret pe_bl)) pss_nil)))))))
      (pss_one (ps_ret pe_bl)))), ?_⟩
    refine ⟨_, rfl, s, ns, rfl, hs, fun H1 pa sa s1 hP1 hpaH _ => ?_⟩
    let Pv : Nat → L2.St → Hp → Prop := fun i σ H' => Same H H' ∧ Pen H' pa sa (1000 - 100 * i) ∧ ∃ v2 v3 v4 v5 v6 v7 v8 v9, σ = [some (.ref s), some (.ref pa), v2, v3, v4, v5, v6, v7, v8, v9]
    refine ⟨5, rfl, by decide, by decide, for_it (walk_range (lo := 0) (n := 5)) Pv ⟨s1, hP1.less (by omega), _, _, _, _, _, _, _, _, rfl⟩ (fun _ _ _ _ _ => trivial) (fun i v σ H2 H2' hi p y => ?_) (fun σ H2 p => ?_)⟩
    · obtain ⟨rfl, rfl⟩ := y
      obtain ⟨sH2, hP2, v2, v3, v4, v5, v6, v7, v8, v9, rfl⟩ := p
      refine ⟨_, rfl, pa, sa, 960 - 100 * i, rfl, hP2.less (by omega), fun H3 p ny ga he names rl low x b3 hP3 hp hny hga hrl hhe bok => ⟨p, _, rfl, SqT.of hp, rfl, _, _, rfl, _, _, rfl, _, _, rfl, _, _, rfl, rfl, ?_⟩⟩
      have sH3 : Same H H3 := fun y u e => b3 _ _ (ne_of_none e hpaH) (sH2 _ _ e)
      have npy := hP3.neq hny strs_pen
      refine ⟨_, rfl, ny, rfl, ⟨_, SqL.of hny⟩, fun D hD => ?_⟩
      have nDp : D ≠ pa := fun e => by
        obtain ⟨_, _, _, x1, _⟩ := hP3
        rw [← e, hD] at x1; cases x1
      have nDs : sa ≠ D := fun e => by
        obtain ⟨_, _, _, _, x1, _⟩ := hP3
        rw [e, hD] at x1; cases x1
      refine walkP walk_list (fun j H' => (∀ y u, y ≠ pa → H3 y = some u → H' y = some u) ∧ Pen H' pa sa (960 - 100 * i - j) ∧ ∃ ts x', H' D = some (.lst (ts.map V.ref)) ∧ Paired (fun (t : Addr) (kv : Key × V) => H' t = some (.tup [kV kv.1, kv.2])) ts (oldK (names.take j) x') ∧ ∀ z ∈ names.take j, x z - 300 ≤ x' z ∧ x' z ≤ x z + 7)
        ⟨fun y u _ e => (Same.new hD) _ _ e, (hP3.same (Same.new hD)).less (by omega), [], fun _ => 0, upd_same, .nil, fun z hz => nomatch hz⟩ (fun j H' _ p => SqL.of (p.1 _ _ npy hny)) (fun j v H4 H4' hj p y => ?_) (fun H4 p => ?_)
      · obtain ⟨rfl, hv⟩ := y
        rw [List.getElem?_map] at hv
        obtain ⟨nm, hnm, rfl⟩ := Option.map_eq_some_iff.mp hv
        obtain ⟨k4, hP4, ts, x', hD4, hpair, hx4⟩ := p
        have hj' : j < names.length := by rw [List.length_map] at hj; exact hj
        have hj4 := bok.len
        have htk : names.take (j + 1) = names.take j ++ [nm] := by rw [List.take_add_one, hnm]; rfl
        have hndj : (names.take j ++ [nm]).Nodup := by rw [← htk]; exact List.Sublist.nodup (List.take_sublist _ _) bok.nd
        have hnp : nm ∉ names.take j := fun z => (List.nodup_append.mp hndj).2.2 _ z _ List.mem_cons_self rfl
        have hnmm := List.mem_of_getElem? hnm
        have dg : DGet H4' he (.str nm) (some (.int (x nm))) := by
          have := DGet.k (k := Sum.inr nm) (k4 _ _ (hP3.neq hhe (fun _ _ _ z => nomatch z)) hhe)
          rw [valV_old bok.nd] at this
          unfold oldF at this
          rw [if_pos hnmm] at this
          exact this
        refine ⟨rfl, tyes ?_⟩
        refine ⟨_, rfl, _, rfl, _, rfl, he, _, rfl, dg, 1, rfl, 300, rfl, by show 5 ≤ sizeLine; decide, fun l hl => ?_⟩
        have s5 : Same H4' (upd H4' l (.lst ([0, 1, -1, 7, -300].map V.int))) := Same.new hl
        have nlp : l ≠ pa := fun e => by
          obtain ⟨_, _, _, x1, _⟩ := hP4
          rw [← e, hl] at x1; cases x1
        have hl5 : upd H4' l (.lst ([0, 1, -1, 7, -300].map V.int)) l = some (.lst ([0, 1, -1, 7, -300].map V.int)) := upd_same
        have hP5 := hP4.same s5
        generalize hH5 : upd H4' l (.lst ([0, 1, -1, 7, -300].map V.int)) = H5 at s5 hl5 hP5
        refine ⟨_, rfl, pa, sa, 960 - 100 * i - (j + 1), _, rfl, ?_, by decide, by decide, fun d H6 d0 d1 b6 hP6 => ?_⟩
        · have := hP5.less (m := 960 - 100 * i - (j + 1) + 1) (by omega)
          rw [← hH5] at this
          exact this
        obtain ⟨sh, hsh, hat⟩ := at_int (ms := [0, 1, -1, 7, -300]) d0 d1
        have hshB : -300 ≤ sh ∧ sh ≤ 7 := by
          simp at hsh
          rcases hsh with h | h | h | h | h <;> omega
        have b6' : But1 pa H5 H6 := by rw [← hH5]; exact b6
        have k6 : ∀ y u, y ≠ pa → H4' y = some u → H6 y = some u := fun y u h e => b6' _ _ h (s5 _ _ e)
        refine ⟨l, _, _, _, rfl, rfl, SqL.of (b6' _ _ nlp hl5), hat, _, _, rfl, rfl, by show 2 ≤ sizeLine; decide, fun t ht => ?_⟩
        have s7 : Same H6 (upd H6 t (.tup [.str nm, .int (x nm + sh)])) := Same.new ht
        have ht7 : upd H6 t (.tup [.str nm, .int (x nm + sh)]) t = some (.tup [.str nm, .int (x nm + sh)]) := upd_same
        have hP7 := hP6.same s7
        generalize upd H6 t (.tup [.str nm, .int (x nm + sh)]) = H7 at s7 ht7 hP7 ⊢
        have k7 : ∀ y u, y ≠ pa → H4' y = some u → H7 y = some u := fun y u h e => s7 _ _ (k6 _ _ h e)
        have hD7 := k7 _ _ nDp hD4
        have hpl2 : ts.length = (names.take j).length := by rw [len_paired hpair, oldK, List.length_map]
        refine ⟨_, hD7, by rw [List.length_map, hpl2, List.length_take, sizeLine_eq]; omega, fun y u h e => ?_, ?_, ts ++ [t], setF x' nm (x nm + sh), by rw [upd_same, List.map_append]; rfl, ?_, fun z hz => ?_⟩
        · rw [upd_ne (fun z => by rw [z, hD] at e; cases e)]
          exact k7 _ _ h (k4 _ _ h e)
        · obtain ⟨ms, i1, c1, x1, x2, x3⟩ := hP7
          exact ⟨ms, i1, c1, (upd_ne (Ne.symm nDp)).trans x1, (upd_ne nDs).trans x2, x3⟩
        · rw [htk, ← oldK_snoc hnp]
          refine (mono_paired hpair fun a b h => ?_).snoc ((upd_ne (ne_of ht7 hD7 (fun z => nomatch z))).trans ht7)
          have hap : a ≠ pa := hP4.neq h (fun _ _ _ z => nomatch z)
          have h7 := k7 _ _ hap h
          exact (upd_ne (ne_of h7 hD7 (fun z => nomatch z))).trans h7
        · rw [htk] at hz
          show x z - 300 ≤ (if z = nm then x nm + sh else x' z) ∧ (if z = nm then x nm + sh else x' z) ≤ x z + 7
          by_cases q : z = nm
          · rw [if_pos q, q]; omega
          · rw [if_neg q]
            rcases List.mem_append.mp hz with r | r
            · exact hx4 z r
            · exact absurd (List.mem_singleton.mp r) q
      · obtain ⟨k4, hP4, ts, x', hD4, hpair, hx4⟩ := p
        rw [List.length_map, List.take_length] at hpair hx4
        rw [List.length_map] at hP4
        have hlen4 := bok.len
        refine ⟨D, ts, oldK names x', rfl, SqL.of hD4, mono_paired hpair fun a b h => SqT.of h, fun fo hfo => ?_⟩
        have hkv : mergeK [] (oldK names x') = oldK names x' := by
          rw [merge_nodup (acc := [])]
          · rfl
          · rw [List.nil_append, oldK_keys]; exact keys_nodup bok.nd
        rw [hkv]
        have s5 : Same H4 (upd H4 fo (.dK (oldK names x'))) := Same.new hfo
        have hfo5 : upd H4 fo (.dK (oldK names x')) fo = some (.dK (oldK names x')) := upd_same
        have hP5 := hP4.same s5
        generalize upd H4 fo (.dK (oldK names x')) = H5 at s5 hfo5 hP5 ⊢
        have k5 : ∀ y u, y ≠ pa → H3 y = some u → H5 y = some u := fun y u h e => s5 _ _ (k4 _ _ h e)
        refine ⟨_, rfl, _, rfl, by show 2 ≤ sizeLine; decide, fun tt htt => ?_⟩
        have s6 : Same H5 (upd H5 tt (.tup [.ref he, .ref fo])) := Same.new htt
        have htt6 : upd H5 tt (.tup [.ref he, .ref fo]) tt = some (.tup [.ref he, .ref fo]) := upd_same
        have hP6 := hP5.same s6
        generalize upd H5 tt (.tup [.ref he, .ref fo]) = H6 at s6 htt6 hP6 ⊢
        have k6 : ∀ y u, y ≠ pa → H3 y = some u → H6 y = some u := fun y u h e => s6 _ _ (k5 _ _ h e)
        have hfo6 := s6 _ _ hfo5
        have hhe6 := k6 _ _ (hP3.neq hhe (fun _ _ _ z => nomatch z)) hhe
        have hny6 := k6 _ _ npy hny
        have hga6 := k6 _ _ (hP3.neq hga refs_pen) hga
        have hrl6 : ∀ r ∈ rl, H6 r.1 = some (.tup (ruleVs r.2)) := fun r hr => k6 _ _ (hP3.neq (hrl r hr) (fun _ _ _ z => nomatch z)) (hrl r hr)
        have ntt := hP6.neq htt6 (fun _ _ _ z => nomatch z)
        let Iv : Nat → L2.St → Hp → Prop := fun j σ H' => (∀ y u, y ≠ pa → H6 y = some u → H' y = some u) ∧ Pen H' pa sa (950 - 100 * i - 20 * j) ∧ ∃ v2 v8 v9, σ = [some (.ref s), some (.ref pa), v2, some (.ref ny), some (.ref ga), some (.int low), some (.ref he), some (.ref fo), v8, v9]
        refine ⟨tt, rfl, ⟨_, SqT.of htt6⟩, for_it (n := 2) (walk_tup (K := K) (a := tt) (xs := [.ref he, .ref fo])) Iv ⟨fun _ _ _ e => e, hP6.less (by omega), _, _, _, rfl⟩ (fun _ _ _ _ p' => SqT.of (p'.1 _ _ ntt htt6)) (fun j v σ H7 H7' hj pp y => ?_) (fun σ H7 pp => ?_)⟩
        · obtain ⟨rfl, hv⟩ := y
          obtain ⟨k7, hP7, v2, v8, v9, rfl⟩ := pp
          obtain ⟨od, old, rfl, hod, hold⟩ : ∃ od old, v = .ref od ∧ H7' od = some (.dK (oldK names old)) ∧ ∀ n ∈ names, -9999 ≤ old n ∧ old n ≤ 9999 := by
            have hl := bok.low
            match j, hj, hv with
            | 0, _, hv => cases hv; exact ⟨he, x, rfl, k7 _ _ (hP6.neq hhe6 (fun _ _ _ z => nomatch z)) hhe6, fun n hn => by have := bok.x n hn; omega⟩
            | 1, _, hv => cases hv; exact ⟨fo, x', rfl, k7 _ _ (hP6.neq hfo6 (fun _ _ _ z => nomatch z)) hfo6, fun n hn => by have := bok.x n hn; have := hx4 n hn; omega⟩
          have hny7 := k7 _ _ npy hny6
          have hga7 := k7 _ _ (hP6.neq hga6 refs_pen) hga6
          refine ⟨_, rfl, _, rfl, _, rfl, _, rfl, _, rfl, pa, sa, ny, names, 930 - 100 * i - 20 * j, rfl, hP7.less (by omega), hny7, by omega, fun H8 q ow a b kvs b8 hP8 hq how pa8 pb8 own8 => ?_⟩
          refine ⟨by show 4 ≤ sizeLine; decide, fun m hm => ?_⟩
          have k8 : ∀ y u, y ≠ pa → H6 y = some u → H8 y = some u := fun y u h e => b8 _ _ h (k7 _ _ h e)
          have s9 : Same H8 (upd H8 m (.tup [.ref ny, .ref ga, .ref od, .ref q])) := Same.new hm
          have hm9 : upd H8 m (.tup [.ref ny, .ref ga, .ref od, .ref q]) m = some (.tup [.ref ny, .ref ga, .ref od, .ref q]) := upd_same
          have hP9 := hP8.same s9
          generalize upd H8 m (.tup [.ref ny, .ref ga, .ref od, .ref q]) = H9 at s9 hm9 hP9 ⊢
          have k9 : ∀ y u, y ≠ pa → H6 y = some u → H9 y = some u := fun y u h e => s9 _ _ (k8 _ _ h e)
          let md : Md := ⟨names, rl, old, a, b, kvs⟩
          have mdAt : MdAt H9 m ny ga od q md := ⟨hm9, k9 _ _ npy hny6, k9 _ _ (hP6.neq hga6 refs_pen) hga6, fun r hr => k9 _ _ (hP6.neq (hrl6 r hr) (fun _ _ _ z => nomatch z)) (hrl6 r hr), s9 _ _ (b8 _ _ (hP7.neq hod (fun _ _ _ z => nomatch z)) hod), ow, s9 _ _ hq, s9 _ _ how⟩
          have mdOk : md.Ok := ⟨bok.nd, bok.len, fun z hz => pool_ok z (bok.sub z hz), fun z hz => pool_strOk z (bok.sub z hz), Nat.le_trans bok.rlen (by decide), fun r hr => ⟨(bok.rule r hr).1, (bok.rule r hr).2.1, (bok.rule r hr).2.2.1⟩, hold, pa8, pb8, own8⟩
          have mdBox : md.Box low := ⟨bok.lo, bok.hi, bok.low, x, fun r hr => (bok.rule r hr).2.2.2⟩
          refine ⟨_, rfl, m, ny, ga, od, q, md, low, rfl, mdAt, mdOk, mdBox, fun H10 s10 => ?_⟩
          refine ⟨true, rfl, iteF ⟨fun y u h e => s10 _ _ (k9 _ _ h e), (hP9.same s10).less (by omega), _, _, _, rfl⟩⟩
        · obtain ⟨k7, hP7, v2, v8, v9, rfl⟩ := pp
          exact ⟨fun y u e => k7 _ _ (ne_of_none e hpaH) (k6 _ _ (ne_of_none e hpaH) (sH3 _ _ e)), hP7.less (by show 1000 - 100 * (i + 1) ≤ 950 - 100 * i - 20 * 2; omega), _, _, _, _, _, _, _, _, rfl⟩
    · obtain ⟨sH2, _, v2, v3, v4, v5, v6, v7, v8, v9, rfl⟩ := p
      exact fin _ sH2
end
end Ws
end
section
/-! The program's top: the defs stand there as the text says. -/
namespace Ws
open PySem PySem.Spec PyProof.Rows L2
theorem vals_app {vs zs : List V} {us ws : List Value} (h : Vals vs us) (k : Vals zs ws) : Vals (vs ++ zs) (us ++ ws) := by
  induction h with
  | nil => exact k
  | cons q _ ih => exact .cons q ih
theorem kb_pr {K : PySem.W.Frag} {f : Addr} {fd : FuncData} (F : Fun K "__init__" "Prices.__init__" sPrInit f fd) : KBn K fd ["self", "raising", "lowering"] 1 ["raising", "lowering"] (fun us ws => us ++ ws) (fun vs zs => vs ++ zs) := by
  obtain ⟨oc, od, kV, doc, pm, an, cdv, ct, osl, rfl, _, _⟩ := F.ex
  refine ⟨fun s us ws _ l1 l2 => ?_, fun r1 r2 => vals_app r1 r2⟩
  match us, ws, l1, l2 with
  | [u], [w1, w2], _, _ => exact BindsTo.of_eq rfl
theorem all_mk {l : PySem.W.OpenLaw} {w : World} {K : PySem.W.Frag} {h : Heap} {mg : Str → Option Value} {fa CS CR CL CF CP CT f_isInt f_isName f_ruleKey f_isThing f_isRule p_isRule f_sysInit f_areN f_checkN f_numAt f_short f_contra f_cons f_rinit f_rules f_str f_bind f_li f_lsides f_finit f_lineOf f_fsides f_best f_relax f_wayTo f_fill f_amounts f_total f_figs f_cf f_lp f_ch f_areA f_totOf f_tot f_cert f_isPrice f_prI f_with f_fixed f_pair f_tinit f_tsys p_tsys f_tpr p_tpr f_firm f_pen f_next f_draw f_some f_at f_gaps f_lshort f_deal f_prices f_there f_task f_price f_boxed f_all f_right f_law : Addr} (X : K.In h) (G : h.Ns mainGlobals mg) (hfa : mg "law" = some (.ref fa))
    {od_isInt an_isInt od_isName an_isName od_ruleKey an_ruleKey od_isThing an_isThing od_isRule an_isRule od_sysInit an_sysInit od_areN an_areN od_checkN an_checkN od_numAt an_numAt od_short an_short od_contra an_contra od_cons an_cons od_rinit an_rinit od_rules an_rules od_str an_str od_bind an_bind od_li an_li od_lsides an_lsides od_finit an_finit od_lineOf an_lineOf od_fsides an_fsides od_best an_best od_relax an_relax od_wayTo an_wayTo od_fill an_fill od_amounts an_amounts od_total an_total od_figs an_figs od_cf an_cf od_lp an_lp od_ch an_ch od_areA an_areA od_totOf an_totOf od_tot an_tot od_cert an_cert od_isPrice an_isPrice od_prI an_prI od_with an_with od_fixed an_fixed od_pair an_pair od_tinit an_tinit od_tsys an_tsys od_tpr an_tpr od_firm an_firm od_pen an_pen od_next an_next od_draw an_draw od_some an_some od_at an_at od_gaps an_gaps od_lshort an_lshort od_deal an_deal od_prices an_prices od_there an_there od_task an_task od_price an_price od_boxed an_boxed od_all an_all od_right an_right od_law an_law : Option Addr} {sl_isInt sl_isName sl_ruleKey sl_isThing sl_isRule sl_sysInit sl_areN sl_checkN sl_numAt sl_short sl_contra sl_cons sl_rinit sl_rules sl_str sl_bind sl_li sl_lsides sl_finit sl_lineOf sl_fsides sl_best sl_relax sl_wayTo sl_fill sl_amounts sl_total sl_figs sl_cf sl_lp sl_ch sl_areA sl_totOf sl_tot sl_cert sl_isPrice sl_prI sl_with sl_fixed sl_pair sl_tinit sl_tsys sl_tpr sl_firm sl_pen sl_next sl_draw sl_some sl_at sl_gaps sl_lshort sl_deal sl_prices sl_there sl_task sl_price sl_boxed sl_all sl_right sl_law : Array (Option Value)} {oc_isInt kV_isInt dc_isInt pm_isInt cd_isInt ct_isInt oc_isName kV_isName dc_isName pm_isName cd_isName ct_isName oc_ruleKey kV_ruleKey dc_ruleKey pm_ruleKey cd_ruleKey ct_ruleKey oc_isThing kV_isThing dc_isThing pm_isThing cd_isThing ct_isThing oc_isRule kV_isRule dc_isRule pm_isRule cd_isRule ct_isRule oc_sysInit kV_sysInit dc_sysInit pm_sysInit cd_sysInit ct_sysInit oc_areN kV_areN dc_areN pm_areN cd_areN ct_areN oc_checkN kV_checkN dc_checkN pm_checkN cd_checkN ct_checkN oc_numAt kV_numAt dc_numAt pm_numAt cd_numAt ct_numAt oc_short kV_short dc_short pm_short cd_short ct_short oc_contra kV_contra dc_contra pm_contra cd_contra ct_contra oc_cons kV_cons dc_cons pm_cons cd_cons ct_cons oc_rinit kV_rinit dc_rinit pm_rinit cd_rinit ct_rinit oc_rules kV_rules dc_rules pm_rules cd_rules ct_rules oc_str kV_str dc_str pm_str cd_str ct_str oc_bind kV_bind dc_bind pm_bind cd_bind ct_bind oc_li kV_li dc_li pm_li cd_li ct_li oc_lsides kV_lsides dc_lsides pm_lsides cd_lsides ct_lsides oc_finit kV_finit dc_finit pm_finit cd_finit ct_finit oc_lineOf kV_lineOf dc_lineOf pm_lineOf cd_lineOf ct_lineOf oc_fsides kV_fsides dc_fsides pm_fsides cd_fsides ct_fsides oc_best kV_best dc_best pm_best cd_best ct_best oc_relax kV_relax dc_relax pm_relax cd_relax ct_relax oc_wayTo kV_wayTo dc_wayTo pm_wayTo cd_wayTo ct_wayTo oc_fill kV_fill dc_fill pm_fill cd_fill ct_fill oc_amounts kV_amounts dc_amounts pm_amounts cd_amounts ct_amounts oc_total kV_total dc_total pm_total cd_total ct_total oc_figs kV_figs dc_figs pm_figs cd_figs ct_figs oc_cf kV_cf dc_cf pm_cf cd_cf ct_cf oc_lp kV_lp dc_lp pm_lp cd_lp ct_lp oc_ch kV_ch dc_ch pm_ch cd_ch ct_ch oc_areA kV_areA dc_areA pm_areA cd_areA ct_areA oc_totOf kV_totOf dc_totOf pm_totOf cd_totOf ct_totOf oc_tot kV_tot dc_tot pm_tot cd_tot ct_tot oc_cert kV_cert dc_cert pm_cert cd_cert ct_cert oc_isPrice kV_isPrice dc_isPrice pm_isPrice cd_isPrice ct_isPrice oc_prI kV_prI dc_prI pm_prI cd_prI ct_prI oc_with kV_with dc_with pm_with cd_with ct_with oc_fixed kV_fixed dc_fixed pm_fixed cd_fixed ct_fixed oc_pair kV_pair dc_pair pm_pair cd_pair ct_pair oc_tinit kV_tinit dc_tinit pm_tinit cd_tinit ct_tinit oc_tsys kV_tsys dc_tsys pm_tsys cd_tsys ct_tsys oc_tpr kV_tpr dc_tpr pm_tpr cd_tpr ct_tpr oc_firm kV_firm dc_firm pm_firm cd_firm ct_firm oc_pen kV_pen dc_pen pm_pen cd_pen ct_pen oc_next kV_next dc_next pm_next cd_next ct_next oc_draw kV_draw dc_draw pm_draw cd_draw ct_draw oc_some kV_some dc_some pm_some cd_some ct_some oc_at kV_at dc_at pm_at cd_at ct_at oc_gaps kV_gaps dc_gaps pm_gaps cd_gaps ct_gaps oc_lshort kV_lshort dc_lshort pm_lshort cd_lshort ct_lshort oc_deal kV_deal dc_deal pm_deal cd_deal ct_deal oc_prices kV_prices dc_prices pm_prices cd_prices ct_prices oc_there kV_there dc_there pm_there cd_there ct_there oc_task kV_task dc_task pm_task cd_task ct_task oc_price kV_price dc_price pm_price cd_price ct_price oc_boxed kV_boxed dc_boxed pm_boxed cd_boxed ct_boxed oc_all kV_all dc_all pm_all cd_all ct_all oc_right kV_right dc_right pm_right cd_right ct_right oc_law kV_law dc_law pm_law cd_law ct_law : Value} {r_isRule r_tsys r_tpr : List Value} {t_LETTERS : Tok} {t_MAX_NAME : Tok} {t_MAX_GAP : Tok} {t_MAX_NUMBER : Tok} {t_LARGEST : Tok} {t_MAX_PRICE : Tok}
    (aC_S : PySem.W.nsIn K mainGlobals "System" = some (some (.ref CS)))
    (pg_S : PySem.W.plainGet K CS Str.empty = true)
    (hd_S : PySem.W.hasDictIn K CS = true)
    (po_S : PySem.W.plainOver K CS = true)
    (sa_S : PySem.W.findIn K (.ref CS) "__setattr__" = some (some (.builtin "object.__setattr__")))
    (mk_S : PySem.W.makesIn K CS = true)
    (kc_S : PySem.W.keepIn K (.ref CS) = true)
    (n_S_settings : PySem.W.findIn K (.ref CS) "settings" = some none)
    (n_S_gaps : PySem.W.findIn K (.ref CS) "gaps" = some none)
    (aC_R : PySem.W.nsIn K mainGlobals "Reach" = some (some (.ref CR)))
    (pg_R : PySem.W.plainGet K CR Str.empty = true)
    (hd_R : PySem.W.hasDictIn K CR = true)
    (po_R : PySem.W.plainOver K CR = true)
    (sa_R : PySem.W.findIn K (.ref CR) "__setattr__" = some (some (.builtin "object.__setattr__")))
    (mk_R : PySem.W.makesIn K CR = true)
    (kc_R : PySem.W.keepIn K (.ref CR) = true)
    (n_R_start : PySem.W.findIn K (.ref CR) "start" = some none)
    (n_R_best : PySem.W.findIn K (.ref CR) "best" = some none)
    (n_R_last : PySem.W.findIn K (.ref CR) "last" = some none)
    (aC_L : PySem.W.nsIn K mainGlobals "Line" = some (some (.ref CL)))
    (pg_L : PySem.W.plainGet K CL Str.empty = true)
    (hd_L : PySem.W.hasDictIn K CL = true)
    (po_L : PySem.W.plainOver K CL = true)
    (sa_L : PySem.W.findIn K (.ref CL) "__setattr__" = some (some (.builtin "object.__setattr__")))
    (mk_L : PySem.W.makesIn K CL = true)
    (kc_L : PySem.W.keepIn K (.ref CL) = true)
    (n_L_ends : PySem.W.findIn K (.ref CL) "ends" = some none)
    (n_L_most : PySem.W.findIn K (.ref CL) "most" = some none)
    (n_L_profit : PySem.W.findIn K (.ref CL) "profit" = some none)
    (n_L_amount : PySem.W.findIn K (.ref CL) "amount" = some none)
    (aC_F : PySem.W.nsIn K mainGlobals "Flow" = some (some (.ref CF)))
    (pg_F : PySem.W.plainGet K CF Str.empty = true)
    (hd_F : PySem.W.hasDictIn K CF = true)
    (po_F : PySem.W.plainOver K CF = true)
    (sa_F : PySem.W.findIn K (.ref CF) "__setattr__" = some (some (.builtin "object.__setattr__")))
    (mk_F : PySem.W.makesIn K CF = true)
    (kc_F : PySem.W.keepIn K (.ref CF) = true)
    (n_F_task : PySem.W.findIn K (.ref CF) "task" = some none)
    (n_F_lines : PySem.W.findIn K (.ref CF) "lines" = some none)
    (n_F_spare : PySem.W.findIn K (.ref CF) "spare" = some none)
    (aC_P : PySem.W.nsIn K mainGlobals "Prices" = some (some (.ref CP)))
    (pg_P : PySem.W.plainGet K CP Str.empty = true)
    (hd_P : PySem.W.hasDictIn K CP = true)
    (po_P : PySem.W.plainOver K CP = true)
    (sa_P : PySem.W.findIn K (.ref CP) "__setattr__" = some (some (.builtin "object.__setattr__")))
    (mk_P : PySem.W.makesIn K CP = true)
    (kc_P : PySem.W.keepIn K (.ref CP) = true)
    (n_P_general : PySem.W.findIn K (.ref CP) "general" = some none)
    (n_P_own : PySem.W.findIn K (.ref CP) "own" = some none)
    (aC_T : PySem.W.nsIn K mainGlobals "Task" = some (some (.ref CT)))
    (pg_T : PySem.W.plainGet K CT Str.empty = true)
    (hd_T : PySem.W.hasDictIn K CT = true)
    (po_T : PySem.W.plainOver K CT = true)
    (sa_T : PySem.W.findIn K (.ref CT) "__setattr__" = some (some (.builtin "object.__setattr__")))
    (mk_T : PySem.W.makesIn K CT = true)
    (kc_T : PySem.W.keepIn K (.ref CT) = true)
    (n_T_parts : PySem.W.findIn K (.ref CT) "parts" = some none)
    (n_T_old : PySem.W.findIn K (.ref CT) "old" = some none)
    (a_isInt : PySem.W.nsIn K mainGlobals "is_integer" = some (some (.ref f_isInt)))
    (l_isInt : K.lookup f_isInt = some ⟨oc_isInt, od_isInt, .func (PySem.W.fnOf "is_integer" "is_integer" (defArgs sIsInt) (defBody sIsInt) (defScope sIsInt) .none kV_isInt dc_isInt pm_isInt an_isInt cd_isInt ct_isInt), sl_isInt⟩)
    (c_isInt : PySem.W.codeIn K cd_isInt "is_integer" = true)
    (k_isInt : PySem.W.keepIn K (.ref f_isInt) = true)
    (a_isName : PySem.W.nsIn K mainGlobals "is_name" = some (some (.ref f_isName)))
    (l_isName : K.lookup f_isName = some ⟨oc_isName, od_isName, .func (PySem.W.fnOf "is_name" "is_name" (defArgs sIsName) (defBody sIsName) (defScope sIsName) .none kV_isName dc_isName pm_isName an_isName cd_isName ct_isName), sl_isName⟩)
    (c_isName : PySem.W.codeIn K cd_isName "is_name" = true)
    (k_isName : PySem.W.keepIn K (.ref f_isName) = true)
    (a_ruleKey : PySem.W.nsIn K mainGlobals "rule_key" = some (some (.ref f_ruleKey)))
    (l_ruleKey : K.lookup f_ruleKey = some ⟨oc_ruleKey, od_ruleKey, .func (PySem.W.fnOf "rule_key" "rule_key" (defArgs (top 15)) (defBody (top 15)) (defScope (top 15)) .none kV_ruleKey dc_ruleKey pm_ruleKey an_ruleKey cd_ruleKey ct_ruleKey), sl_ruleKey⟩)
    (c_ruleKey : PySem.W.codeIn K cd_ruleKey "rule_key" = true)
    (k_ruleKey : PySem.W.keepIn K (.ref f_ruleKey) = true)
    (a_isThing : PySem.W.nsIn K mainGlobals "is_thing" = some (some (.ref f_isThing)))
    (l_isThing : K.lookup f_isThing = some ⟨oc_isThing, od_isThing, .func (PySem.W.fnOf "is_thing" "is_thing" (defArgs sIsThing) (defBody sIsThing) (defScope sIsThing) .none kV_isThing dc_isThing pm_isThing an_isThing cd_isThing ct_isThing), sl_isThing⟩)
    (c_isThing : PySem.W.codeIn K cd_isThing "is_thing" = true)
    (k_isThing : PySem.W.keepIn K (.ref f_isThing) = true)
    (rd_isRule : PySem.W.readsIn K CS (.type "type") = true)
    (ga_isRule : PySem.W.specialIn K (.ref CS) "__getattribute__" = some (some (.builtin "type.__getattribute__")))
    (fc_isRule : PySem.W.findCls K (.ref CS) (.type "type") "is_rule" = some (.get (.builtin "staticmethod.__get__") (.ref p_isRule) .none (.ref CS)))
    (rc_isRule : PySem.W.recIn K p_isRule "staticmethod" = some (.ref f_isRule :: r_isRule))
    (l_isRule : K.lookup f_isRule = some ⟨oc_isRule, od_isRule, .func (PySem.W.fnOf "is_rule" "System.is_rule" (defArgs sIsRule) (defBody sIsRule) (defScope sIsRule) .none kV_isRule dc_isRule pm_isRule an_isRule cd_isRule ct_isRule), sl_isRule⟩)
    (c_isRule : PySem.W.codeIn K cd_isRule "System.is_rule" = true)
    (k_isRule : PySem.W.keepIn K (.ref f_isRule) = true)
    (a_sysInit : PySem.W.findIn K (.ref CS) "__init__" = some (some (.ref f_sysInit)))
    (i_sysInit : PySem.W.isFn K (.ref f_sysInit) = true)
    (l_sysInit : K.lookup f_sysInit = some ⟨oc_sysInit, od_sysInit, .func (PySem.W.fnOf "__init__" "System.__init__" (defArgs sSysInit) (defBody sSysInit) (defScope sSysInit) .none kV_sysInit dc_sysInit pm_sysInit an_sysInit cd_sysInit ct_sysInit), sl_sysInit⟩)
    (c_sysInit : PySem.W.codeIn K cd_sysInit "System.__init__" = true)
    (k_sysInit : PySem.W.keepIn K (.ref f_sysInit) = true)
    (a_areN : PySem.W.nsIn K mainGlobals "are_numbers" = some (some (.ref f_areN)))
    (l_areN : K.lookup f_areN = some ⟨oc_areN, od_areN, .func (PySem.W.fnOf "are_numbers" "are_numbers" (defArgs sAreN) (defBody sAreN) (defScope sAreN) .none kV_areN dc_areN pm_areN an_areN cd_areN ct_areN), sl_areN⟩)
    (c_areN : PySem.W.codeIn K cd_areN "are_numbers" = true)
    (k_areN : PySem.W.keepIn K (.ref f_areN) = true)
    (a_checkN : PySem.W.nsIn K mainGlobals "check_numbers" = some (some (.ref f_checkN)))
    (l_checkN : K.lookup f_checkN = some ⟨oc_checkN, od_checkN, .func (PySem.W.fnOf "check_numbers" "check_numbers" (defArgs sCheckN) (defBody sCheckN) (defScope sCheckN) .none kV_checkN dc_checkN pm_checkN an_checkN cd_checkN ct_checkN), sl_checkN⟩)
    (c_checkN : PySem.W.codeIn K cd_checkN "check_numbers" = true)
    (k_checkN : PySem.W.keepIn K (.ref f_checkN) = true)
    (a_numAt : PySem.W.nsIn K mainGlobals "number_at" = some (some (.ref f_numAt)))
    (l_numAt : K.lookup f_numAt = some ⟨oc_numAt, od_numAt, .func (PySem.W.fnOf "number_at" "number_at" (defArgs sNumAt) (defBody sNumAt) (defScope sNumAt) .none kV_numAt dc_numAt pm_numAt an_numAt cd_numAt ct_numAt), sl_numAt⟩)
    (c_numAt : PySem.W.codeIn K cd_numAt "number_at" = true)
    (k_numAt : PySem.W.keepIn K (.ref f_numAt) = true)
    (a_short : PySem.W.nsIn K mainGlobals "short_by" = some (some (.ref f_short)))
    (l_short : K.lookup f_short = some ⟨oc_short, od_short, .func (PySem.W.fnOf "short_by" "short_by" (defArgs sShort) (defBody sShort) (defScope sShort) .none kV_short dc_short pm_short an_short cd_short ct_short), sl_short⟩)
    (c_short : PySem.W.codeIn K cd_short "short_by" = true)
    (k_short : PySem.W.keepIn K (.ref f_short) = true)
    (a_contra : PySem.W.nsIn K mainGlobals "contradiction" = some (some (.ref f_contra)))
    (l_contra : K.lookup f_contra = some ⟨oc_contra, od_contra, .func (PySem.W.fnOf "contradiction" "contradiction" (defArgs sContra) (defBody sContra) (defScope sContra) .none kV_contra dc_contra pm_contra an_contra cd_contra ct_contra), sl_contra⟩)
    (c_contra : PySem.W.codeIn K cd_contra "contradiction" = true)
    (k_contra : PySem.W.keepIn K (.ref f_contra) = true)
    (a_cons : PySem.W.nsIn K mainGlobals "check_consistent" = some (some (.ref f_cons)))
    (l_cons : K.lookup f_cons = some ⟨oc_cons, od_cons, .func (PySem.W.fnOf "check_consistent" "check_consistent" (defArgs sCons) (defBody sCons) (defScope sCons) .none kV_cons dc_cons pm_cons an_cons cd_cons ct_cons), sl_cons⟩)
    (c_cons : PySem.W.codeIn K cd_cons "check_consistent" = true)
    (k_cons : PySem.W.keepIn K (.ref f_cons) = true)
    (a_rinit : PySem.W.findIn K (.ref CR) "__init__" = some (some (.ref f_rinit)))
    (i_rinit : PySem.W.isFn K (.ref f_rinit) = true)
    (l_rinit : K.lookup f_rinit = some ⟨oc_rinit, od_rinit, .func (PySem.W.fnOf "__init__" "Reach.__init__" (defArgs sRInit) (defBody sRInit) (defScope sRInit) .none kV_rinit dc_rinit pm_rinit an_rinit cd_rinit ct_rinit), sl_rinit⟩)
    (c_rinit : PySem.W.codeIn K cd_rinit "Reach.__init__" = true)
    (k_rinit : PySem.W.keepIn K (.ref f_rinit) = true)
    (a_rules : PySem.W.findIn K (.ref CR) "rules_to" = some (some (.ref f_rules)))
    (i_rules : PySem.W.isFn K (.ref f_rules) = true)
    (l_rules : K.lookup f_rules = some ⟨oc_rules, od_rules, .func (PySem.W.fnOf "rules_to" "Reach.rules_to" (defArgs sRules) (defBody sRules) (defScope sRules) .none kV_rules dc_rules pm_rules an_rules cd_rules ct_rules), sl_rules⟩)
    (c_rules : PySem.W.codeIn K cd_rules "Reach.rules_to" = true)
    (k_rules : PySem.W.keepIn K (.ref f_rules) = true)
    (a_str : PySem.W.nsIn K mainGlobals "is_strained" = some (some (.ref f_str)))
    (l_str : K.lookup f_str = some ⟨oc_str, od_str, .func (PySem.W.fnOf "is_strained" "is_strained" (defArgs sStr) (defBody sStr) (defScope sStr) .none kV_str dc_str pm_str an_str cd_str ct_str), sl_str⟩)
    (c_str : PySem.W.codeIn K cd_str "is_strained" = true)
    (k_str : PySem.W.keepIn K (.ref f_str) = true)
    (a_bind : PySem.W.nsIn K mainGlobals "bind" = some (some (.ref f_bind)))
    (l_bind : K.lookup f_bind = some ⟨oc_bind, od_bind, .func (PySem.W.fnOf "bind" "bind" (defArgs sBind) (defBody sBind) (defScope sBind) .none kV_bind dc_bind pm_bind an_bind cd_bind ct_bind), sl_bind⟩)
    (c_bind : PySem.W.codeIn K cd_bind "bind" = true)
    (k_bind : PySem.W.keepIn K (.ref f_bind) = true)
    (a_li : PySem.W.findIn K (.ref CL) "__init__" = some (some (.ref f_li)))
    (i_li : PySem.W.isFn K (.ref f_li) = true)
    (l_li : K.lookup f_li = some ⟨oc_li, od_li, .func (PySem.W.fnOf "__init__" "Line.__init__" (defArgs sLI) (defBody sLI) (defScope sLI) .none kV_li dc_li pm_li an_li cd_li ct_li), sl_li⟩)
    (c_li : PySem.W.codeIn K cd_li "Line.__init__" = true)
    (k_li : PySem.W.keepIn K (.ref f_li) = true)
    (a_lsides : PySem.W.findIn K (.ref CL) "sides" = some (some (.ref f_lsides)))
    (i_lsides : PySem.W.isFn K (.ref f_lsides) = true)
    (l_lsides : K.lookup f_lsides = some ⟨oc_lsides, od_lsides, .func (PySem.W.fnOf "sides" "Line.sides" (defArgs (mth 33 1)) (defBody (mth 33 1)) (defScope (mth 33 1)) .none kV_lsides dc_lsides pm_lsides an_lsides cd_lsides ct_lsides), sl_lsides⟩)
    (c_lsides : PySem.W.codeIn K cd_lsides "Line.sides" = true)
    (k_lsides : PySem.W.keepIn K (.ref f_lsides) = true)
    (a_finit : PySem.W.findIn K (.ref CF) "__init__" = some (some (.ref f_finit)))
    (i_finit : PySem.W.isFn K (.ref f_finit) = true)
    (l_finit : K.lookup f_finit = some ⟨oc_finit, od_finit, .func (PySem.W.fnOf "__init__" "Flow.__init__" (defArgs sFInit) (defBody sFInit) (defScope sFInit) .none kV_finit dc_finit pm_finit an_finit cd_finit ct_finit), sl_finit⟩)
    (c_finit : PySem.W.codeIn K cd_finit "Flow.__init__" = true)
    (k_finit : PySem.W.keepIn K (.ref f_finit) = true)
    (a_lineOf : PySem.W.findIn K (.ref CF) "line_of" = some (some (.ref f_lineOf)))
    (i_lineOf : PySem.W.isFn K (.ref f_lineOf) = true)
    (l_lineOf : K.lookup f_lineOf = some ⟨oc_lineOf, od_lineOf, .func (PySem.W.fnOf "line_of" "Flow.line_of" (defArgs sLineOf) (defBody sLineOf) (defScope sLineOf) .none kV_lineOf dc_lineOf pm_lineOf an_lineOf cd_lineOf ct_lineOf), sl_lineOf⟩)
    (c_lineOf : PySem.W.codeIn K cd_lineOf "Flow.line_of" = true)
    (k_lineOf : PySem.W.keepIn K (.ref f_lineOf) = true)
    (a_fsides : PySem.W.findIn K (.ref CF) "sides" = some (some (.ref f_fsides)))
    (i_fsides : PySem.W.isFn K (.ref f_fsides) = true)
    (l_fsides : K.lookup f_fsides = some ⟨oc_fsides, od_fsides, .func (PySem.W.fnOf "sides" "Flow.sides" (defArgs (mth 34 2)) (defBody (mth 34 2)) (defScope (mth 34 2)) .none kV_fsides dc_fsides pm_fsides an_fsides cd_fsides ct_fsides), sl_fsides⟩)
    (c_fsides : PySem.W.codeIn K cd_fsides "Flow.sides" = true)
    (k_fsides : PySem.W.keepIn K (.ref f_fsides) = true)
    (a_best : PySem.W.findIn K (.ref CF) "best_way" = some (some (.ref f_best)))
    (i_best : PySem.W.isFn K (.ref f_best) = true)
    (l_best : K.lookup f_best = some ⟨oc_best, od_best, .func (PySem.W.fnOf "best_way" "Flow.best_way" (defArgs sBestWay) (defBody sBestWay) (defScope sBestWay) .none kV_best dc_best pm_best an_best cd_best ct_best), sl_best⟩)
    (c_best : PySem.W.codeIn K cd_best "Flow.best_way" = true)
    (k_best : PySem.W.keepIn K (.ref f_best) = true)
    (a_relax : PySem.W.findIn K (.ref CF) "relax" = some (some (.ref f_relax)))
    (i_relax : PySem.W.isFn K (.ref f_relax) = true)
    (l_relax : K.lookup f_relax = some ⟨oc_relax, od_relax, .func (PySem.W.fnOf "relax" "Flow.relax" (defArgs sRelax) (defBody sRelax) (defScope sRelax) .none kV_relax dc_relax pm_relax an_relax cd_relax ct_relax), sl_relax⟩)
    (c_relax : PySem.W.codeIn K cd_relax "Flow.relax" = true)
    (k_relax : PySem.W.keepIn K (.ref f_relax) = true)
    (a_wayTo : PySem.W.findIn K (.ref CF) "way_to" = some (some (.ref f_wayTo)))
    (i_wayTo : PySem.W.isFn K (.ref f_wayTo) = true)
    (l_wayTo : K.lookup f_wayTo = some ⟨oc_wayTo, od_wayTo, .func (PySem.W.fnOf "way_to" "Flow.way_to" (defArgs sWayTo) (defBody sWayTo) (defScope sWayTo) .none kV_wayTo dc_wayTo pm_wayTo an_wayTo cd_wayTo ct_wayTo), sl_wayTo⟩)
    (c_wayTo : PySem.W.codeIn K cd_wayTo "Flow.way_to" = true)
    (k_wayTo : PySem.W.keepIn K (.ref f_wayTo) = true)
    (a_fill : PySem.W.findIn K (.ref CF) "fill" = some (some (.ref f_fill)))
    (i_fill : PySem.W.isFn K (.ref f_fill) = true)
    (l_fill : K.lookup f_fill = some ⟨oc_fill, od_fill, .func (PySem.W.fnOf "fill" "Flow.fill" (defArgs sFill) (defBody sFill) (defScope sFill) .none kV_fill dc_fill pm_fill an_fill cd_fill ct_fill), sl_fill⟩)
    (c_fill : PySem.W.codeIn K cd_fill "Flow.fill" = true)
    (k_fill : PySem.W.keepIn K (.ref f_fill) = true)
    (a_amounts : PySem.W.findIn K (.ref CF) "amounts" = some (some (.ref f_amounts)))
    (i_amounts : PySem.W.isFn K (.ref f_amounts) = true)
    (l_amounts : K.lookup f_amounts = some ⟨oc_amounts, od_amounts, .func (PySem.W.fnOf "amounts" "Flow.amounts" (defArgs sAmounts) (defBody sAmounts) (defScope sAmounts) .none kV_amounts dc_amounts pm_amounts an_amounts cd_amounts ct_amounts), sl_amounts⟩)
    (c_amounts : PySem.W.codeIn K cd_amounts "Flow.amounts" = true)
    (k_amounts : PySem.W.keepIn K (.ref f_amounts) = true)
    (a_total : PySem.W.findIn K (.ref CF) "total" = some (some (.ref f_total)))
    (i_total : PySem.W.isFn K (.ref f_total) = true)
    (l_total : K.lookup f_total = some ⟨oc_total, od_total, .func (PySem.W.fnOf "total" "Flow.total" (defArgs sTotal) (defBody sTotal) (defScope sTotal) .none kV_total dc_total pm_total an_total cd_total ct_total), sl_total⟩)
    (c_total : PySem.W.codeIn K cd_total "Flow.total" = true)
    (k_total : PySem.W.keepIn K (.ref f_total) = true)
    (a_figs : PySem.W.findIn K (.ref CF) "figures" = some (some (.ref f_figs)))
    (i_figs : PySem.W.isFn K (.ref f_figs) = true)
    (l_figs : K.lookup f_figs = some ⟨oc_figs, od_figs, .func (PySem.W.fnOf "figures" "Flow.figures" (defArgs sFigs) (defBody sFigs) (defScope sFigs) .none kV_figs dc_figs pm_figs an_figs cd_figs ct_figs), sl_figs⟩)
    (c_figs : PySem.W.codeIn K cd_figs "Flow.figures" = true)
    (k_figs : PySem.W.keepIn K (.ref f_figs) = true)
    (a_cf : PySem.W.nsIn K mainGlobals "checked_flow" = some (some (.ref f_cf)))
    (l_cf : K.lookup f_cf = some ⟨oc_cf, od_cf, .func (PySem.W.fnOf "checked_flow" "checked_flow" (defArgs sCF) (defBody sCF) (defScope sCF) .none kV_cf dc_cf pm_cf an_cf cd_cf ct_cf), sl_cf⟩)
    (c_cf : PySem.W.codeIn K cd_cf "checked_flow" = true)
    (k_cf : PySem.W.keepIn K (.ref f_cf) = true)
    (a_lp : PySem.W.nsIn K mainGlobals "least_price" = some (some (.ref f_lp)))
    (l_lp : K.lookup f_lp = some ⟨oc_lp, od_lp, .func (PySem.W.fnOf "least_price" "least_price" (defArgs sLP) (defBody sLP) (defScope sLP) .none kV_lp dc_lp pm_lp an_lp cd_lp ct_lp), sl_lp⟩)
    (c_lp : PySem.W.codeIn K cd_lp "least_price" = true)
    (k_lp : PySem.W.keepIn K (.ref f_lp) = true)
    (a_ch : PySem.W.nsIn K mainGlobals "cheapest" = some (some (.ref f_ch)))
    (l_ch : K.lookup f_ch = some ⟨oc_ch, od_ch, .func (PySem.W.fnOf "cheapest" "cheapest" (defArgs sCh) (defBody sCh) (defScope sCh) .none kV_ch dc_ch pm_ch an_ch cd_ch ct_ch), sl_ch⟩)
    (c_ch : PySem.W.codeIn K cd_ch "cheapest" = true)
    (k_ch : PySem.W.keepIn K (.ref f_ch) = true)
    (a_areA : PySem.W.nsIn K mainGlobals "are_amounts" = some (some (.ref f_areA)))
    (l_areA : K.lookup f_areA = some ⟨oc_areA, od_areA, .func (PySem.W.fnOf "are_amounts" "are_amounts" (defArgs sAreA) (defBody sAreA) (defScope sAreA) .none kV_areA dc_areA pm_areA an_areA cd_areA ct_areA), sl_areA⟩)
    (c_areA : PySem.W.codeIn K cd_areA "are_amounts" = true)
    (k_areA : PySem.W.keepIn K (.ref f_areA) = true)
    (a_totOf : PySem.W.nsIn K mainGlobals "total_of" = some (some (.ref f_totOf)))
    (l_totOf : K.lookup f_totOf = some ⟨oc_totOf, od_totOf, .func (PySem.W.fnOf "total_of" "total_of" (defArgs sTotOf) (defBody sTotOf) (defScope sTotOf) .none kV_totOf dc_totOf pm_totOf an_totOf cd_totOf ct_totOf), sl_totOf⟩)
    (c_totOf : PySem.W.codeIn K cd_totOf "total_of" = true)
    (k_totOf : PySem.W.keepIn K (.ref f_totOf) = true)
    (a_tot : PySem.W.nsIn K mainGlobals "total" = some (some (.ref f_tot)))
    (l_tot : K.lookup f_tot = some ⟨oc_tot, od_tot, .func (PySem.W.fnOf "total" "total" (defArgs sTot) (defBody sTot) (defScope sTot) .none kV_tot dc_tot pm_tot an_tot cd_tot ct_tot), sl_tot⟩)
    (c_tot : PySem.W.codeIn K cd_tot "total" = true)
    (k_tot : PySem.W.keepIn K (.ref f_tot) = true)
    (a_cert : PySem.W.nsIn K mainGlobals "certificate" = some (some (.ref f_cert)))
    (l_cert : K.lookup f_cert = some ⟨oc_cert, od_cert, .func (PySem.W.fnOf "certificate" "certificate" (defArgs sCert) (defBody sCert) (defScope sCert) .none kV_cert dc_cert pm_cert an_cert cd_cert ct_cert), sl_cert⟩)
    (c_cert : PySem.W.codeIn K cd_cert "certificate" = true)
    (k_cert : PySem.W.keepIn K (.ref f_cert) = true)
    (a_isPrice : PySem.W.nsIn K mainGlobals "is_price" = some (some (.ref f_isPrice)))
    (l_isPrice : K.lookup f_isPrice = some ⟨oc_isPrice, od_isPrice, .func (PySem.W.fnOf "is_price" "is_price" (defArgs sIsPrice) (defBody sIsPrice) (defScope sIsPrice) .none kV_isPrice dc_isPrice pm_isPrice an_isPrice cd_isPrice ct_isPrice), sl_isPrice⟩)
    (c_isPrice : PySem.W.codeIn K cd_isPrice "is_price" = true)
    (k_isPrice : PySem.W.keepIn K (.ref f_isPrice) = true)
    (a_prI : PySem.W.findIn K (.ref CP) "__init__" = some (some (.ref f_prI)))
    (i_prI : PySem.W.isFn K (.ref f_prI) = true)
    (l_prI : K.lookup f_prI = some ⟨oc_prI, od_prI, .func (PySem.W.fnOf "__init__" "Prices.__init__" (defArgs sPrInit) (defBody sPrInit) (defScope sPrInit) .none kV_prI dc_prI pm_prI an_prI cd_prI ct_prI), sl_prI⟩)
    (c_prI : PySem.W.codeIn K cd_prI "Prices.__init__" = true)
    (k_prI : PySem.W.keepIn K (.ref f_prI) = true)
    (a_with : PySem.W.findIn K (.ref CP) "with_price" = some (some (.ref f_with)))
    (i_with : PySem.W.isFn K (.ref f_with) = true)
    (l_with : K.lookup f_with = some ⟨oc_with, od_with, .func (PySem.W.fnOf "with_price" "Prices.with_price" (defArgs sWith) (defBody sWith) (defScope sWith) .none kV_with dc_with pm_with an_with cd_with ct_with), sl_with⟩)
    (c_with : PySem.W.codeIn K cd_with "Prices.with_price" = true)
    (k_with : PySem.W.keepIn K (.ref f_with) = true)
    (a_fixed : PySem.W.findIn K (.ref CP) "is_fixed" = some (some (.ref f_fixed)))
    (i_fixed : PySem.W.isFn K (.ref f_fixed) = true)
    (l_fixed : K.lookup f_fixed = some ⟨oc_fixed, od_fixed, .func (PySem.W.fnOf "is_fixed" "Prices.is_fixed" (defArgs sFixed) (defBody sFixed) (defScope sFixed) .none kV_fixed dc_fixed pm_fixed an_fixed cd_fixed ct_fixed), sl_fixed⟩)
    (c_fixed : PySem.W.codeIn K cd_fixed "Prices.is_fixed" = true)
    (k_fixed : PySem.W.keepIn K (.ref f_fixed) = true)
    (a_pair : PySem.W.findIn K (.ref CP) "pair_of" = some (some (.ref f_pair)))
    (i_pair : PySem.W.isFn K (.ref f_pair) = true)
    (l_pair : K.lookup f_pair = some ⟨oc_pair, od_pair, .func (PySem.W.fnOf "pair_of" "Prices.pair_of" (defArgs sPair) (defBody sPair) (defScope sPair) .none kV_pair dc_pair pm_pair an_pair cd_pair ct_pair), sl_pair⟩)
    (c_pair : PySem.W.codeIn K cd_pair "Prices.pair_of" = true)
    (k_pair : PySem.W.keepIn K (.ref f_pair) = true)
    (a_tinit : PySem.W.findIn K (.ref CT) "__init__" = some (some (.ref f_tinit)))
    (i_tinit : PySem.W.isFn K (.ref f_tinit) = true)
    (l_tinit : K.lookup f_tinit = some ⟨oc_tinit, od_tinit, .func (PySem.W.fnOf "__init__" "Task.__init__" (defArgs sTInit) (defBody sTInit) (defScope sTInit) .none kV_tinit dc_tinit pm_tinit an_tinit cd_tinit ct_tinit), sl_tinit⟩)
    (c_tinit : PySem.W.codeIn K cd_tinit "Task.__init__" = true)
    (k_tinit : PySem.W.keepIn K (.ref f_tinit) = true)
    (a_tsys : PySem.W.findIn K (.ref CT) "system" = some (some (.ref p_tsys)))
    (ge_tsys : PySem.W.specialIn K (.ref p_tsys) "__get__" = some (some (.builtin "property.__get__")))
    (tk_tsys : PySem.W.takesIn K (.ref p_tsys) = some true)
    (rc_tsys : PySem.W.recIn K p_tsys "property" = some (.ref f_tsys :: r_tsys))
    (l_tsys : K.lookup f_tsys = some ⟨oc_tsys, od_tsys, .func (PySem.W.fnOf "system" "Task.system" (defArgs sTSys) (defBody sTSys) (defScope sTSys) .none kV_tsys dc_tsys pm_tsys an_tsys cd_tsys ct_tsys), sl_tsys⟩)
    (c_tsys : PySem.W.codeIn K cd_tsys "Task.system" = true)
    (k_tsys : PySem.W.keepIn K (.ref f_tsys) = true)
    (a_tpr : PySem.W.findIn K (.ref CT) "prices" = some (some (.ref p_tpr)))
    (ge_tpr : PySem.W.specialIn K (.ref p_tpr) "__get__" = some (some (.builtin "property.__get__")))
    (tk_tpr : PySem.W.takesIn K (.ref p_tpr) = some true)
    (rc_tpr : PySem.W.recIn K p_tpr "property" = some (.ref f_tpr :: r_tpr))
    (l_tpr : K.lookup f_tpr = some ⟨oc_tpr, od_tpr, .func (PySem.W.fnOf "prices" "Task.prices" (defArgs sTPr) (defBody sTPr) (defScope sTPr) .none kV_tpr dc_tpr pm_tpr an_tpr cd_tpr ct_tpr), sl_tpr⟩)
    (c_tpr : PySem.W.codeIn K cd_tpr "Task.prices" = true)
    (k_tpr : PySem.W.keepIn K (.ref f_tpr) = true)
    (a_firm : PySem.W.findIn K (.ref CT) "is_firm" = some (some (.ref f_firm)))
    (i_firm : PySem.W.isFn K (.ref f_firm) = true)
    (l_firm : K.lookup f_firm = some ⟨oc_firm, od_firm, .func (PySem.W.fnOf "is_firm" "Task.is_firm" (defArgs sTFirm) (defBody sTFirm) (defScope sTFirm) .none kV_firm dc_firm pm_firm an_firm cd_firm ct_firm), sl_firm⟩)
    (c_firm : PySem.W.codeIn K cd_firm "Task.is_firm" = true)
    (k_firm : PySem.W.keepIn K (.ref f_firm) = true)
    (a_pen : PySem.W.nsIn K mainGlobals "_law_pen" = some (some (.ref f_pen)))
    (l_pen : K.lookup f_pen = some ⟨oc_pen, od_pen, .func (PySem.W.fnOf "_law_pen" "_law_pen" (defArgs sPen) (defBody sPen) (defScope sPen) .none kV_pen dc_pen pm_pen an_pen cd_pen ct_pen), sl_pen⟩)
    (c_pen : PySem.W.codeIn K cd_pen "_law_pen" = true)
    (k_pen : PySem.W.keepIn K (.ref f_pen) = true)
    (a_next : PySem.W.nsIn K mainGlobals "_law_next" = some (some (.ref f_next)))
    (l_next : K.lookup f_next = some ⟨oc_next, od_next, .func (PySem.W.fnOf "_law_next" "_law_next" (defArgs sNext) (defBody sNext) (defScope sNext) .none kV_next dc_next pm_next an_next cd_next ct_next), sl_next⟩)
    (c_next : PySem.W.codeIn K cd_next "_law_next" = true)
    (k_next : PySem.W.keepIn K (.ref f_next) = true)
    (a_draw : PySem.W.nsIn K mainGlobals "_law_draw" = some (some (.ref f_draw)))
    (l_draw : K.lookup f_draw = some ⟨oc_draw, od_draw, .func (PySem.W.fnOf "_law_draw" "_law_draw" (defArgs sDraw) (defBody sDraw) (defScope sDraw) .none kV_draw dc_draw pm_draw an_draw cd_draw ct_draw), sl_draw⟩)
    (c_draw : PySem.W.codeIn K cd_draw "_law_draw" = true)
    (k_draw : PySem.W.keepIn K (.ref f_draw) = true)
    (a_some : PySem.W.nsIn K mainGlobals "_law_some" = some (some (.ref f_some)))
    (l_some : K.lookup f_some = some ⟨oc_some, od_some, .func (PySem.W.fnOf "_law_some" "_law_some" (defArgs sSome) (defBody sSome) (defScope sSome) .none kV_some dc_some pm_some an_some cd_some ct_some), sl_some⟩)
    (c_some : PySem.W.codeIn K cd_some "_law_some" = true)
    (k_some : PySem.W.keepIn K (.ref f_some) = true)
    (a_at : PySem.W.nsIn K mainGlobals "_law_at" = some (some (.ref f_at)))
    (l_at : K.lookup f_at = some ⟨oc_at, od_at, .func (PySem.W.fnOf "_law_at" "_law_at" (defArgs sAt) (defBody sAt) (defScope sAt) .none kV_at dc_at pm_at an_at cd_at ct_at), sl_at⟩)
    (c_at : PySem.W.codeIn K cd_at "_law_at" = true)
    (k_at : PySem.W.keepIn K (.ref f_at) = true)
    (a_gaps : PySem.W.nsIn K mainGlobals "_law_gaps" = some (some (.ref f_gaps)))
    (l_gaps : K.lookup f_gaps = some ⟨oc_gaps, od_gaps, .func (PySem.W.fnOf "_law_gaps" "_law_gaps" (defArgs sGaps) (defBody sGaps) (defScope sGaps) .none kV_gaps dc_gaps pm_gaps an_gaps cd_gaps ct_gaps), sl_gaps⟩)
    (c_gaps : PySem.W.codeIn K cd_gaps "_law_gaps" = true)
    (k_gaps : PySem.W.keepIn K (.ref f_gaps) = true)
    (a_lshort : PySem.W.nsIn K mainGlobals "_law_short" = some (some (.ref f_lshort)))
    (l_lshort : K.lookup f_lshort = some ⟨oc_lshort, od_lshort, .func (PySem.W.fnOf "_law_short" "_law_short" (defArgs sLShort) (defBody sLShort) (defScope sLShort) .none kV_lshort dc_lshort pm_lshort an_lshort cd_lshort ct_lshort), sl_lshort⟩)
    (c_lshort : PySem.W.codeIn K cd_lshort "_law_short" = true)
    (k_lshort : PySem.W.keepIn K (.ref f_lshort) = true)
    (a_deal : PySem.W.nsIn K mainGlobals "_law_deal" = some (some (.ref f_deal)))
    (l_deal : K.lookup f_deal = some ⟨oc_deal, od_deal, .func (PySem.W.fnOf "_law_deal" "_law_deal" (defArgs sDeal) (defBody sDeal) (defScope sDeal) .none kV_deal dc_deal pm_deal an_deal cd_deal ct_deal), sl_deal⟩)
    (c_deal : PySem.W.codeIn K cd_deal "_law_deal" = true)
    (k_deal : PySem.W.keepIn K (.ref f_deal) = true)
    (a_prices : PySem.W.nsIn K mainGlobals "_law_prices" = some (some (.ref f_prices)))
    (l_prices : K.lookup f_prices = some ⟨oc_prices, od_prices, .func (PySem.W.fnOf "_law_prices" "_law_prices" (defArgs sPrices) (defBody sPrices) (defScope sPrices) .none kV_prices dc_prices pm_prices an_prices cd_prices ct_prices), sl_prices⟩)
    (c_prices : PySem.W.codeIn K cd_prices "_law_prices" = true)
    (k_prices : PySem.W.keepIn K (.ref f_prices) = true)
    (a_there : PySem.W.nsIn K mainGlobals "_law_there" = some (some (.ref f_there)))
    (l_there : K.lookup f_there = some ⟨oc_there, od_there, .func (PySem.W.fnOf "_law_there" "_law_there" (defArgs sThere) (defBody sThere) (defScope sThere) .none kV_there dc_there pm_there an_there cd_there ct_there), sl_there⟩)
    (c_there : PySem.W.codeIn K cd_there "_law_there" = true)
    (k_there : PySem.W.keepIn K (.ref f_there) = true)
    (a_task : PySem.W.nsIn K mainGlobals "_law_task" = some (some (.ref f_task)))
    (l_task : K.lookup f_task = some ⟨oc_task, od_task, .func (PySem.W.fnOf "_law_task" "_law_task" (defArgs sTask) (defBody sTask) (defScope sTask) .none kV_task dc_task pm_task an_task cd_task ct_task), sl_task⟩)
    (c_task : PySem.W.codeIn K cd_task "_law_task" = true)
    (k_task : PySem.W.keepIn K (.ref f_task) = true)
    (a_price : PySem.W.nsIn K mainGlobals "_law_price" = some (some (.ref f_price)))
    (l_price : K.lookup f_price = some ⟨oc_price, od_price, .func (PySem.W.fnOf "_law_price" "_law_price" (defArgs sPrice) (defBody sPrice) (defScope sPrice) .none kV_price dc_price pm_price an_price cd_price ct_price), sl_price⟩)
    (c_price : PySem.W.codeIn K cd_price "_law_price" = true)
    (k_price : PySem.W.keepIn K (.ref f_price) = true)
    (a_boxed : PySem.W.nsIn K mainGlobals "_law_boxed" = some (some (.ref f_boxed)))
    (l_boxed : K.lookup f_boxed = some ⟨oc_boxed, od_boxed, .func (PySem.W.fnOf "_law_boxed" "_law_boxed" (defArgs sBoxed) (defBody sBoxed) (defScope sBoxed) .none kV_boxed dc_boxed pm_boxed an_boxed cd_boxed ct_boxed), sl_boxed⟩)
    (c_boxed : PySem.W.codeIn K cd_boxed "_law_boxed" = true)
    (k_boxed : PySem.W.keepIn K (.ref f_boxed) = true)
    (a_all : PySem.W.nsIn K mainGlobals "_law_all_numbers" = some (some (.ref f_all)))
    (l_all : K.lookup f_all = some ⟨oc_all, od_all, .func (PySem.W.fnOf "_law_all_numbers" "_law_all_numbers" (defArgs sAll) (defBody sAll) (defScope sAll) .none kV_all dc_all pm_all an_all cd_all ct_all), sl_all⟩)
    (c_all : PySem.W.codeIn K cd_all "_law_all_numbers" = true)
    (k_all : PySem.W.keepIn K (.ref f_all) = true)
    (a_right : PySem.W.nsIn K mainGlobals "_law_right" = some (some (.ref f_right)))
    (l_right : K.lookup f_right = some ⟨oc_right, od_right, .func (PySem.W.fnOf "_law_right" "_law_right" (defArgs sRight) (defBody sRight) (defScope sRight) .none kV_right dc_right pm_right an_right cd_right ct_right), sl_right⟩)
    (c_right : PySem.W.codeIn K cd_right "_law_right" = true)
    (k_right : PySem.W.keepIn K (.ref f_right) = true)
    (a_law : PySem.W.nsIn K mainGlobals "law" = some (some (.ref f_law)))
    (l_law : K.lookup f_law = some ⟨oc_law, od_law, .func (PySem.W.fnOf "law" "law" (defArgs sLaw) (defBody sLaw) (defScope sLaw) .none kV_law dc_law pm_law an_law cd_law ct_law), sl_law⟩)
    (c_law : PySem.W.codeIn K cd_law "law" = true)
    (k_law : PySem.W.keepIn K (.ref f_law) = true)
    (z_isinstance : PySem.W.nsIn K mainGlobals "isinstance" = some none)
    (z_int : PySem.W.nsIn K mainGlobals "int" = some none)
    (z_bool : PySem.W.nsIn K mainGlobals "bool" = some none)
    (z_str : PySem.W.nsIn K mainGlobals "str" = some none)
    (z_list : PySem.W.nsIn K mainGlobals "list" = some none)
    (z_tuple : PySem.W.nsIn K mainGlobals "tuple" = some none)
    (z_dict : PySem.W.nsIn K mainGlobals "dict" = some none)
    (z_set : PySem.W.nsIn K mainGlobals "set" = some none)
    (z_len : PySem.W.nsIn K mainGlobals "len" = some none)
    (z_all : PySem.W.nsIn K mainGlobals "all" = some none)
    (z_sorted : PySem.W.nsIn K mainGlobals "sorted" = some none)
    (z_range : PySem.W.nsIn K mainGlobals "range" = some none)
    (z_zip : PySem.W.nsIn K mainGlobals "zip" = some none)
    (z_sum : PySem.W.nsIn K mainGlobals "sum" = some none)
    (z_min : PySem.W.nsIn K mainGlobals "min" = some none)
    (z_max : PySem.W.nsIn K mainGlobals "max" = some none)
    (z_repr : PySem.W.nsIn K mainGlobals "repr" = some none)
    (z_abs : PySem.W.nsIn K mainGlobals "abs" = some none)
    (z_LETTERS : PySem.W.nsIn K mainGlobals "LETTERS" = some (some (.str "abcdefghijklmnopqrstuvwxyz" t_LETTERS)))
    (z_MAX_NAME : PySem.W.nsIn K mainGlobals "MAX_NAME" = some (some (.int 8 t_MAX_NAME)))
    (z_MAX_GAP : PySem.W.nsIn K mainGlobals "MAX_GAP" = some (some (.int 999 t_MAX_GAP)))
    (z_MAX_NUMBER : PySem.W.nsIn K mainGlobals "MAX_NUMBER" = some (some (.int 99999 t_MAX_NUMBER)))
    (z_LARGEST : PySem.W.nsIn K mainGlobals "LARGEST" = some (some (.int 999999999999 t_LARGEST)))
    (z_MAX_PRICE : PySem.W.nsIn K mainGlobals "MAX_PRICE" = some (some (.int 999 t_MAX_PRICE)))
    : ∃ fd : FuncData, (∀ (s : Shared) (v : Value), BindsTo s fd ⟨[v], []⟩ [("_law_script", v)]) ∧ ∀ base : Heap, K.In base → base.Ns mainGlobals mg → FnOk l.prog w K mg base CX0 13 fa fd ["_law_script"] (spLaw K) := by
  have e := hfa.symm.trans (PySem.W.mg_of X G a_law)
  cases e
  obtain ⟨C, rfl, rfl, rfl⟩ : ∃ C : TAd, C.CT = CT ∧ C.CS = CS ∧ C.CP = CP := ⟨⟨CT, CS, CP⟩, rfl, rfl, rfl⟩
  have g : Gm mg := ⟨PySem.W.mg_none_of X G z_isinstance, PySem.W.mg_none_of X G z_int, PySem.W.mg_none_of X G z_bool, PySem.W.mg_none_of X G z_str, PySem.W.mg_none_of X G z_list, PySem.W.mg_none_of X G z_tuple, PySem.W.mg_none_of X G z_dict, PySem.W.mg_none_of X G z_set, PySem.W.mg_none_of X G z_len, PySem.W.mg_none_of X G z_all, PySem.W.mg_none_of X G z_sorted, PySem.W.mg_none_of X G z_range, PySem.W.mg_none_of X G z_zip, PySem.W.mg_none_of X G z_sum, PySem.W.mg_none_of X G z_min, PySem.W.mg_none_of X G z_max, PySem.W.mg_none_of X G z_repr, PySem.W.mg_none_of X G z_abs, ⟨_, PySem.W.mg_of X G z_LETTERS, ⟨_, rfl⟩⟩, ⟨_, PySem.W.mg_of X G z_MAX_NAME, ⟨_, rfl⟩⟩, ⟨_, PySem.W.mg_of X G z_MAX_GAP, ⟨_, rfl⟩⟩, ⟨_, PySem.W.mg_of X G z_MAX_NUMBER, ⟨_, rfl⟩⟩, ⟨_, PySem.W.mg_of X G z_LARGEST, ⟨_, rfl⟩⟩, ⟨_, PySem.W.mg_of X G z_MAX_PRICE, ⟨_, rfl⟩⟩⟩
  have sysC : SysC K C.CS := ⟨⟨pg_S, hd_S, po_S, sa_S⟩, n_S_settings, n_S_gaps⟩
  have mS : mg "System" = some (.ref C.CS) := PySem.W.mg_of X G aC_S
  have reachC : ReachC K CR := ⟨⟨pg_R, hd_R, po_R, sa_R⟩, n_R_start, n_R_best, n_R_last⟩
  have mR : mg "Reach" = some (.ref CR) := PySem.W.mg_of X G aC_R
  have lineC : LineCls K CL := ⟨⟨pg_L, hd_L, po_L, sa_L⟩, n_L_ends, n_L_most, n_L_profit, n_L_amount⟩
  have mL : mg "Line" = some (.ref CL) := PySem.W.mg_of X G aC_L
  have flowC : FlowC K CF := ⟨⟨pg_F, hd_F, po_F, sa_F⟩, n_F_task, n_F_lines, n_F_spare⟩
  have mF : mg "Flow" = some (.ref CF) := PySem.W.mg_of X G aC_F
  have prC : PrC K C.CP := ⟨⟨pg_P, hd_P, po_P, sa_P⟩, n_P_general, n_P_own⟩
  have mP : mg "Prices" = some (.ref C.CP) := PySem.W.mg_of X G aC_P
  have taskC : TaskC K C.CT := ⟨⟨pg_T, hd_T, po_T, sa_T⟩, n_T_parts, n_T_old⟩
  have mT : mg "Task" = some (.ref C.CT) := PySem.W.mg_of X G aC_T
  have mkS : Mk K C.CS f_sysInit := ⟨mk_S, a_sysInit, i_sysInit, kc_S⟩
  have mkR : Mk K CR f_rinit := ⟨mk_R, a_rinit, i_rinit, kc_R⟩
  have mkL : Mk K CL f_li := ⟨mk_L, a_li, i_li, kc_L⟩
  have mkF : Mk K CF f_finit := ⟨mk_F, a_finit, i_finit, kc_F⟩
  have mkP : Mk K C.CP f_prI := ⟨mk_P, a_prI, i_prI, kc_P⟩
  have mkT : Mk K C.CT f_tinit := ⟨mk_T, a_tinit, i_tinit, kc_T⟩
  have F_isInt := fun_mk (st := sIsInt) l_isInt c_isInt k_isInt
  have b_isInt := F_isInt.binds (ps := ["thing", "low", "high"]) fun _ _ _ _ _ _ us hl => match us, hl with | [_, _, _], _ => rfl
  have F_isName := fun_mk (st := sIsName) l_isName c_isName k_isName
  have b_isName := F_isName.binds (ps := ["thing"]) fun _ _ _ _ _ _ us hl => match us, hl with | [_], _ => rfl
  have F_ruleKey := fun_mk (st := (top 15)) l_ruleKey c_ruleKey k_ruleKey
  have F_isThing := fun_mk (st := sIsThing) l_isThing c_isThing k_isThing
  have b_isThing := F_isThing.binds (ps := ["thing"]) fun _ _ _ _ _ _ us hl => match us, hl with | [_], _ => rfl
  have F_isRule := fun_mk (st := sIsRule) l_isRule c_isRule k_isRule
  have b_isRule := F_isRule.binds (ps := ["thing"]) fun _ _ _ _ _ _ us hl => match us, hl with | [_], _ => rfl
  have F_sysInit := fun_mk (st := sSysInit) l_sysInit c_sysInit k_sysInit
  have b_sysInit := F_sysInit.binds (ps := ["self", "names", "rules"]) fun _ _ _ _ _ _ us hl => match us, hl with | [_, _, _], _ => rfl
  have F_areN := fun_mk (st := sAreN) l_areN c_areN k_areN
  have b_areN := F_areN.binds (ps := ["system", "thing"]) fun _ _ _ _ _ _ us hl => match us, hl with | [_, _], _ => rfl
  have F_checkN := fun_mk (st := sCheckN) l_checkN c_checkN k_checkN
  have F_numAt := fun_mk (st := sNumAt) l_numAt c_numAt k_numAt
  have b_numAt := F_numAt.binds (ps := ["numbers", "thing"]) fun _ _ _ _ _ _ us hl => match us, hl with | [_, _], _ => rfl
  have F_short := fun_mk (st := sShort) l_short c_short k_short
  have b_short := F_short.binds (ps := ["numbers", "rule"]) fun _ _ _ _ _ _ us hl => match us, hl with | [_, _], _ => rfl
  have F_contra := fun_mk (st := sContra) l_contra c_contra k_contra
  have b_contra := F_contra.binds (ps := ["system"]) fun _ _ _ _ _ _ us hl => match us, hl with | [_], _ => rfl
  have F_cons := fun_mk (st := sCons) l_cons c_cons k_cons
  have b_cons := F_cons.binds (ps := ["system"]) fun _ _ _ _ _ _ us hl => match us, hl with | [_], _ => rfl
  have F_rinit := fun_mk (st := sRInit) l_rinit c_rinit k_rinit
  have b_rinit := F_rinit.binds (ps := ["self", "system", "start"]) fun _ _ _ _ _ _ us hl => match us, hl with | [_, _, _], _ => rfl
  have F_rules := fun_mk (st := sRules) l_rules c_rules k_rules
  have b_rules := F_rules.binds (ps := ["self", "high"]) fun _ _ _ _ _ _ us hl => match us, hl with | [_, _], _ => rfl
  have F_str := fun_mk (st := sStr) l_str c_str k_str
  have b_str := F_str.binds (ps := ["task", "low", "high", "total"]) fun _ _ _ _ _ _ us hl => match us, hl with | [_, _, _, _], _ => rfl
  have F_bind := fun_mk (st := sBind) l_bind c_bind k_bind
  have b_bind := F_bind.binds (ps := ["task"]) fun _ _ _ _ _ _ us hl => match us, hl with | [_], _ => rfl
  have F_li := fun_mk (st := sLI) l_li c_li k_li
  have b_li := F_li.binds (ps := ["self", "tail", "head", "most", "profit"]) fun _ _ _ _ _ _ us hl => match us, hl with | [_, _, _, _, _], _ => rfl
  have F_finit := fun_mk (st := sFInit) l_finit c_finit k_finit
  have b_finit := F_finit.binds (ps := ["self", "task"]) fun _ _ _ _ _ _ us hl => match us, hl with | [_, _], _ => rfl
  have F_lineOf := fun_mk (st := sLineOf) l_lineOf c_lineOf k_lineOf
  have b_lineOf := F_lineOf.binds (ps := ["self", "rule"]) fun _ _ _ _ _ _ us hl => match us, hl with | [_, _], _ => rfl
  have F_best := fun_mk (st := sBestWay) l_best c_best k_best
  have b_best := F_best.binds (ps := ["self"]) fun _ _ _ _ _ _ us hl => match us, hl with | [_], _ => rfl
  have F_relax := fun_mk (st := sRelax) l_relax c_relax k_relax
  have b_relax := F_relax.binds (ps := ["self", "pairs", "best", "last"]) fun _ _ _ _ _ _ us hl => match us, hl with | [_, _, _, _], _ => rfl
  have F_wayTo := fun_mk (st := sWayTo) l_wayTo c_wayTo k_wayTo
  have b_wayTo := F_wayTo.binds (ps := ["self", "final", "last"]) fun _ _ _ _ _ _ us hl => match us, hl with | [_, _, _], _ => rfl
  have F_fill := fun_mk (st := sFill) l_fill c_fill k_fill
  have b_fill := F_fill.binds (ps := ["self", "way"]) fun _ _ _ _ _ _ us hl => match us, hl with | [_, _], _ => rfl
  have F_amounts := fun_mk (st := sAmounts) l_amounts c_amounts k_amounts
  have b_amounts := F_amounts.binds (ps := ["self"]) fun _ _ _ _ _ _ us hl => match us, hl with | [_], _ => rfl
  have F_total := fun_mk (st := sTotal) l_total c_total k_total
  have b_total := F_total.binds (ps := ["self"]) fun _ _ _ _ _ _ us hl => match us, hl with | [_], _ => rfl
  have F_figs := fun_mk (st := sFigs) l_figs c_figs k_figs
  have b_figs := F_figs.binds (ps := ["self"]) fun _ _ _ _ _ _ us hl => match us, hl with | [_], _ => rfl
  have F_cf := fun_mk (st := sCF) l_cf c_cf k_cf
  have b_cf := F_cf.binds (ps := ["task"]) fun _ _ _ _ _ _ us hl => match us, hl with | [_], _ => rfl
  have F_lp := fun_mk (st := sLP) l_lp c_lp k_lp
  have b_lp := F_lp.binds (ps := ["task"]) fun _ _ _ _ _ _ us hl => match us, hl with | [_], _ => rfl
  have F_ch := fun_mk (st := sCh) l_ch c_ch k_ch
  have b_ch := F_ch.binds (ps := ["task"]) fun _ _ _ _ _ _ us hl => match us, hl with | [_], _ => rfl
  have F_areA := fun_mk (st := sAreA) l_areA c_areA k_areA
  have b_areA := F_areA.binds (ps := ["task", "thing"]) fun _ _ _ _ _ _ us hl => match us, hl with | [_, _], _ => rfl
  have F_totOf := fun_mk (st := sTotOf) l_totOf c_totOf k_totOf
  have b_totOf := F_totOf.binds (ps := ["task", "amounts"]) fun _ _ _ _ _ _ us hl => match us, hl with | [_, _], _ => rfl
  have F_tot := fun_mk (st := sTot) l_tot c_tot k_tot
  have b_tot := F_tot.binds (ps := ["task", "amounts"]) fun _ _ _ _ _ _ us hl => match us, hl with | [_, _], _ => rfl
  have F_cert := fun_mk (st := sCert) l_cert c_cert k_cert
  have b_cert := F_cert.binds (ps := ["task"]) fun _ _ _ _ _ _ us hl => match us, hl with | [_], _ => rfl
  have F_isPrice := fun_mk (st := sIsPrice) l_isPrice c_isPrice k_isPrice
  have b_isPrice := F_isPrice.binds (ps := ["thing"]) fun _ _ _ _ _ _ us hl => match us, hl with | [_], _ => rfl
  have F_prI := fun_mk (st := sPrInit) l_prI c_prI k_prI
  have F_with := fun_mk (st := sWith) l_with c_with k_with
  have b_with := F_with.binds (ps := ["self", "name", "price"]) fun _ _ _ _ _ _ us hl => match us, hl with | [_, _, _], _ => rfl
  have F_fixed := fun_mk (st := sFixed) l_fixed c_fixed k_fixed
  have b_fixed := F_fixed.binds (ps := ["self", "name"]) fun _ _ _ _ _ _ us hl => match us, hl with | [_, _], _ => rfl
  have F_pair := fun_mk (st := sPair) l_pair c_pair k_pair
  have b_pair := F_pair.binds (ps := ["self", "name"]) fun _ _ _ _ _ _ us hl => match us, hl with | [_, _], _ => rfl
  have F_tinit := fun_mk (st := sTInit) l_tinit c_tinit k_tinit
  have b_tinit := F_tinit.binds (ps := ["self", "system", "numbers", "prices"]) fun _ _ _ _ _ _ us hl => match us, hl with | [_, _, _, _], _ => rfl
  have F_tsys := fun_mk (st := sTSys) l_tsys c_tsys k_tsys
  have b_tsys := F_tsys.binds (ps := ["self"]) fun _ _ _ _ _ _ us hl => match us, hl with | [_], _ => rfl
  have F_tpr := fun_mk (st := sTPr) l_tpr c_tpr k_tpr
  have b_tpr := F_tpr.binds (ps := ["self"]) fun _ _ _ _ _ _ us hl => match us, hl with | [_], _ => rfl
  have F_firm := fun_mk (st := sTFirm) l_firm c_firm k_firm
  have b_firm := F_firm.binds (ps := ["self", "thing"]) fun _ _ _ _ _ _ us hl => match us, hl with | [_, _], _ => rfl
  have F_pen := fun_mk (st := sPen) l_pen c_pen k_pen
  have b_pen := F_pen.binds (ps := ["_law_script"]) fun _ _ _ _ _ _ us hl => match us, hl with | [_], _ => rfl
  have F_next := fun_mk (st := sNext) l_next c_next k_next
  have b_next := F_next.binds (ps := ["_law_pen_here"]) fun _ _ _ _ _ _ us hl => match us, hl with | [_], _ => rfl
  have F_draw := fun_mk (st := sDraw) l_draw c_draw k_draw
  have b_draw := F_draw.binds (ps := ["_law_pen_here", "_law_under"]) fun _ _ _ _ _ _ us hl => match us, hl with | [_, _], _ => rfl
  have F_some := fun_mk (st := sSome) l_some c_some k_some
  have b_some := F_some.binds (ps := ["_law_pen_here", "_law_pool", "_law_most"]) fun _ _ _ _ _ _ us hl => match us, hl with | [_, _, _], _ => rfl
  have F_at := fun_mk (st := sAt) l_at c_at k_at
  have b_at := F_at.binds (ps := ["_law_held", "_law_thing"]) fun _ _ _ _ _ _ us hl => match us, hl with | [_, _], _ => rfl
  have F_gaps := fun_mk (st := sGaps) l_gaps c_gaps k_gaps
  have b_gaps := F_gaps.binds (ps := ["_law_pen_here", "_law_nyms_here", "_law_goals", "_law_most"]) fun _ _ _ _ _ _ us hl => match us, hl with | [_, _, _, _], _ => rfl
  have F_lshort := fun_mk (st := sLShort) l_lshort c_lshort k_lshort
  have b_lshort := F_lshort.binds (ps := ["_law_held", "_law_ask"]) fun _ _ _ _ _ _ us hl => match us, hl with | [_, _], _ => rfl
  have F_deal := fun_mk (st := sDeal) l_deal c_deal k_deal
  have b_deal := F_deal.binds (ps := ["_law_pen_here", "_law_nyms_here"]) fun _ _ _ _ _ _ us hl => match us, hl with | [_, _], _ => rfl
  have F_prices := fun_mk (st := sPrices) l_prices c_prices k_prices
  have b_prices := F_prices.binds (ps := ["_law_deal_here"]) fun _ _ _ _ _ _ us hl => match us, hl with | [_], _ => rfl
  have F_there := fun_mk (st := sThere) l_there c_there k_there
  have b_there := F_there.binds (ps := ["_law_model"]) fun _ _ _ _ _ _ us hl => match us, hl with | [_], _ => rfl
  have F_task := fun_mk (st := sTask) l_task c_task k_task
  have b_task := F_task.binds (ps := ["_law_model"]) fun _ _ _ _ _ _ us hl => match us, hl with | [_], _ => rfl
  have F_price := fun_mk (st := sPrice) l_price c_price k_price
  have b_price := F_price.binds (ps := ["_law_model", "_law_held"]) fun _ _ _ _ _ _ us hl => match us, hl with | [_, _], _ => rfl
  have F_boxed := fun_mk (st := sBoxed) l_boxed c_boxed k_boxed
  have b_boxed := F_boxed.binds (ps := ["_law_pen_here", "_law_most", "_law_many", "_law_tops"]) fun _ _ _ _ _ _ us hl => match us, hl with | [_, _, _, _], _ => rfl
  have F_all := fun_mk (st := sAll) l_all c_all k_all
  have b_all := F_all.binds (ps := ["_law_nyms_here", "_law_low", "_law_tops"]) fun _ _ _ _ _ _ us hl => match us, hl with | [_, _, _], _ => rfl
  have F_right := fun_mk (st := sRight) l_right c_right k_right
  have b_right := F_right.binds (ps := ["_law_model", "_law_low"]) fun _ _ _ _ _ _ us hl => match us, hl with | [_, _], _ => rfl
  have F_law := fun_mk (st := sLaw) l_law c_law k_law
  have b_law := F_law.binds (ps := ["_law_script"]) fun _ _ _ _ _ _ us hl => match us, hl with | [_], _ => rfl
  have r_isRule : SMet K C.CS "is_rule" f_isRule := ⟨rd_isRule, ga_isRule, ⟨_, fc_isRule, _, rc_isRule⟩, k_isRule⟩
  have mRK := PySem.W.mg_of X G a_ruleKey
  have mCN := PySem.W.mg_of X G a_checkN
  have kb := kb_pr F_prI
  have sidC : SidesCls K CL CF := ⟨lineC, ⟨flowC.c, flowC.l, flowC.s⟩, f_lsides, f_fsides, "Line.sides", "Flow.sides", _, _, ⟨a_lsides, i_lsides, k_lsides⟩, ⟨_, _, _, _, _, _, _, _, l_lsides, c_lsides, fun _ => rfl⟩, ⟨a_fsides, i_fsides, k_fsides⟩, ⟨_, _, _, _, _, _, _, _, l_fsides, c_fsides, fun _ => rfl⟩⟩
  refine ⟨PySem.W.fnOf "law" "law" (defArgs sLaw) (defBody sLaw) (defScope sLaw) .none kV_law dc_law pm_law an_law cd_law ct_law, fun s v => .of_eq rfl, fun base _ _ => ?_⟩
  have O_isInt : FnOk l.prog w K mg base CX0 1 f_isInt _ ["thing", "low", "high"] spIsInt := ok_isInt F_isInt g
  have C_isInt : Cal l.prog w K mg base 1 "is_integer" spIsInt := ⟨_, _, _, O_isInt, PySem.W.mg_of X G a_isInt, k_isInt, b_isInt⟩
  have O_isName : FnOk l.prog w K mg base CX0 1 f_isName _ ["thing"] spIsName := ok_isName F_isName g
  have C_isName : Cal l.prog w K mg base 1 "is_name" spIsName := ⟨_, _, _, O_isName, PySem.W.mg_of X G a_isName, k_isName, b_isName⟩
  have O_isThing : FnOk l.prog w K mg base CX0 2 f_isThing _ ["thing"] spIsThing := ok_isThing F_isThing C_isName
  have C_isThing : Cal l.prog w K mg base 2 "is_thing" spIsThing := ⟨_, _, _, O_isThing, PySem.W.mg_of X G a_isThing, k_isThing, b_isThing⟩
  have O_isPrice : FnOk l.prog w K mg base CX0 2 f_isPrice _ ["thing"] spIsPrice := ok_isPrice F_isPrice g C_isInt
  have C_isPrice : Cal l.prog w K mg base 2 "is_price" spIsPrice := ⟨_, _, _, O_isPrice, PySem.W.mg_of X G a_isPrice, k_isPrice, b_isPrice⟩
  have O_numAt : FnOk l.prog w K mg base CX0 1 f_numAt _ ["numbers", "thing"] spNumAt := ok_numAt F_numAt
  have C_numAt : Cal l.prog w K mg base 1 "number_at" spNumAt := ⟨_, _, _, O_numAt, PySem.W.mg_of X G a_numAt, k_numAt, b_numAt⟩
  have O_short : FnOk l.prog w K mg base CX0 2 f_short _ ["numbers", "rule"] spShort := ok_short F_short C_numAt
  have C_short : Cal l.prog w K mg base 2 "short_by" spShort := ⟨_, _, _, O_short, PySem.W.mg_of X G a_short, k_short, b_short⟩
  have O_isRule : FnOk l.prog w K mg base CX0 3 f_isRule _ ["thing"] spIsRule := ok_isRule F_isRule g C_isInt C_isThing
  have O_sysInit : FnOk l.prog w K mg base CX0 6 f_sysInit _ ["self", "names", "rules"] (spSys C.CS) := ok_sys F_sysInit g C_isName r_isRule O_isRule b_isRule mS F_ruleKey mRK sysC.c sysC.s sysC.g
  have C_sysInit : Mkr l.prog w K mg base 6 "System" C.CS (spSys C.CS) := ⟨_, _, _, mkS, O_sysInit, mS, b_sysInit⟩
  have O_prI : FnOk l.prog w K mg base CX0 3 f_prI _ ["self", "raising", "lowering"] (spPrI C.CP) := F_prI.ok sc_prI (fun vs H Q E h => by obtain ⟨x, dx, a, b, rfl, _⟩ := h; rfl) (fun cdv A outer s H vs Q E hr h => body_prI g prC C_isPrice hr h)
  have O_fixed : FnOk l.prog w K mg base CX0 1 f_fixed _ ["self", "name"] (spFixed C.CP) := ok_fixed F_fixed prC
  have C_fixed : Mth l.prog w K mg base 1 C.CP "is_fixed" (spFixed C.CP) := ⟨_, _, _, prC.c, ⟨a_fixed, i_fixed, k_fixed⟩, O_fixed, b_fixed⟩
  have O_pair : FnOk l.prog w K mg base CX0 1 f_pair _ ["self", "name"] (spPair C.CP) := ok_pair F_pair prC
  have C_pair : Mth l.prog w K mg base 1 C.CP "pair_of" (spPair C.CP) := ⟨_, _, _, prC.c, ⟨a_pair, i_pair, k_pair⟩, O_pair, b_pair⟩
  have O_with : FnOk l.prog w K mg base CX0 5 f_with _ ["self", "name", "price"] (spWith C.CP) := ok_with F_with g prC C_isPrice C_isName mkP O_prI kb mP
  have C_with : Mth l.prog w K mg base 5 C.CP "with_price" (spWith C.CP) := ⟨_, _, _, prC.c, ⟨a_with, i_with, k_with⟩, O_with, b_with⟩
  have O_areN : FnOk l.prog w K mg base CX0 3 f_areN _ ["system", "thing"] (spAreN C.CS) := ok_areN F_areN g sysC C_isInt
  have C_areN : Cal l.prog w K mg base 3 "are_numbers" (spAreN C.CS) := ⟨_, _, _, O_areN, PySem.W.mg_of X G a_areN, k_areN, b_areN⟩
  have O_checkN : FnR l.prog w K mg base CX0 4 f_checkN (spCheckN C.CS) := ok_checkN F_checkN g C_areN
  have O_tsys : FnOk l.prog w K mg base CX0 1 f_tsys _ ["self"] (spTSys C) := ok_tsys F_tsys taskC
  have C_tsys : Prp l.prog w K mg base 1 C.CT "system" (spTSys C) := ⟨_, _, _, _, taskC.c, ⟨a_tsys, ge_tsys, tk_tsys, ⟨_, rc_tsys⟩⟩, O_tsys, b_tsys⟩
  have O_tpr : FnOk l.prog w K mg base CX0 1 f_tpr _ ["self"] (spTPr C) := ok_tpr F_tpr taskC
  have C_tpr : Prp l.prog w K mg base 1 C.CT "prices" (spTPr C) := ⟨_, _, _, _, taskC.c, ⟨a_tpr, ge_tpr, tk_tpr, ⟨_, rc_tpr⟩⟩, O_tpr, b_tpr⟩
  have O_firm : FnOk l.prog w K mg base CX0 2 f_firm _ ["self", "thing"] (spFirm C) := ok_firm F_firm taskC C_fixed
  have C_firm : Mth l.prog w K mg base 2 C.CT "is_firm" (spFirm C) := ⟨_, _, _, taskC.c, ⟨a_firm, i_firm, k_firm⟩, O_firm, b_firm⟩
  have O_tinit : FnOk l.prog w K mg base CX0 5 f_tinit _ ["self", "system", "numbers", "prices"] (spTInit C) := ok_tinit F_tinit taskC sysC O_checkN mCN k_checkN
  have C_tinit : Mkr l.prog w K mg base 5 "Task" C.CT (spTInit C) := ⟨_, _, _, mkT, O_tinit, mT, b_tinit⟩
  have O_contra : FnOk l.prog w K mg base CX0 3 f_contra _ ["system"] (spContra C.CS) := ok_contra F_contra g sysC
  have C_contra : Cal l.prog w K mg base 3 "contradiction" (spContra C.CS) := ⟨_, _, _, O_contra, PySem.W.mg_of X G a_contra, k_contra, b_contra⟩
  have O_cons : FnOk l.prog w K mg base CX0 4 f_cons _ ["system"] (spContra C.CS) := ok_cons F_cons C_contra
  have C_cons : Cal l.prog w K mg base 4 "check_consistent" (spContra C.CS) := ⟨_, _, _, O_cons, PySem.W.mg_of X G a_cons, k_cons, b_cons⟩
  have O_str : FnOk l.prog w K mg base CX0 3 f_str _ ["task", "low", "high", "total"] (spStr C) := ok_str F_str taskC C_firm C_numAt
  have C_str : Cal l.prog w K mg base 3 "is_strained" (spStr C) := ⟨_, _, _, O_str, PySem.W.mg_of X G a_str, k_str, b_str⟩
  have O_rinit : FnOk l.prog w K mg base CX0 2 f_rinit _ ["self", "system", "start"] (spRInit C.CS CR l.prog w) := ok_rinit F_rinit reachC sysC
  have C_rinit : Mkr l.prog w K mg base 2 "Reach" CR (spRInit C.CS CR l.prog w) := ⟨_, _, _, mkR, O_rinit, mR, b_rinit⟩
  have O_rules : FnOk l.prog w K mg base CX0 2 f_rules _ ["self", "high"] (spRules CR l.prog w) := ok_rules F_rules reachC
  have C_rules : Mth l.prog w K mg base 2 CR "rules_to" (spRules CR l.prog w) := ⟨_, _, _, reachC.c, ⟨a_rules, i_rules, k_rules⟩, O_rules, b_rules⟩
  have O_bind : FnOk l.prog w K mg base CX0 5 f_bind _ ["task"] (spBind C) := ok_bind F_bind taskC reachC C_cons C_tsys C_firm C_rinit C_str C_rules
  have C_bind : Cal l.prog w K mg base 5 "bind" (spBind C) := ⟨_, _, _, O_bind, PySem.W.mg_of X G a_bind, k_bind, b_bind⟩
  have O_li : FnOk l.prog w K mg base CX0 1 f_li _ ["self", "tail", "head", "most", "profit"] (spLI CL) := ok_li F_li lineC
  have C_li : Mkr l.prog w K mg base 1 "Line" CL (spLI CL) := ⟨_, _, _, mkL, O_li, mL, b_li⟩
  have O_lineOf : FnOk l.prog w K mg base CX0 4 f_lineOf _ ["self", "rule"] (spLineOf C CL CF) := ok_lineOf F_lineOf flowC taskC C_firm C_li C_short
  have C_lineOf : Mth l.prog w K mg base 4 CF "line_of" (spLineOf C CL CF) := ⟨_, _, _, flowC.c, ⟨a_lineOf, i_lineOf, k_lineOf⟩, O_lineOf, b_lineOf⟩
  have O_relax : FnOk l.prog w K mg base CX0 1 f_relax _ ["self", "pairs", "best", "last"] (spRelax l.prog w) := ok_relax F_relax
  have C_relax : Mth l.prog w K mg base 1 CF "relax" (spRelax l.prog w) := ⟨_, _, _, flowC.c, ⟨a_relax, i_relax, k_relax⟩, O_relax, b_relax⟩
  have O_wayTo : FnOk l.prog w K mg base CX0 1 f_wayTo _ ["self", "final", "last"] (spWayTo l.prog w) := ok_wayTo F_wayTo
  have C_wayTo : Mth l.prog w K mg base 1 CF "way_to" (spWayTo l.prog w) := ⟨_, _, _, flowC.c, ⟨a_wayTo, i_wayTo, k_wayTo⟩, O_wayTo, b_wayTo⟩
  have O_fill : FnOk l.prog w K mg base CX0 1 f_fill _ ["self", "way"] (spFill CL CF) := ok_fill F_fill g lineC
  have C_fill : Mth l.prog w K mg base 1 CF "fill" (spFill CL CF) := ⟨_, _, _, flowC.c, ⟨a_fill, i_fill, k_fill⟩, O_fill, b_fill⟩
  have O_best : FnOk l.prog w K mg base CX0 7 f_best _ ["self"] (spBest CL CF) := ok_best F_best sidC C_relax C_wayTo
  have C_best : Mth l.prog w K mg base 7 CF "best_way" (spBest CL CF) := ⟨_, _, _, flowC.c, ⟨a_best, i_best, k_best⟩, O_best, b_best⟩
  have O_amounts : FnOk l.prog w K mg base CX0 1 f_amounts _ ["self"] (spAmounts CL CF) := ok_amounts F_amounts flowC lineC
  have C_amounts : Mth l.prog w K mg base 1 CF "amounts" (spAmounts CL CF) := ⟨_, _, _, flowC.c, ⟨a_amounts, i_amounts, k_amounts⟩, O_amounts, b_amounts⟩
  have O_total : FnOk l.prog w K mg base CX0 1 f_total _ ["self"] (spTotal CL CF) := ok_total F_total g flowC lineC
  have C_total : Mth l.prog w K mg base 1 CF "total" (spTotal CL CF) := ⟨_, _, _, flowC.c, ⟨a_total, i_total, k_total⟩, O_total, b_total⟩
  have O_figs : FnOk l.prog w K mg base CX0 10 f_figs _ ["self"] (spFigs C CL CF) := ok_figs F_figs g flowC taskC sidC
  have C_figs : Mth l.prog w K mg base 10 CF "figures" (spFigs C CL CF) := ⟨_, _, _, flowC.c, ⟨a_figs, i_figs, k_figs⟩, O_figs, b_figs⟩
  have O_finit : FnOk l.prog w K mg base CX0 8 f_finit _ ["self", "task"] (spFInit C CL CF) := ok_finit F_finit flowC taskC sysC C_tsys C_tpr C_lineOf C_firm C_pair C_li C_best C_fill
  have C_finit : Mkr l.prog w K mg base 8 "Flow" CF (spFInit C CL CF) := ⟨_, _, _, mkF, O_finit, mF, b_finit⟩
  have O_cf : FnOk l.prog w K mg base CX0 10 f_cf _ ["task"] (spCF C CL CF) := ok_cf F_cf C_bind C_finit
  have C_cf : Cal l.prog w K mg base 10 "checked_flow" (spCF C CL CF) := ⟨_, _, _, O_cf, PySem.W.mg_of X G a_cf, k_cf, b_cf⟩
  have O_lp : FnOk l.prog w K mg base CX0 10 f_lp _ ["task"] (spLP C) := ok_lp F_lp C_contra C_tsys C_bind C_finit C_total
  have C_lp : Cal l.prog w K mg base 10 "least_price" (spLP C) := ⟨_, _, _, O_lp, PySem.W.mg_of X G a_lp, k_lp, b_lp⟩
  have O_ch : FnOk l.prog w K mg base CX0 11 f_ch _ ["task"] (spCh C) := ok_ch F_ch C_cf C_total C_figs
  have C_ch : Cal l.prog w K mg base 11 "cheapest" (spCh C) := ⟨_, _, _, O_ch, PySem.W.mg_of X G a_ch, k_ch, b_ch⟩
  have O_cert : FnOk l.prog w K mg base CX0 11 f_cert _ ["task"] (spCert C) := ok_cert F_cert C_cf C_amounts
  have C_cert : Cal l.prog w K mg base 11 "certificate" (spCert C) := ⟨_, _, _, O_cert, PySem.W.mg_of X G a_cert, k_cert, b_cert⟩
  have O_areA : FnOk l.prog w K mg base CX0 3 f_areA _ ["task", "thing"] (spAreA C) := ok_areA F_areA g taskC sysC C_tsys C_tpr C_isInt C_firm C_pair
  have C_areA : Cal l.prog w K mg base 3 "are_amounts" (spAreA C) := ⟨_, _, _, O_areA, PySem.W.mg_of X G a_areA, k_areA, b_areA⟩
  have O_totOf : FnOk l.prog w K mg base CX0 3 f_totOf _ ["task", "amounts"] (spTotOf C) := ok_totOf F_totOf g taskC sysC C_tsys C_short
  have C_totOf : Cal l.prog w K mg base 3 "total_of" (spTotOf C) := ⟨_, _, _, O_totOf, PySem.W.mg_of X G a_totOf, k_totOf, b_totOf⟩
  have O_tot : FnOk l.prog w K mg base CX0 4 f_tot _ ["task", "amounts"] (spTot C) := ok_tot F_tot C_areA C_totOf
  have C_tot : Cal l.prog w K mg base 4 "total" (spTot C) := ⟨_, _, _, O_tot, PySem.W.mg_of X G a_tot, k_tot, b_tot⟩
  have O_pen : FnOk l.prog w K mg base CX0 1 f_pen _ ["_law_script"] (spPen K) := ok_pen F_pen g
  have C_pen : Cal l.prog w K mg base 1 "_law_pen" (spPen K) := ⟨_, _, _, O_pen, PySem.W.mg_of X G a_pen, k_pen, b_pen⟩
  have O_next : FnOk l.prog w K mg base CX0 1 f_next _ ["_law_pen_here"] spNext := ok_next F_next g
  have C_next : Cal l.prog w K mg base 1 "_law_next" spNext := ⟨_, _, _, O_next, PySem.W.mg_of X G a_next, k_next, b_next⟩
  have O_draw : FnOk l.prog w K mg base CX0 2 f_draw _ ["_law_pen_here", "_law_under"] spDraw := ok_draw F_draw C_next
  have C_draw : Cal l.prog w K mg base 2 "_law_draw" spDraw := ⟨_, _, _, O_draw, PySem.W.mg_of X G a_draw, k_draw, b_draw⟩
  have O_some : FnOk l.prog w K mg base CX0 3 f_some _ ["_law_pen_here", "_law_pool", "_law_most"] spSome := ok_some F_some g C_draw
  have C_some : Cal l.prog w K mg base 3 "_law_some" spSome := ⟨_, _, _, O_some, PySem.W.mg_of X G a_some, k_some, b_some⟩
  have O_at : FnOk l.prog w K mg base CX0 1 f_at _ ["_law_held", "_law_thing"] spAt := ok_at F_at
  have C_at : Cal l.prog w K mg base 1 "_law_at" spAt := ⟨_, _, _, O_at, PySem.W.mg_of X G a_at, k_at, b_at⟩
  have O_lshort : FnOk l.prog w K mg base CX0 2 f_lshort _ ["_law_held", "_law_ask"] spLShort := ok_lshort F_lshort C_at
  have C_lshort : Cal l.prog w K mg base 2 "_law_short" spLShort := ⟨_, _, _, O_lshort, PySem.W.mg_of X G a_lshort, k_lshort, b_lshort⟩
  have O_gaps : FnOk l.prog w K mg base CX0 3 f_gaps _ ["_law_pen_here", "_law_nyms_here", "_law_goals", "_law_most"] spGaps := ok_gaps F_gaps g C_draw C_at
  have C_gaps : Cal l.prog w K mg base 3 "_law_gaps" spGaps := ⟨_, _, _, O_gaps, PySem.W.mg_of X G a_gaps, k_gaps, b_gaps⟩
  have O_deal : FnOk l.prog w K mg base CX0 3 f_deal _ ["_law_pen_here", "_law_nyms_here"] spDeal := ok_deal F_deal g C_draw
  have C_deal : Cal l.prog w K mg base 3 "_law_deal" spDeal := ⟨_, _, _, O_deal, PySem.W.mg_of X G a_deal, k_deal, b_deal⟩
  have O_prices : FnOk l.prog w K mg base CX0 6 f_prices _ ["_law_deal_here"] (spPrices C.CP) := ok_prices F_prices g prC mkP O_prI kb mP C_with
  have C_prices : Cal l.prog w K mg base 6 "_law_prices" (spPrices C.CP) := ⟨_, _, _, O_prices, PySem.W.mg_of X G a_prices, k_prices, b_prices⟩
  have O_there : FnOk l.prog w K mg base CX0 8 f_there _ ["_law_model"] (spThere C.CS) := ok_there F_there g C_sysInit
  have C_there : Cal l.prog w K mg base 8 "_law_there" (spThere C.CS) := ⟨_, _, _, O_there, PySem.W.mg_of X G a_there, k_there, b_there⟩
  have O_task : FnOk l.prog w K mg base CX0 9 f_task _ ["_law_model"] (spTask C) := ok_task F_task C_there C_prices C_tinit
  have C_task : Cal l.prog w K mg base 9 "_law_task" (spTask C) := ⟨_, _, _, O_task, PySem.W.mg_of X G a_task, k_task, b_task⟩
  have O_price : FnOk l.prog w K mg base CX0 1 f_price _ ["_law_model", "_law_held"] spPrice := ok_price F_price g
  have C_price : Cal l.prog w K mg base 1 "_law_price" spPrice := ⟨_, _, _, O_price, PySem.W.mg_of X G a_price, k_price, b_price⟩
  have O_all : FnOk l.prog w K mg base CX0 1 f_all _ ["_law_nyms_here", "_law_low", "_law_tops"] spAll := ok_all F_all g
  have C_all : Cal l.prog w K mg base 1 "_law_all_numbers" spAll := ⟨_, _, _, O_all, PySem.W.mg_of X G a_all, k_all, b_all⟩
  have O_boxed : FnOk l.prog w K mg base CX0 4 f_boxed _ ["_law_pen_here", "_law_most", "_law_many", "_law_tops"] spBoxed := ok_boxed F_boxed g C_some C_draw C_gaps
  have C_boxed : Cal l.prog w K mg base 4 "_law_boxed" spBoxed := ⟨_, _, _, O_boxed, PySem.W.mg_of X G a_boxed, k_boxed, b_boxed⟩
  have O_right : FnOk l.prog w K mg base CX0 12 f_right _ ["_law_model", "_law_low"] spRight := ok_right F_right g C_task C_all C_price C_lshort C_lp C_ch C_tot C_cert
  have C_right : Cal l.prog w K mg base 12 "_law_right" spRight := ⟨_, _, _, O_right, PySem.W.mg_of X G a_right, k_right, b_right⟩
  exact ok_law F_law g C_pen C_boxed C_draw C_right C_deal
end Ws
end
open PySem PySem.W PyProof.Rows
set_option maxHeartbeats 0 in
open_top PySem.Challenge.hd for PySem.Challenge.rw_windowsteps_k71_whole_cheapest_of_all_nu
set_option maxRecDepth 100000 in
set_option maxHeartbeats 0 in
theorem PySem.Challenge.cw_windowsteps_k71_whole_cheapest_of_all_nu_holds : PySem.Challenge.rw_windowsteps_k71_whole_cheapest_of_all_nu.Holds := by
  refine PySem.Challenge.hd ?_
  k_fill
  refine L2.walk_of (l := PySem.Challenge.rw_windowsteps_k71_whole_cheapest_of_all_nu) (n := 63) (k := 13) (x := "_law_script") (CX := fun _ => L2.CX0) (sp := fun w => Ws.spLaw _) rfl (by decide) rfl ⟨rfl, by decide, by decide⟩ (fun w h Y => PySem.W.kIn_of Y) ?F (fun _ _ a ns hl _ hS => ⟨a, ns, rfl, hS, fun _ _ => rfl⟩) (fun _ _ _ _ _ h => h)
  case F =>
    intro w mg fa h KX G hmg
    refine' Ws.all_mk KX G hmg ?aC_S ?pg_S ?hd_S ?po_S ?sa_S ?mk_S ?kc_S ?n_S_settings ?n_S_gaps ?aC_R ?pg_R ?hd_R ?po_R ?sa_R ?mk_R ?kc_R ?n_R_start ?n_R_best ?n_R_last ?aC_L ?pg_L ?hd_L ?po_L ?sa_L ?mk_L ?kc_L ?n_L_ends ?n_L_most ?n_L_profit ?n_L_amount ?aC_F ?pg_F ?hd_F ?po_F ?sa_F ?mk_F ?kc_F ?n_F_task ?n_F_lines ?n_F_spare ?aC_P ?pg_P ?hd_P ?po_P ?sa_P ?mk_P ?kc_P ?n_P_general ?n_P_own ?aC_T ?pg_T ?hd_T ?po_T ?sa_T ?mk_T ?kc_T ?n_T_parts ?n_T_old ?a_isInt ?l_isInt ?c_isInt ?k_isInt ?a_isName ?l_isName ?c_isName ?k_isName ?a_ruleKey ?l_ruleKey ?c_ruleKey ?k_ruleKey ?a_isThing ?l_isThing ?c_isThing ?k_isThing ?rd_isRule ?ga_isRule ?fc_isRule ?rc_isRule ?l_isRule ?c_isRule ?k_isRule ?a_sysInit ?i_sysInit ?l_sysInit ?c_sysInit ?k_sysInit ?a_areN ?l_areN ?c_areN ?k_areN ?a_checkN ?l_checkN ?c_checkN ?k_checkN ?a_numAt ?l_numAt ?c_numAt ?k_numAt ?a_short ?l_short ?c_short ?k_short ?a_contra ?l_contra ?c_contra ?k_contra ?a_cons ?l_cons ?c_cons ?k_cons ?a_rinit ?i_rinit ?l_rinit ?c_rinit ?k_rinit ?a_rules ?i_rules ?l_rules ?c_rules ?k_rules ?a_str ?l_str ?c_str ?k_str ?a_bind ?l_bind ?c_bind ?k_bind ?a_li ?i_li ?l_li ?c_li ?k_li ?a_lsides ?i_lsides ?l_lsides ?c_lsides ?k_lsides ?a_finit ?i_finit ?l_finit ?c_finit ?k_finit ?a_lineOf ?i_lineOf ?l_lineOf ?c_lineOf ?k_lineOf ?a_fsides ?i_fsides ?l_fsides ?c_fsides ?k_fsides ?a_best ?i_best ?l_best ?c_best ?k_best ?a_relax ?i_relax ?l_relax ?c_relax ?k_relax ?a_wayTo ?i_wayTo ?l_wayTo ?c_wayTo ?k_wayTo ?a_fill ?i_fill ?l_fill ?c_fill ?k_fill ?a_amounts ?i_amounts ?l_amounts ?c_amounts ?k_amounts ?a_total ?i_total ?l_total ?c_total ?k_total ?a_figs ?i_figs ?l_figs ?c_figs ?k_figs ?a_cf ?l_cf ?c_cf ?k_cf ?a_lp ?l_lp ?c_lp ?k_lp ?a_ch ?l_ch ?c_ch ?k_ch ?a_areA ?l_areA ?c_areA ?k_areA ?a_totOf ?l_totOf ?c_totOf ?k_totOf ?a_tot ?l_tot ?c_tot ?k_tot ?a_cert ?l_cert ?c_cert ?k_cert ?a_isPrice ?l_isPrice ?c_isPrice ?k_isPrice ?a_prI ?i_prI ?l_prI ?c_prI ?k_prI ?a_with ?i_with ?l_with ?c_with ?k_with ?a_fixed ?i_fixed ?l_fixed ?c_fixed ?k_fixed ?a_pair ?i_pair ?l_pair ?c_pair ?k_pair ?a_tinit ?i_tinit ?l_tinit ?c_tinit ?k_tinit ?a_tsys ?ge_tsys ?tk_tsys ?rc_tsys ?l_tsys ?c_tsys ?k_tsys ?a_tpr ?ge_tpr ?tk_tpr ?rc_tpr ?l_tpr ?c_tpr ?k_tpr ?a_firm ?i_firm ?l_firm ?c_firm ?k_firm ?a_pen ?l_pen ?c_pen ?k_pen ?a_next ?l_next ?c_next ?k_next ?a_draw ?l_draw ?c_draw ?k_draw ?a_some ?l_some ?c_some ?k_some ?a_at ?l_at ?c_at ?k_at ?a_gaps ?l_gaps ?c_gaps ?k_gaps ?a_lshort ?l_lshort ?c_lshort ?k_lshort ?a_deal ?l_deal ?c_deal ?k_deal ?a_prices ?l_prices ?c_prices ?k_prices ?a_there ?l_there ?c_there ?k_there ?a_task ?l_task ?c_task ?k_task ?a_price ?l_price ?c_price ?k_price ?a_boxed ?l_boxed ?c_boxed ?k_boxed ?a_all ?l_all ?c_all ?k_all ?a_right ?l_right ?c_right ?k_right ?a_law ?l_law ?c_law ?k_law ?z_isinstance ?z_int ?z_bool ?z_str ?z_list ?z_tuple ?z_dict ?z_set ?z_len ?z_all ?z_sorted ?z_range ?z_zip ?z_sum ?z_min ?z_max ?z_repr ?z_abs ?z_LETTERS ?z_MAX_NAME ?z_MAX_GAP ?z_MAX_NUMBER ?z_LARGEST ?z_MAX_PRICE
    (case aC_S => k_is)
    (case pg_S => k_is)
    (case hd_S => k_is)
    (case po_S => k_is)
    (case sa_S => k_is)
    (case mk_S => k_is)
    (case kc_S => k_is)
    (case n_S_settings => k_is)
    (case n_S_gaps => k_is)
    (case aC_R => k_is)
    (case pg_R => k_is)
    (case hd_R => k_is)
    (case po_R => k_is)
    (case sa_R => k_is)
    (case mk_R => k_is)
    (case kc_R => k_is)
    (case n_R_start => k_is)
    (case n_R_best => k_is)
    (case n_R_last => k_is)
    (case aC_L => k_is)
    (case pg_L => k_is)
    (case hd_L => k_is)
    (case po_L => k_is)
    (case sa_L => k_is)
    (case mk_L => k_is)
    (case kc_L => k_is)
    (case n_L_ends => k_is)
    (case n_L_most => k_is)
    (case n_L_profit => k_is)
    (case n_L_amount => k_is)
    (case aC_F => k_is)
    (case pg_F => k_is)
    (case hd_F => k_is)
    (case po_F => k_is)
    (case sa_F => k_is)
    (case mk_F => k_is)
    (case kc_F => k_is)
    (case n_F_task => k_is)
    (case n_F_lines => k_is)
    (case n_F_spare => k_is)
    (case aC_P => k_is)
    (case pg_P => k_is)
    (case hd_P => k_is)
    (case po_P => k_is)
    (case sa_P => k_is)
    (case mk_P => k_is)
    (case kc_P => k_is)
    (case n_P_general => k_is)
    (case n_P_own => k_is)
    (case aC_T => k_is)
    (case pg_T => k_is)
    (case hd_T => k_is)
    (case po_T => k_is)
    (case sa_T => k_is)
    (case mk_T => k_is)
    (case kc_T => k_is)
    (case n_T_parts => k_is)
    (case n_T_old => k_is)
    (case a_isInt => k_is)
    (case l_isInt => k_is)
    (case c_isInt => k_is)
    (case k_isInt => k_is)
    (case a_isName => k_is)
    (case l_isName => k_is)
    (case c_isName => k_is)
    (case k_isName => k_is)
    (case a_ruleKey => k_is)
    (case l_ruleKey => k_is)
    (case c_ruleKey => k_is)
    (case k_ruleKey => k_is)
    (case a_isThing => k_is)
    (case l_isThing => k_is)
    (case c_isThing => k_is)
    (case k_isThing => k_is)
    (case rd_isRule => k_is)
    (case ga_isRule => k_is)
    (case fc_isRule => k_is)
    (case rc_isRule => k_is)
    (case l_isRule => k_is)
    (case c_isRule => k_is)
    (case k_isRule => k_is)
    (case a_sysInit => k_is)
    (case i_sysInit => k_is)
    (case l_sysInit => k_is)
    (case c_sysInit => k_is)
    (case k_sysInit => k_is)
    (case a_areN => k_is)
    (case l_areN => k_is)
    (case c_areN => k_is)
    (case k_areN => k_is)
    (case a_checkN => k_is)
    (case l_checkN => k_is)
    (case c_checkN => k_is)
    (case k_checkN => k_is)
    (case a_numAt => k_is)
    (case l_numAt => k_is)
    (case c_numAt => k_is)
    (case k_numAt => k_is)
    (case a_short => k_is)
    (case l_short => k_is)
    (case c_short => k_is)
    (case k_short => k_is)
    (case a_contra => k_is)
    (case l_contra => k_is)
    (case c_contra => k_is)
    (case k_contra => k_is)
    (case a_cons => k_is)
    (case l_cons => k_is)
    (case c_cons => k_is)
    (case k_cons => k_is)
    (case a_rinit => k_is)
    (case i_rinit => k_is)
    (case l_rinit => k_is)
    (case c_rinit => k_is)
    (case k_rinit => k_is)
    (case a_rules => k_is)
    (case i_rules => k_is)
    (case l_rules => k_is)
    (case c_rules => k_is)
    (case k_rules => k_is)
    (case a_str => k_is)
    (case l_str => k_is)
    (case c_str => k_is)
    (case k_str => k_is)
    (case a_bind => k_is)
    (case l_bind => k_is)
    (case c_bind => k_is)
    (case k_bind => k_is)
    (case a_li => k_is)
    (case i_li => k_is)
    (case l_li => k_is)
    (case c_li => k_is)
    (case k_li => k_is)
    (case a_lsides => k_is)
    (case i_lsides => k_is)
    (case l_lsides => k_is)
    (case c_lsides => k_is)
    (case k_lsides => k_is)
    (case a_finit => k_is)
    (case i_finit => k_is)
    (case l_finit => k_is)
    (case c_finit => k_is)
    (case k_finit => k_is)
    (case a_lineOf => k_is)
    (case i_lineOf => k_is)
    (case l_lineOf => k_is)
    (case c_lineOf => k_is)
    (case k_lineOf => k_is)
    (case a_fsides => k_is)
    (case i_fsides => k_is)
    (case l_fsides => k_is)
    (case c_fsides => k_is)
    (case k_fsides => k_is)
    (case a_best => k_is)
    (case i_best => k_is)
    (case l_best => k_is)
    (case c_best => k_is)
    (case k_best => k_is)
    (case a_relax => k_is)
    (case i_relax => k_is)
    (case l_relax => k_is)
    (case c_relax => k_is)
    (case k_relax => k_is)
    (case a_wayTo => k_is)
    (case i_wayTo => k_is)
    (case l_wayTo => k_is)
    (case c_wayTo => k_is)
    (case k_wayTo => k_is)
    (case a_fill => k_is)
    (case i_fill => k_is)
    (case l_fill => k_is)
    (case c_fill => k_is)
    (case k_fill => k_is)
    (case a_amounts => k_is)
    (case i_amounts => k_is)
    (case l_amounts => k_is)
    (case c_amounts => k_is)
    (case k_amounts => k_is)
    (case a_total => k_is)
    (case i_total => k_is)
    (case l_total => k_is)
    (case c_total => k_is)
    (case k_total => k_is)
    (case a_figs => k_is)
    (case i_figs => k_is)
    (case l_figs => k_is)
    (case c_figs => k_is)
    (case k_figs => k_is)
    (case a_cf => k_is)
    (case l_cf => k_is)
    (case c_cf => k_is)
    (case k_cf => k_is)
    (case a_lp => k_is)
    (case l_lp => k_is)
    (case c_lp => k_is)
    (case k_lp => k_is)
    (case a_ch => k_is)
    (case l_ch => k_is)
    (case c_ch => k_is)
    (case k_ch => k_is)
    (case a_areA => k_is)
    (case l_areA => k_is)
    (case c_areA => k_is)
    (case k_areA => k_is)
    (case a_totOf => k_is)
    (case l_totOf => k_is)
    (case c_totOf => k_is)
    (case k_totOf => k_is)
    (case a_tot => k_is)
    (case l_tot => k_is)
    (case c_tot => k_is)
    (case k_tot => k_is)
    (case a_cert => k_is)
    (case l_cert => k_is)
    (case c_cert => k_is)
    (case k_cert => k_is)
    (case a_isPrice => k_is)
    (case l_isPrice => k_is)
    (case c_isPrice => k_is)
    (case k_isPrice => k_is)
    (case a_prI => k_is)
    (case i_prI => k_is)
    (case l_prI => k_is)
    (case c_prI => k_is)
    (case k_prI => k_is)
    (case a_with => k_is)
    (case i_with => k_is)
    (case l_with => k_is)
    (case c_with => k_is)
    (case k_with => k_is)
    (case a_fixed => k_is)
    (case i_fixed => k_is)
    (case l_fixed => k_is)
    (case c_fixed => k_is)
    (case k_fixed => k_is)
    (case a_pair => k_is)
    (case i_pair => k_is)
    (case l_pair => k_is)
    (case c_pair => k_is)
    (case k_pair => k_is)
    (case a_tinit => k_is)
    (case i_tinit => k_is)
    (case l_tinit => k_is)
    (case c_tinit => k_is)
    (case k_tinit => k_is)
    (case a_tsys => k_is)
    (case ge_tsys => k_is)
    (case tk_tsys => k_is)
    (case rc_tsys => k_is)
    (case l_tsys => k_is)
    (case c_tsys => k_is)
    (case k_tsys => k_is)
    (case a_tpr => k_is)
    (case ge_tpr => k_is)
    (case tk_tpr => k_is)
    (case rc_tpr => k_is)
    (case l_tpr => k_is)
    (case c_tpr => k_is)
    (case k_tpr => k_is)
    (case a_firm => k_is)
    (case i_firm => k_is)
    (case l_firm => k_is)
    (case c_firm => k_is)
    (case k_firm => k_is)
    (case a_pen => k_is)
    (case l_pen => k_is)
    (case c_pen => k_is)
    (case k_pen => k_is)
    (case a_next => k_is)
    (case l_next => k_is)
    (case c_next => k_is)
    (case k_next => k_is)
    (case a_draw => k_is)
    (case l_draw => k_is)
    (case c_draw => k_is)
    (case k_draw => k_is)
    (case a_some => k_is)
    (case l_some => k_is)
    (case c_some => k_is)
    (case k_some => k_is)
    (case a_at => k_is)
    (case l_at => k_is)
    (case c_at => k_is)
    (case k_at => k_is)
    (case a_gaps => k_is)
    (case l_gaps => k_is)
    (case c_gaps => k_is)
    (case k_gaps => k_is)
    (case a_lshort => k_is)
    (case l_lshort => k_is)
    (case c_lshort => k_is)
    (case k_lshort => k_is)
    (case a_deal => k_is)
    (case l_deal => k_is)
    (case c_deal => k_is)
    (case k_deal => k_is)
    (case a_prices => k_is)
    (case l_prices => k_is)
    (case c_prices => k_is)
    (case k_prices => k_is)
    (case a_there => k_is)
    (case l_there => k_is)
    (case c_there => k_is)
    (case k_there => k_is)
    (case a_task => k_is)
    (case l_task => k_is)
    (case c_task => k_is)
    (case k_task => k_is)
    (case a_price => k_is)
    (case l_price => k_is)
    (case c_price => k_is)
    (case k_price => k_is)
    (case a_boxed => k_is)
    (case l_boxed => k_is)
    (case c_boxed => k_is)
    (case k_boxed => k_is)
    (case a_all => k_is)
    (case l_all => k_is)
    (case c_all => k_is)
    (case k_all => k_is)
    (case a_right => k_is)
    (case l_right => k_is)
    (case c_right => k_is)
    (case k_right => k_is)
    (case a_law => k_is)
    (case l_law => k_is)
    (case c_law => k_is)
    (case k_law => k_is)
    (case z_isinstance => k_is)
    (case z_int => k_is)
    (case z_bool => k_is)
    (case z_str => k_is)
    (case z_list => k_is)
    (case z_tuple => k_is)
    (case z_dict => k_is)
    (case z_set => k_is)
    (case z_len => k_is)
    (case z_all => k_is)
    (case z_sorted => k_is)
    (case z_range => k_is)
    (case z_zip => k_is)
    (case z_sum => k_is)
    (case z_min => k_is)
    (case z_max => k_is)
    (case z_repr => k_is)
    (case z_abs => k_is)
    (case z_LETTERS => k_is)
    (case z_MAX_NAME => k_is)
    (case z_MAX_GAP => k_is)
    (case z_MAX_NUMBER => k_is)
    (case z_LARGEST => k_is)
    (case z_MAX_PRICE => k_is)
