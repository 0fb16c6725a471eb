import PyProof.Rows.All
import Wide.All
import OpenK.AllK
import Wide.FinOn
import HandS.ForMost
import HandS.More
import HandS.Walk
import HandS.Zip
import HandS.SetFor
import HandS.Strs
import HandS.Conv
import HandS.TupAny
import HandS.TupMul
import HandS.DeepEq
import HandS.DictComp
import HandS.Finally
import HandS.IsInst
import KE.GoesEnum
import KE.SortData
import PySem.Challenge.RW_rowlaid_k47_whole_finished_alike
set_option Elab.async false
set_option linter.all false
set_option maxRecDepth 100000
set_option maxHeartbeats 4000000
/-! The plain law: deals, boards, laid deals, rows, houses; no program in sight. Core Lean alone. -/
namespace RL

/-! ### terms and places as one type -/
inductive Op where | sum | less | under | same
  deriving DecidableEq
inductive T where
  | num (c : Int) | look (p : T) | two (o : Op) (a b : T) | key (k : Int) | via (t : T)

def opv : Op → Int → Int → Int
  | .sum, a, b => (a + b) % 1000000
  | .less, a, b => (a - b) % 1000000
  | .under, a, b => if a < b then 1 else 0
  | .same, a, b => if a = b then 1 else 0
/-- a term's worth, a place's key -/
def ev (bd : List Int) : T → Int
  | .num c => c
  | .look p => bd.getD (ev bd p).toNat 0
  | .two o a b => opv o (ev bd a) (ev bd b)
  | .key k => k
  | .via t => ev bd t % (bd.length : Int)
/-- the keys looked at, in order -/
def lk (bd : List Int) : T → List Int
  | .num _ => []
  | .look p => lk bd p ++ [ev bd p]
  | .two _ a b => lk bd a ++ lk bd b
  | .key _ => []
  | .via t => lk bd t
def siz : T → Nat
  | .num _ => 1
  | .look p => siz p + 1
  | .two _ a b => siz a + siz b + 1
  | .key _ => 1
  | .via t => siz t + 1
def dep : T → Nat
  | .num _ => 1
  | .look p => dep p + 1
  | .two _ a b => max (dep a) (dep b) + 1
  | .key _ => 1
  | .via t => dep t + 1
/-- well made: a term (true), a place (false), its worths worths, its keys below n -/
def wf (n : Int) : Bool → T → Prop
  | true, .num c => 0 ≤ c ∧ c ≤ 999999
  | true, .look p => wf n false p
  | true, .two _ a b => wf n true a ∧ wf n true b
  | false, .key k => 0 ≤ k ∧ k < n
  | false, .via t => wf n true t
  | _, _ => False
theorem siz_pos : ∀ t : T, 1 ≤ siz t
  | .num _ => Nat.le_refl _
  | .look _ => Nat.le_add_left _ _
  | .two _ _ _ => Nat.le_add_left _ _
  | .key _ => Nat.le_refl _
  | .via _ => Nat.le_add_left _ _
theorem lk_len (bd : List Int) : ∀ t : T, (lk bd t).length ≤ siz t
  | .num _ => by simp [lk]
  | .look p => by have h := lk_len bd p; simp only [lk, siz, List.length_append, List.length_singleton]; omega
  | .two _ a b => by
    have h := lk_len bd a
    have h' := lk_len bd b
    simp only [lk, siz, List.length_append]
    omega
  | .key _ => by simp [lk]
  | .via t => by have h := lk_len bd t; simp only [lk, siz]; omega
/-- a place's key is one of the board's keys -/
theorem ev_key {bd : List Int} {n : Int} (hn : (bd.length : Int) = n) (h0 : 0 < n) : ∀ p : T, wf n false p → 0 ≤ ev bd p ∧ ev bd p < n
  | .key k, h => h
  | .via t, _ => by
    show 0 ≤ ev bd t % (bd.length : Int) ∧ ev bd t % (bd.length : Int) < n
    rw [hn]
    exact ⟨Int.emod_nonneg _ (by omega), Int.emod_lt_of_pos _ h0⟩
  | .num _, h => h.elim
  | .look _, h => h.elim
  | .two _ _ _, h => h.elim
/-- all looks are at the board's keys -/
theorem lk_keys {bd : List Int} {n : Int} (hn : (bd.length : Int) = n) (h0 : 0 < n) : ∀ (b : Bool) (t : T), wf n b t → ∀ k ∈ lk bd t, 0 ≤ k ∧ k < n
  | true, .num _, _ => fun k hk => by simp [lk] at hk
  | true, .look p, h => fun k hk => by
    simp only [lk, List.mem_append, List.mem_singleton] at hk
    rcases hk with hk | rfl
    · exact lk_keys hn h0 false p h k hk
    · exact ev_key hn h0 p h
  | true, .two _ a b, h => fun k hk => by
    simp only [lk, List.mem_append] at hk
    rcases hk with hk | hk
    · exact lk_keys hn h0 true a h.1 k hk
    · exact lk_keys hn h0 true b h.2 k hk
  | false, .key _, _ => fun k hk => by simp [lk] at hk
  | false, .via t, h => fun k hk => lk_keys hn h0 true t h k hk
  | false, .num _, h => h.elim
  | false, .look _, h => h.elim
  | false, .two _ _ _, h => h.elim
  | true, .key _, h => h.elim
  | true, .via _, h => h.elim

/-! ### steps and deals -/
inductive S where
  | put (p t : T) | iff (c p t : T) | need (t : T) | tell (t : T)
def S.wf (n : Int) : S → Prop
  | .put p t => RL.wf n false p ∧ RL.wf n true t
  | .iff c p t => RL.wf n true c ∧ RL.wf n false p ∧ RL.wf n true t
  | .need t => RL.wf n true t
  | .tell t => RL.wf n true t
def S.parts : S → List T
  | .put p t => [p, t]
  | .iff c p t => [c, p, t]
  | .need t => [t]
  | .tell t => [t]
/-- what a deal that is being done has -/
structure D where
  here : List Int
  looks : List Int
  puts : List Int
  told : List Int
  stop : Option Nat
def putD (p t : T) (d : D) : D :=
  { d with here := d.here.set (ev d.here p).toNat (ev d.here t), looks := d.looks ++ (lk d.here p ++ lk d.here t), puts := d.puts ++ [ev d.here p] }
def stepD (n : Nat) : S → D → D
  | .put p t, d => putD p t d
  | .iff c p t, d => if ev d.here c = 0 then { d with looks := d.looks ++ lk d.here c } else putD p t { d with looks := d.looks ++ lk d.here c }
  | .need t, d => { d with looks := d.looks ++ lk d.here t, stop := if ev d.here t = 0 then some n else d.stop }
  | .tell t, d => { d with looks := d.looks ++ lk d.here t, told := d.told ++ [ev d.here t] }
/-- one step, where nothing stopped it -/
def oneD (n : Nat) (s : S) (d : D) : D := if d.stop = none then stepD n s d else d
def runD : Nat → List S → D → D
  | _, [], d => d
  | n, s :: r, d => runD (n + 1) r (oneD n s d)
def newD (b : List Int) : D := ⟨b, [], [], [], none⟩
inductive A where
  | nothing (n : Nat) | done (l : List Int) | strange
  deriving DecidableEq
/-- (board, answer, looks, puts) -/
def outD (b : List Int) (d : D) : List Int × A × List Int × List Int :=
  match d.stop with
  | some n => (b, .nothing n, d.looks, [])
  | none => (d.here, .done d.told, d.looks, d.puts)
def gn (ds : List S) (b : List Int) : List Int × A × List Int × List Int := outD b (runD 0 ds (newD b))
theorem runD_stop : ∀ (r : List S) (n : Nat) (d : D), d.stop ≠ none → runD n r d = d
  | [], _, _, _ => rfl
  | s :: r, n, d, h => by
    show runD (n + 1) r (oneD n s d) = d
    rw [oneD, if_neg h]
    exact runD_stop r (n + 1) d h
theorem runD_snoc : ∀ (r : List S) (n : Nat) (s : S) (d : D), runD n (r ++ [s]) d = oneD (n + r.length) s (runD n r d)
  | [], n, s, d => rfl
  | q :: r, n, s, d => by
    show runD (n + 1) (r ++ [s]) (oneD n q d) = _
    rw [runD_snoc r (n + 1) s (oneD n q d)]
    show oneD (n + 1 + r.length) s (runD (n + 1) r (oneD n q d)) = oneD (n + (r.length + 1)) s (runD (n + 1) r (oneD n q d))
    rw [Nat.add_assoc, Nat.add_comm 1]
theorem oneD_len (n : Nat) (s : S) (d : D) : (oneD n s d).here.length = d.here.length := by
  unfold oneD
  split
  · cases s with
    | put p t => simp [stepD, putD]
    | iff c p t => simp only [stepD]; split <;> simp [putD]
    | need t => rfl
    | tell t => rfl
  · rfl
theorem runD_len : ∀ (r : List S) (n : Nat) (d : D), (runD n r d).here.length = d.here.length
  | [], _, _ => rfl
  | s :: r, n, d => by
    show (runD (n + 1) r (oneD n s d)).here.length = _
    rw [runD_len r, oneD_len]
theorem gn_len (ds : List S) (b : List Int) : (gn ds b).1.length = b.length := by
  unfold gn outD
  split
  · rfl
  · exact runD_len ds 0 (newD b)

/-- keys of all looks and puts are keys -/
def Dok (n : Int) (d : D) : Prop := (d.here.length : Int) = n ∧ (∀ k ∈ d.looks, 0 ≤ k ∧ k < n) ∧ (∀ k ∈ d.puts, 0 ≤ k ∧ k < n)
theorem Dok.one {n : Int} (h0 : 0 < n) {m : Nat} {s : S} {d : D} (hs : s.wf n) (h : Dok n d) : Dok n (oneD m s d) := by
  obtain ⟨h1, h2, h3⟩ := h
  refine ⟨by rw [oneD_len]; exact h1, ?_, ?_⟩
  · unfold oneD
    split
    · cases s with
      | put p t =>
        intro k hk
        simp only [stepD, putD, List.mem_append] at hk
        rcases hk with hk | hk | hk
        · exact h2 k hk
        · exact lk_keys h1 h0 false p hs.1 k hk
        · exact lk_keys h1 h0 true t hs.2 k hk
      | iff c p t =>
        intro k hk
        simp only [stepD] at hk
        split at hk
        · simp only [List.mem_append] at hk
          rcases hk with hk | hk
          · exact h2 k hk
          · exact lk_keys h1 h0 true c hs.1 k hk
        · simp only [putD, List.mem_append] at hk
          rcases hk with (hk | hk) | hk | hk
          · exact h2 k hk
          · exact lk_keys h1 h0 true c hs.1 k hk
          · exact lk_keys h1 h0 false p hs.2.1 k hk
          · exact lk_keys h1 h0 true t hs.2.2 k hk
      | need t =>
        intro k hk
        simp only [stepD, List.mem_append] at hk
        rcases hk with hk | hk
        · exact h2 k hk
        · exact lk_keys h1 h0 true t hs k hk
      | tell t =>
        intro k hk
        simp only [stepD, List.mem_append] at hk
        rcases hk with hk | hk
        · exact h2 k hk
        · exact lk_keys h1 h0 true t hs k hk
    · exact h2
  · unfold oneD
    split
    · cases s with
      | put p t =>
        intro k hk
        simp only [stepD, putD, List.mem_append, List.mem_singleton] at hk
        rcases hk with hk | rfl
        · exact h3 k hk
        · exact ev_key h1 h0 p hs.1
      | iff c p t =>
        intro k hk
        simp only [stepD] at hk
        split at hk
        · exact h3 k hk
        · simp only [putD, List.mem_append, List.mem_singleton] at hk
          rcases hk with hk | rfl
          · exact h3 k hk
          · exact ev_key h1 h0 p hs.2.1
      | need t => exact h3
      | tell t => exact h3
    · exact h3
theorem Dok.run {n : Int} (h0 : 0 < n) : ∀ (r : List S) (m : Nat) (d : D), (∀ s ∈ r, s.wf n) → Dok n d → Dok n (runD m r d)
  | [], _, _, _, h => h
  | s :: r, m, d, hs, h => Dok.run h0 r (m + 1) (oneD m s d) (fun q hq => hs q (List.mem_cons_of_mem _ hq)) (Dok.one h0 (hs s List.mem_cons_self) h)
theorem Dok.new {n : Int} {b : List Int} (h : (b.length : Int) = n) : Dok n (newD b) :=
  ⟨h, fun k hk => by simp [newD] at hk, fun k hk => by simp [newD] at hk⟩

/-! ### two boards that agree at some keys -/
def Agree (ks : List Int) (b c : List Int) : Prop := b.length = c.length ∧ ∀ k ∈ ks, b.getD k.toNat 0 = c.getD k.toNat 0
theorem Agree.refl (ks b : List Int) : Agree ks b b := ⟨rfl, fun _ _ => rfl⟩
theorem Agree.symm {ks b c : List Int} (h : Agree ks b c) : Agree ks c b := ⟨h.1.symm, fun k hk => (h.2 k hk).symm⟩
theorem getD_set (b : List Int) (i j : Nat) (v : Int) : (b.set i v).getD j 0 = if i = j ∧ i < b.length then v else b.getD j 0 := by
  rw [List.getD_eq_getElem?_getD, List.getD_eq_getElem?_getD, List.getElem?_set]
  by_cases h : i = j
  · subst h
    by_cases h2 : i < b.length
    · simp [h2]
    · simp [h2]
  · simp [h]
theorem Agree.set {ks b c : List Int} (h : Agree ks b c) (i : Nat) (v : Int) : Agree ks (b.set i v) (c.set i v) := by
  refine ⟨by simp [h.1], fun k hk => ?_⟩
  rw [getD_set, getD_set, h.1, h.2 k hk]
theorem ev_agree {ks b c : List Int} (h : Agree ks b c) : ∀ t : T, (∀ k ∈ lk b t, k ∈ ks) → ev b t = ev c t ∧ lk b t = lk c t
  | .num _, _ => ⟨rfl, rfl⟩
  | .key _, _ => ⟨rfl, rfl⟩
  | .look p, hk => by
    have hp := ev_agree h p fun k q => hk k (by simp [lk, q])
    have hm : ev b p ∈ ks := hk _ (by simp [lk])
    refine ⟨?_, ?_⟩
    · show b.getD (ev b p).toNat 0 = c.getD (ev c p).toNat 0
      rw [← hp.1]
      exact h.2 _ hm
    · show lk b p ++ [ev b p] = lk c p ++ [ev c p]
      rw [hp.1, hp.2]
  | .two o x y, hk => by
    have hx := ev_agree h x fun k q => hk k (by simp [lk, q])
    have hy := ev_agree h y fun k q => hk k (by simp [lk, q])
    refine ⟨?_, ?_⟩
    · show opv o (ev b x) (ev b y) = opv o (ev c x) (ev c y)
      rw [hx.1, hy.1]
    · show lk b x ++ lk b y = lk c x ++ lk c y
      rw [hx.2, hy.2]
  | .via t, hk => by
    have ht := ev_agree h t hk
    refine ⟨?_, ht.2⟩
    show ev b t % (b.length : Int) = ev c t % (c.length : Int)
    rw [ht.1, h.1]
/-- two doings that agree -/
def DAgree (ks : List Int) (d e : D) : Prop := Agree ks d.here e.here ∧ d.looks = e.looks ∧ d.puts = e.puts ∧ d.told = e.told ∧ d.stop = e.stop
theorem looks_one (n : Nat) (s : S) (d : D) : ∃ l, (oneD n s d).looks = d.looks ++ l := by
  unfold oneD
  split
  · cases s with
    | put p t => exact ⟨_, rfl⟩
    | iff c p t =>
      simp only [stepD]
      split
      · exact ⟨_, rfl⟩
      · exact ⟨lk d.here c ++ (lk d.here p ++ lk d.here t), by simp [putD]⟩
    | need t => exact ⟨_, rfl⟩
    | tell t => exact ⟨_, rfl⟩
  · exact ⟨[], by simp⟩
theorem looks_run : ∀ (r : List S) (n : Nat) (d : D), ∃ l, (runD n r d).looks = d.looks ++ l
  | [], _, d => ⟨[], by simp [runD]⟩
  | s :: r, n, d => by
    obtain ⟨l1, e1⟩ := looks_one n s d
    obtain ⟨l2, e2⟩ := looks_run r (n + 1) (oneD n s d)
    exact ⟨l1 ++ l2, by show (runD (n + 1) r (oneD n s d)).looks = _; rw [e2, e1, List.append_assoc]⟩
theorem put_agree {ks : List Int} {p t : T} {d e : D} (h : DAgree ks d e) (hl : ∀ k ∈ (putD p t d).looks, k ∈ ks) : DAgree ks (putD p t d) (putD p t e) := by
  obtain ⟨h1, h2, h3, h4, h5⟩ := h
  have hp := ev_agree h1 p fun k q => hl k (by simp [putD, q])
  have ht := ev_agree h1 t fun k q => hl k (by simp [putD, q])
  refine ⟨?_, ?_, ?_, h4, h5⟩
  · show Agree ks (d.here.set (ev d.here p).toNat (ev d.here t)) (e.here.set (ev e.here p).toNat (ev e.here t))
    rw [← hp.1, ← ht.1]
    exact h1.set _ _
  · show d.looks ++ (lk d.here p ++ lk d.here t) = e.looks ++ (lk e.here p ++ lk e.here t)
    rw [h2, hp.2, ht.2]
  · show d.puts ++ [ev d.here p] = e.puts ++ [ev e.here p]
    rw [h3, hp.1]
theorem one_agree {ks : List Int} {n : Nat} {s : S} {d e : D} (h : DAgree ks d e) (hl : ∀ k ∈ (oneD n s d).looks, k ∈ ks) : DAgree ks (oneD n s d) (oneD n s e) := by
  unfold oneD at hl ⊢
  rw [← h.2.2.2.2]
  split
  · rename_i hs
    rw [if_pos hs] at hl
    obtain ⟨h1, h2, h3, h4, h5⟩ := id h
    cases s with
    | put p t => exact put_agree h hl
    | iff c p t =>
      have hc := ev_agree h1 c fun k q => hl k (by
        simp only [stepD]
        split
        · simp [q]
        · simp [putD, q])
      have h' : DAgree ks { d with looks := d.looks ++ lk d.here c } { e with looks := e.looks ++ lk e.here c } := ⟨h1, by show d.looks ++ lk d.here c = e.looks ++ lk e.here c; rw [h2, hc.2], h3, h4, h5⟩
      simp only [stepD] at hl ⊢
      rw [← hc.1]
      split
      · rw [hc.2] at h' ⊢
        exact h'
      · rename_i hz
        rw [if_neg hz] at hl
        exact put_agree h' hl
    | need t =>
      have ht := ev_agree h1 t fun k q => hl k (by simp [stepD, q])
      refine ⟨h1, ?_, h3, h4, ?_⟩
      · show d.looks ++ lk d.here t = e.looks ++ lk e.here t
        rw [h2, ht.2]
      · show (if ev d.here t = 0 then some n else d.stop) = (if ev e.here t = 0 then some n else e.stop)
        rw [ht.1, h5]
    | tell t =>
      have ht := ev_agree h1 t fun k q => hl k (by simp [stepD, q])
      refine ⟨h1, ?_, h3, ?_, h5⟩
      · show d.looks ++ lk d.here t = e.looks ++ lk e.here t
        rw [h2, ht.2]
      · show d.told ++ [ev d.here t] = e.told ++ [ev e.here t]
        rw [h4, ht.1]
  · exact h
theorem run_agree {ks : List Int} : ∀ (r : List S) (n : Nat) (d e : D), DAgree ks d e → (∀ k ∈ (runD n r d).looks, k ∈ ks) → DAgree ks (runD n r d) (runD n r e)
  | [], _, _, _, h, _ => h
  | s :: r, n, d, e, h, hl => by
    refine run_agree r (n + 1) _ _ (one_agree h fun k q => ?_) hl
    obtain ⟨l, el⟩ := looks_run r (n + 1) (oneD n s d)
    exact hl k (by show k ∈ (runD (n + 1) r (oneD n s d)).looks; rw [el]; exact List.mem_append_left _ q)
theorem gn_agree {ks b c : List Int} (ds : List S) (h : Agree ks b c) (hl : ∀ k ∈ (gn ds b).2.2.1, k ∈ ks) :
    (gn ds b).2 = (gn ds c).2 ∧ Agree ks (gn ds b).1 (gn ds c).1 := by
  have hr := run_agree ds 0 (newD b) (newD c) ⟨h, rfl, rfl, rfl, rfl⟩ (by
    have : (gn ds b).2.2.1 = (runD 0 ds (newD b)).looks := by unfold gn outD; split <;> rfl
    rw [this] at hl
    exact hl)
  obtain ⟨h1, h2, h3, h4, h5⟩ := hr
  unfold gn outD
  rw [← h5]
  split
  · exact ⟨by rw [h2], h⟩
  · exact ⟨by rw [h2, h3, h4], h1⟩

/-! ### laid deals -/
abbrev Laid := List S × List Int
def inAll (ks : List Int) (l : List Int) : Bool := l.all fun k => decide (k ∈ ks)
def dl (l : Laid) (b : List Int) : List Int × A :=
  if inAll l.2 ((gn l.1 b).2.2.1 ++ (gn l.1 b).2.2.2) = true then ((gn l.1 b).1, (gn l.1 b).2.1) else (b, .strange)
theorem inAll_iff {ks l : List Int} : inAll ks l = true ↔ ∀ k ∈ l, k ∈ ks := by
  unfold inAll
  rw [List.all_eq_true]
  exact ⟨fun h k hk => of_decide_eq_true (h k hk), fun h k hk => decide_eq_true (h k hk)⟩
theorem dl_len (l : Laid) (b : List Int) : (dl l b).1.length = b.length := by
  unfold dl
  split
  · exact gn_len _ _
  · rfl
/-- done on two boards that agree at its keys: the same answer, boards that agree there -/
theorem dl_agree {l : Laid} {b c : List Int} (h : Agree l.2 b c) : (dl l b).2 = (dl l c).2 ∧ Agree l.2 (dl l b).1 (dl l c).1 := by
  have go : ∀ {b c : List Int}, Agree l.2 b c → inAll l.2 ((gn l.1 b).2.2.1 ++ (gn l.1 b).2.2.2) = true → inAll l.2 ((gn l.1 c).2.2.1 ++ (gn l.1 c).2.2.2) = true ∧ (gn l.1 b).2 = (gn l.1 c).2 ∧ Agree l.2 (gn l.1 b).1 (gn l.1 c).1 := by
    intro b c h hb
    have g := gn_agree l.1 h fun k hk => inAll_iff.mp hb k (List.mem_append_left _ hk)
    exact ⟨by rw [← g.1]; exact hb, g⟩
  unfold dl
  by_cases hb : inAll l.2 ((gn l.1 b).2.2.1 ++ (gn l.1 b).2.2.2) = true
  · obtain ⟨hc, g1, g2⟩ := go h hb
    rw [if_pos hb, if_pos hc]
    exact ⟨by rw [g1], g2⟩
  · have hc : ¬ inAll l.2 ((gn l.1 c).2.2.1 ++ (gn l.1 c).2.2.2) = true := fun hc => hb (go h.symm hc).1
    rw [if_neg hb, if_neg hc]
    exact ⟨rfl, h⟩
/-- where nothing was put all is as it was -/
theorem here_one {n : Int} (h0 : 0 < n) {m : Nat} {s : S} {d : D} {j : Nat} (hs : s.wf n) (hd : Dok n d) (hj : ¬ (j : Int) ∈ (oneD m s d).puts) : (oneD m s d).here.getD j 0 = d.here.getD j 0 := by
  unfold oneD at hj ⊢
  split
  · rename_i hst
    rw [if_pos hst] at hj
    have key : ∀ p t : T, wf n false p → ¬ (j : Int) ∈ d.puts ++ [ev d.here p] → (d.here.set (ev d.here p).toNat (ev d.here t)).getD j 0 = d.here.getD j 0 := fun p t hp hj => by
      rw [getD_set]
      have hk := ev_key hd.1 h0 p hp
      have : ¬ (ev d.here p).toNat = j := fun e => hj (by
        rw [List.mem_append, List.mem_singleton]
        right
        omega)
      rw [if_neg fun q => this q.1]
    cases s with
    | put p t => exact key p t hs.1 hj
    | iff c p t =>
      simp only [stepD] at hj ⊢
      split
      · rfl
      · rename_i hz
        rw [if_neg hz] at hj
        exact key p t hs.2.1 hj
    | need t => rfl
    | tell t => rfl
  · rfl
theorem puts_one (n : Nat) (s : S) (d : D) : ∃ l, (oneD n s d).puts = d.puts ++ l := by
  unfold oneD
  split
  · cases s with
    | put p t => exact ⟨_, rfl⟩
    | iff c p t =>
      simp only [stepD]
      split
      · exact ⟨[], by simp⟩
      · exact ⟨_, rfl⟩
    | need t => exact ⟨[], by simp [stepD]⟩
    | tell t => exact ⟨[], by simp [stepD]⟩
  · exact ⟨[], by simp⟩
theorem puts_run : ∀ (r : List S) (n : Nat) (d : D), ∃ l, (runD n r d).puts = d.puts ++ l
  | [], _, d => ⟨[], by simp [runD]⟩
  | s :: r, n, d => by
    obtain ⟨l1, e1⟩ := puts_one n s d
    obtain ⟨l2, e2⟩ := puts_run r (n + 1) (oneD n s d)
    exact ⟨l1 ++ l2, by show (runD (n + 1) r (oneD n s d)).puts = _; rw [e2, e1, List.append_assoc]⟩
theorem here_run {n : Int} (h0 : 0 < n) {j : Nat} : ∀ (r : List S) (m : Nat) (d : D), (∀ s ∈ r, s.wf n) → Dok n d → ¬ (j : Int) ∈ (runD m r d).puts → (runD m r d).here.getD j 0 = d.here.getD j 0
  | [], _, _, _, _, _ => rfl
  | s :: r, m, d, hs, hd, hj => by
    have hd' := Dok.one (m := m) h0 (hs s List.mem_cons_self) hd
    have e := here_run h0 r (m + 1) (oneD m s d) (fun q hq => hs q (List.mem_cons_of_mem _ hq)) hd' hj
    show (runD (m + 1) r (oneD m s d)).here.getD j 0 = _
    rw [e]
    refine here_one h0 (hs s List.mem_cons_self) hd fun q => hj ?_
    obtain ⟨l, el⟩ := puts_run r (m + 1) (oneD m s d)
    show (j : Int) ∈ (runD (m + 1) r (oneD m s d)).puts
    rw [el]
    exact List.mem_append_left _ q
/-- a laid deal changes nothing at keys that aren't its own -/
theorem dl_other {l : Laid} {b : List Int} {j : Nat} (h0 : 0 < b.length) (hs : ∀ s ∈ l.1, s.wf (b.length : Int)) (hj : ¬ (j : Int) ∈ l.2) : (dl l b).1.getD j 0 = b.getD j 0 := by
  unfold dl
  split
  · rename_i h
    have h := inAll_iff.mp h
    unfold gn outD at h ⊢
    split
    · rfl
    · rename_i hst
      rw [hst] at h
      refine here_run (n := (b.length : Int)) (by omega) l.1 0 (newD b) hs (Dok.new rfl) fun q => hj (h _ (List.mem_append_right _ q))
  · rfl
/-! ### rows -/
/-- the boards: the first one, that behind each deal -/
def bs : List Int → List Laid → List (List Int)
  | b, [] => [b]
  | b, l :: r => b :: bs (dl l b).1 r
def ans : List Int → List Laid → List A
  | _, [] => []
  | b, l :: r => (dl l b).2 :: ans (dl l b).1 r
def lastB : List Int → List Laid → List Int
  | b, [] => b
  | b, l :: r => lastB (dl l b).1 r
def keepL : List Int → List Laid → List Laid
  | _, [] => []
  | b, l :: r => if (dl l b).2 = .strange then keepL (dl l b).1 r else l :: keepL (dl l b).1 r
theorem dl_strange {l : Laid} {b : List Int} (h : (dl l b).2 = .strange) : (dl l b).1 = b := by
  unfold dl at h ⊢
  split
  · rename_i hi
    rw [if_pos hi] at h
    unfold gn outD at h ⊢
    split
    · rfl
    · rename_i hst
      rw [hst] at h
      cases h
  · rfl
/-- strange deals change nothing -/
theorem last_keep : ∀ (r : List Laid) (b : List Int), lastB b (keepL b r) = lastB b r
  | [], _ => rfl
  | l :: r, b => by
    show lastB b (if (dl l b).2 = .strange then keepL (dl l b).1 r else l :: keepL (dl l b).1 r) = lastB (dl l b).1 r
    split
    · rename_i h
      rw [dl_strange h, ← last_keep r b]
    · exact last_keep r (dl l b).1
theorem bs_len : ∀ (r : List Laid) (b : List Int), (bs b r).length = r.length + 1
  | [], _ => rfl
  | l :: r, b => by show (bs (dl l b).1 r).length + 1 = _; rw [bs_len r]; rfl
theorem ans_len : ∀ (r : List Laid) (b : List Int), (ans b r).length = r.length
  | [], _ => rfl
  | l :: r, b => by show (ans (dl l b).1 r).length + 1 = _; rw [ans_len r]; rfl
/-- the board behind j deals -/
def bat (b : List Int) (r : List Laid) (j : Nat) : List Int := (bs b r).getD j []
theorem bat_zero (b : List Int) (r : List Laid) : bat b r 0 = b := by cases r <;> rfl
theorem bat_succ : ∀ (r : List Laid) (b : List Int) (j : Nat) (l : Laid), r[j]? = some l → bat b r (j + 1) = (dl l (bat b r j)).1
  | [], _, _, _, h => by simp at h
  | q :: r, b, 0, l, h => by
    have e : q = l := Option.some.inj h
    subst e
    show bat (dl q b).1 r 0 = _
    rw [bat_zero]
    rfl
  | q :: r, b, j + 1, l, h => by
    show bat (dl q b).1 r (j + 1) = (dl l (bat (dl q b).1 r j)).1
    exact bat_succ r (dl q b).1 j l h
theorem bat_last : ∀ (r : List Laid) (b : List Int), bat b r r.length = lastB b r
  | [], _ => rfl
  | l :: r, b => bat_last r (dl l b).1
theorem bat_len : ∀ (r : List Laid) (b : List Int) (j : Nat), j ≤ r.length → (bat b r j).length = b.length
  | [], b, 0, _ => rfl
  | l :: r, b, 0, _ => rfl
  | l :: r, b, j + 1, h => by
    show (bat (dl l b).1 r j).length = _
    rw [bat_len r (dl l b).1 j (Nat.le_of_succ_le_succ h), dl_len]
end RL

/-! Rules that the hand layer lacks: zip over a list, a tuple, a text in any mix; enumerate of a tuple. -/
namespace RlR
open PySem PySem.Spec PyProof.Rows L2

theorem nat_nlt1 {n m : Nat} (h : n + 1 < n) : False := by omega
theorem nat_5 {c n : Nat} (e : c = n + 4 ∨ c = n + 2 ∨ c = n + 3 ∨ c = n ∨ c = n + 1) : n ≤ c := by omega
theorem nat_2 {c n : Nat} (e : c = n + 1 ∨ c = n) : n ≤ c := by omega
theorem nat_ne1 {a n : Nat} (h : a < n) : n + 1 ≠ a := by omega
theorem nat_ne0 {a n : Nat} (h : a < n) : n ≠ a := by omega
/-! ### things walked in step: a list, a tuple, a text -/
inductive Sc where
  | l (a : Addr) | t (a : Addr) | s (z : Str)
def Sc.v : Sc → V
  | .l a => .ref a
  | .t a => .ref a
  | .s z => .str z
def signs (z : Str) : List V := z.cps.toList.map fun c => V.str ⟨#[c]⟩
def Sc.At (K : PySem.W.Frag) (H : Hp) : Sc → List V → Prop
  | .l a, xs => SqL K H a xs
  | .t a, xs => SqT K H a xs
  | .s z, xs => xs = signs z
def Sc.fp : Sc → List Addr
  | .l a => [a]
  | .t a => [a]
  | .s _ => []
def Sc.It (it : Addr) (i : Nat) (h : Heap) : Sc → Prop
  | .l a => h.IsListIter it a i
  | .t a => h.IsTupleIter it a i
  | .s z => ∃ t, h.IsStrIter it (strIterType z) z t i
theorem Sc.It.ob {sc : Sc} {it : Addr} {i : Nat} {h : Heap} (x : sc.It it i h) : ∃ o, h.get? it = some o ∧ ∀ v, o.data ≠ .cell v := by
  cases sc with
  | l a => obtain ⟨o, e, _, d⟩ := x; exact ⟨o, e, fun v q => by rw [d] at q; cases q⟩
  | t a => obtain ⟨o, e, _, d⟩ := x; exact ⟨o, e, fun v q => by rw [d] at q; cases q⟩
  | s z => obtain ⟨t, o, e, _, d⟩ := x; exact ⟨o, e, fun v q => by rw [d] at q; cases q⟩
theorem Sc.It.keep {sc : Sc} {it : Addr} {i : Nat} {h h' : Heap} (x : sc.It it i h) (k : ∀ o, h.get? it = some o → h'.get? it = some o) : sc.It it i h' := by
  cases sc with
  | l a => exact Heap.IsListIter.at x k
  | t a => exact Heap.IsTupleIter.at x k
  | s z => obtain ⟨t, o, e, r⟩ := x; exact ⟨t, o, k o e, r⟩
section
variable {X : Cx} {pins : List (Addr × Obj)} {σ : L2.St} {H : Hp} {s : Shared}
theorem Sc.inj (I : Inv X pins σ H s) {sc : Sc} {xs ys : List V} (h : sc.At X.K H xs) (h' : sc.At X.K H ys) : xs = ys := by
  cases sc with
  | l a => exact I.list_inj h h'
  | t a => exact I.tuple_inj h h'
  | s z => exact (show xs = signs z from h).trans (show ys = signs z from h').symm
/-- what it draws, by what stands now -/
theorem sc_draw {A : Around} (hh : A.handled = none) (I : Inv X pins σ H s) {sc : Sc} {xs : List V} (h : sc.At X.K H xs) {it : Addr} {i : Nat} (hit : sc.It it i s.heap) (hne : it ∉ sc.fp) :
    ∃ (Pr : Nat → Value → Prop) (St : Nat → Heap → Prop), Draws X.prog X.w A it (it :: sc.fp) xs.length Pr St ∧ St i s.heap ∧ (∀ j g, St j g → sc.It it j g) ∧ ∀ j v, Pr j v → ∃ x, xs[j]? = some x ∧ RelV x v := by
  cases sc with
  | l a =>
    obtain ⟨its, rv, p, hz⟩ := I.list h
    have hl := rv.length
    have D := Draws.list (prog := X.prog) (w := X.w) hh it a (fun e => hne (by simp [Sc.fp, e])) its.toArray
    rw [List.size_toArray, ← hl] at D
    refine ⟨_, _, D, ⟨hit, p.isList⟩, fun j g q => q.1, fun j v q => ?_⟩
    have q' : its[j]? = some v := by simpa using q
    have hj : j < xs.length := by rw [hl]; exact (List.getElem?_eq_some_iff.mp q').1
    obtain ⟨u, hu, ru⟩ := rv.get (List.getElem?_eq_getElem hj)
    rw [q'] at hu; cases hu
    exact ⟨_, List.getElem?_eq_getElem hj, ru⟩
  | t a =>
    obtain ⟨its, rv, p, hz⟩ := I.tuple h
    have hl := rv.length
    have D := Draws.tuple (prog := X.prog) (w := X.w) hh it a (fun e => hne (by simp [Sc.fp, e])) its.toArray
    rw [List.size_toArray, ← hl] at D
    refine ⟨_, _, D, ⟨hit, show s.heap.IsTuple a its.toArray from p⟩, fun j g q => q.1, fun j v q => ?_⟩
    have q' : its[j]? = some v := by simpa using q
    have hj : j < xs.length := by rw [hl]; exact (List.getElem?_eq_some_iff.mp q').1
    obtain ⟨u, hu, ru⟩ := rv.get (List.getElem?_eq_getElem hj)
    rw [q'] at hu; cases hu
    exact ⟨_, List.getElem?_eq_getElem hj, ru⟩
  | s z =>
    obtain ⟨t, hit⟩ := hit
    have e : xs = signs z := h
    have D := Draws.text (prog := X.prog) (w := X.w) hh it z t
    have hl : xs.length = z.cps.size := by rw [e, signs]; simp
    rw [← hl] at D
    refine ⟨_, _, D, hit, fun j g q => ⟨t, q⟩, fun j v q => ?_⟩
    obtain ⟨c, u, hc, hv⟩ := q
    refine ⟨.str ⟨#[c]⟩, ?_, ⟨u, hv⟩⟩
    rw [e, signs, List.getElem?_map]
    have hc' : z.cps.toList[j]? = some c := by rw [Array.getElem?_toList]; exact hc
    rw [hc']
    rfl
theorem sc_lt (I : Inv X pins σ H s) {sc : Sc} {xs : List V} (h : sc.At X.K H xs) : ∀ b ∈ sc.fp, b < s.heap.objs.size := by
  cases sc with
  | l a =>
    obtain ⟨its, rv, p, hz⟩ := I.list h
    intro b hb
    have e : b = a := by simpa [Sc.fp] using hb
    rw [e]
    exact p.lt
  | t a =>
    obtain ⟨its, rv, p, hz⟩ := I.tuple h
    intro b hb
    have e : b = a := by simpa [Sc.fp] using hb
    rw [e]
    exact p.lt
  | s z => exact fun b hb => by simp [Sc.fp] at hb
/-- the two as they stand at each turn, the items in new pairs -/
def Itzs (K : PySem.W.Frag) (s1 s2 : Sc) : It :=
  ⟨fun i H => ∃ xs ys : List V, s1.At K H xs ∧ s2.At K H ys ∧ i < xs.length ∧ i < ys.length,
    fun i H v H' => ∃ T x y, v = .ref T ∧ H T = none ∧ H' = upd H T (.tup [x, y]) ∧ (∀ xs, s1.At K H xs → xs[i]? = some x) ∧ ∀ ys, s2.At K H ys → ys[i]? = some y,
    fun i H => ∃ xs ys : List V, s1.At K H xs ∧ s2.At K H ys ∧ i ≤ xs.length ∧ i ≤ ys.length ∧ (i = xs.length ∨ i = ys.length)⟩
theorem turn_zs {P : Program} {w : World} {K : PySem.W.Frag} {elts : List Expr} {kk : Nat} {tpos : Pos} {s1 s2 : Sc} {z TI TO i1 i2 : Addr} (S : ZipSep2 z TI TO i1 i2 (i1 :: s1.fp) (i2 :: s2.fp)) (h12 : i1 ∉ s1.fp) (h22 : i2 ∉ s2.fp) :
    Turn P w K (.Tuple elts kk tpos) (Itzs K s1 s2) [z, TI, TO, i1, i2] z (fun i h => IsZip h z TI TO .none ∧ IsTupOf2 h TI (.ref i1) (.ref i2) ∧ (∃ x y, IsTupOf2 h TO x y) ∧ s1.It i1 i h ∧ s2.It i2 i h) where
  mem := by simp
  obj := fun i h st c hc => by
    obtain ⟨hz, hTI, ⟨x, y, hTO⟩, h1, h2⟩ := st
    have e' : c = z ∨ c = TI ∨ c = TO ∨ c = i1 ∨ c = i2 := by simpa using hc
    rcases e' with q | q | q | q | q
    · rw [q]; exact ⟨_, hz, fun v q => nomatch q⟩
    · rw [q]; exact ⟨_, hTI, fun v q => nomatch q⟩
    · rw [q]; exact ⟨_, hTO, fun v q => nomatch q⟩
    · rw [q]; exact h1.ob
    · rw [q]; exact h2.ob
  keep := fun i h h' st k => by
    obtain ⟨hz, hTI, ⟨x, y, hTO⟩, h1, h2⟩ := st
    exact ⟨k z (by simp) _ hz, k TI (by simp) _ hTI, ⟨x, y, k TO (by simp) _ hTO⟩, h1.keep fun o q => k i1 (by simp) o q, h2.keep fun o q => k i2 (by simp) o q⟩
  item := by
    intro X hP hw hK hc i pins s σ H E I hf st hg
    subst hP hw hK
    obtain ⟨hz, hTI, ⟨x0, y0, hTO⟩, h1, h2⟩ := st
    obtain ⟨xs, ys, hqx, hqy, hx, hy⟩ := hg
    have hh : X.A.in1.handled = none := I.ok.hd hc
    obtain ⟨P1, St1, D1, st1, b1, r1⟩ := sc_draw hh I hqx h1 h12
    obtain ⟨P2, St2, D2, st2, b2, r2⟩ := sc_draw hh I hqy h2 h22
    have hzl : z < s.heap.objs.size := Heap.lt_size hz
    refine wpAny_pyNext_zipD2_item S D1 D2 hz hTI hTO st1 st2 hx hy fun u u2 h' tk p1 p2 z' TO' g1 g2 hT hsz hk => ?_
    obtain ⟨x, hx', ru⟩ := r1 i u p1
    obtain ⟨y, hy', ru2⟩ := r2 i u2 p2
    refine ⟨_, rfl, wpAny_letOwnedTupleGo_zip (s := { s with heap := h', toks := tk }) z' fun h'' z'' sb => ?_⟩
    have hT2 : h''.get? s.heap.objs.size = some { cls := .type "tuple", data := .seq #[u, u2] } := (sb.2 _ (Nat.ne_of_gt hzl)).trans hT
    have new : ObjOk X.prog X.w (upd H s.heap.objs.size (.tup [x, y])) h'' s.heap.objs.size (.tup [x, y]) :=
      ⟨by show 2 ≤ sizeLine; decide, [u, u2], .cons ru (.cons ru2 .nil), ⟨_, hT2, rfl, _, rfl⟩⟩
    have I1 : Inv X pins σ (upd H s.heap.objs.size (.tup [x, y])) { s with heap := h'', toks := tk } :=
      I.turnedNew (ch := [z, TI, TO, i1, i2]) (fun c o hb q => (sb.2 c (fun q' => hb (by simp [q']))).trans (hk c o (fun q' => hb (by simp [q'])) (fun q' => hb (by simp [q'])) (fun q' => hb (by simp [q'])) (fun q' => hb (by simp [q'])) q)) hf (Nat.le_refl _) new
    have i1z : i1 ≠ z := fun e => S.zf1 (by simp [e])
    have i2z : i2 ≠ z := fun e => S.zf2 (by simp [e])
    refine ⟨.ref s.heap.objs.size, _, I1, rfl, ⟨_, x, y, rfl, I.hok.fresh (Nat.le_refl _), rfl, fun l hl => by rw [Sc.inj I hl hqx]; exact hx', fun l hl => by rw [Sc.inj I hl hqy]; exact hy'⟩, ⟨z'', ?_, ⟨u, u2, ?_⟩, ?_, ?_⟩, fun c hcm => ?_⟩
    · exact (sb.2 _ S.TIz).trans (hk _ _ S.TIz S.TITO S.TIi1 S.TIi2 hTI)
    · exact (sb.2 _ S.TOz).trans TO'
    · exact (b1 _ _ g1).keep fun o q => (sb.2 _ i1z).trans q
    · exact (b2 _ _ g2).keep fun o q => (sb.2 _ i2z).trans q
    · have hlt : c < s.heap.objs.size := by
        have e' : c = z ∨ c = TI ∨ c = TO ∨ c = i1 ∨ c = i2 := by simpa using hcm
        rcases e' with q | q | q | q | q
        · rw [q]; exact hzl
        · rw [q]; exact Heap.lt_size hTI
        · rw [q]; exact Heap.lt_size hTO
        · rw [q]; obtain ⟨_, e1, _⟩ := h1.ob; exact Heap.lt_size e1
        · rw [q]; obtain ⟨_, e2, _⟩ := h2.ob; exact Heap.lt_size e2
      rw [upd_ne (Nat.ne_of_lt hlt)]
      exact (hf c hcm).1
  done := by
    intro X hP hw hK hc i pins s σ H E I hf st hg
    subst hP hw hK
    obtain ⟨hz, hTI, ⟨x0, y0, hTO⟩, h1, h2⟩ := st
    obtain ⟨xs, ys, hqx, hqy, e1, e2, hend⟩ := hg
    have hh : X.A.in1.handled = none := I.ok.hd hc
    obtain ⟨P1, St1, D1, st1, b1, r1⟩ := sc_draw hh I hqx h1 h12
    obtain ⟨P2, St2, D2, st2, b2, r2⟩ := sc_draw hh I hqy h2 h22
    exact wpAny_pyNext_zipD2_end S D1 D2 hz hTI hTO st1 st2 e1 e2 hend fun h' tk hk => ⟨rfl, I.turnedL (t' := tk) (ch := [z, TI, TO, i1, i2]) (fun c o hb q =>
      hk c o (fun q' => hb (by simp [q'])) (fun q' => hb (by simp [q'])) (fun q' => hb (by simp [q'])) (fun q' => hb (by simp [q'])) q) hf⟩
  self := fun A i s Q E st h => wpAny_pyIter_zip st.1 h
theorem sc_begins (I : Inv X pins σ H s) {sc : Sc} {xs : List V} (h : sc.At X.K H xs) {u : Value} (r : RelV sc.v u) : ∃ (o : Obj) (HH : Heap → Prop), Begins u o HH ∧ HH s.heap ∧ ∀ (it : Addr) (g : Heap), g.get? it = some o → sc.It it 0 g := by
  cases sc with
  | l a =>
    obtain ⟨its, rv, p, hz⟩ := I.list h
    cases (show u = Value.ref a from r)
    exact ⟨_, _, begins_list a its.toArray, p.isList, fun it g e => ⟨_, e, rfl, rfl⟩⟩
  | t a =>
    obtain ⟨its, rv, p, hz⟩ := I.tuple h
    cases (show u = Value.ref a from r)
    exact ⟨_, _, begins_tuple a its.toArray, (show s.heap.IsTuple a its.toArray from p), fun it g e => ⟨_, e, rfl, rfl⟩⟩
  | s z =>
    obtain ⟨t, rfl⟩ := (show ∃ t, u = Value.str z t from r)
    exact ⟨_, _, begins_text z t, trivial, fun it g e => ⟨t, _, e, rfl, rfl⟩⟩
end
def iZs (K : PySem.W.Frag) (ta : TA) : TI := fun σ H R => ta σ H fun vs H1 => ∃ s1 s2 xs ys, vs = [Sc.v s1, Sc.v s2] ∧ s1.At K H1 xs ∧ s2.At K H1 ys ∧ R (Itzs K s1 s2) H1
theorem pi_zs {X : Cx} {e e2 : Expr} {ta : TA} {p pos tpos : Pos} {elts : List Expr} {kk : Nat} (hg : Gl X "zip") (hm : X.mg "zip" = none) (ha : PA X [e, e2] ta)
    (hs : starEach [e, e2] X.env = (false, eval e X.env) :: starEach [e2] X.env := by rfl) (hpl : (backTo pos (starEach [e2] X.env)).any (·.1) = false := by rfl) :
    PI X (.Tuple elts kk tpos) (.Call (.Name "zip" p) [e, e2] [] pos) (iZs X.K ta) := by
  refine ⟨fun pins s σ H R I h => ?_⟩
  refine Call_ (ld_blt I hg hm PyProof.Rows.boot_zip (PyProof.Rows.callWith_type1 (thn (ha.run pos pins s σ H _ I h) fun us s1 ⟨vs, H1, I1, r1, q1⟩ => ?_) hs hpl))
  obtain ⟨c1, c2, xs, ys, ex, hqx, hqy, q⟩ := q1
  subst ex
  obtain ⟨u1, u2, rfl, ra, rb⟩ := vals2 r1
  obtain ⟨o1, H1', B1, b1, g1⟩ := sc_begins I1 hqx ra
  obtain ⟨o2, H2', B2, b2, g2⟩ := sc_begins I1 hqy rb
  have l1 := sc_lt I1 hqx
  have l2 := sc_lt I1 hqy
  refine zip_begins2 B1 B2 b1 b2 fun h' hz hTI hTO h1 h2 hsz hk => wpAny_pyIter_zip hz ?_
  have I2 : Inv X pins σ H1 { s1 with heap := h' } := I1.kept (t' := s1.toks) hk
  have n1 : s1.heap.objs.size ∉ c1.fp := fun hb => Nat.lt_irrefl _ (l1 _ hb)
  have n2 : s1.heap.objs.size + 1 ∉ c2.fp := fun hb => nat_nlt1 (m := 0) (l2 _ hb)
  refine ⟨s1.heap.objs.size + 4, [s1.heap.objs.size + 4, s1.heap.objs.size + 2, s1.heap.objs.size + 3, s1.heap.objs.size, s1.heap.objs.size + 1], _, _, H1, rfl, I2, turn_zs (zip_sep2 l1 l2) n1 n2, ⟨hz, hTI, ⟨_, _, hTO⟩, g1 _ _ h1, g2 _ _ h2⟩, fun c hcm => ?_, q⟩
  have e' : c = s1.heap.objs.size + 4 ∨ c = s1.heap.objs.size + 2 ∨ c = s1.heap.objs.size + 3 ∨ c = s1.heap.objs.size ∨ c = s1.heap.objs.size + 1 := by simpa using hcm
  have hle : s1.heap.objs.size ≤ c := nat_5 e'
  exact I1.fpOk hle (I1.hok.fresh hle)
theorem walk_zs {K : PySem.W.Frag} {s1 s2 : Sc} {xs ys : List V} {n : Nat} (hn : n = min xs.length ys.length) (inj1 : ∀ H ys, s1.At K H xs → s1.At K H ys → True := by intros; trivial) :
    Walk (Itzs K s1 s2) n (fun H => s1.At K H xs ∧ s2.At K H ys) (YPair (fun i => xs[i]?) (fun i => ys[i]?)) := by
  subst hn
  refine ⟨fun i _ hi q => ⟨xs, ys, q.1, q.2, by omega, by omega⟩, fun _ q => ⟨xs, ys, q.1, q.2, by omega, by omega, by omega⟩, fun i H v H' _ q y => ?_⟩
  obtain ⟨T, x, z, h1, h2, h3, h4, h5⟩ := y
  exact ⟨T, x, z, h1, h2, h3, h4 xs q.1, h5 ys q.2⟩

/-! ### enumerate of a tuple -/
def Itet (K : PySem.W.Frag) (a : Addr) : It :=
  ⟨fun i H => ∃ (xs : List V) (x : V), SqT K H a xs ∧ xs[i]? = some x, fun i H v H' => ∃ T x, v = .ref T ∧ H T = none ∧ H' = upd H T (.tup [.int (i : Nat), x]) ∧ ∀ xs, SqT K H a xs → xs[i]? = some x, fun i H => ∃ xs : List V, SqT K H a xs ∧ xs.length = i⟩
theorem meets_enum_newT (l : Addr) (items : Array Value) (n : Nat) (dct : Option Addr) (sl : Array (Option Value)) :
    Meets (Builtin.«enumerate.__new__» ⟨[.type "enumerate", .ref l], []⟩) (fun _ R s => s.heap.get? l = some { cls := .type "tuple", dict := dct, data := .seq items n, slots := sl } ∧
      R (.ok (.ret (.ref (s.heap.push { cls := .type "tuple_iterator", data := .fields #[.ref l, .int 0 0] }).objs.size)))
        { s with heap := (s.heap.push { cls := .type "tuple_iterator", data := .fields #[.ref l, .int 0 0] }).push { cls := .type "enumerate", data := .fields #[.none, .bool false, .ref s.heap.objs.size, rawInt 0, .none, .none] } }) :=
  .of_wp fun prog w A R s h => by
    obtain ⟨hp, g, d, tk, os⟩ := s; obtain ⟨hl, h⟩ := h
    have hsub := sub_enumerate
    have hL : Heap.IsTuple (Shared.heap ⟨hp, g, d, tk, os⟩) l items := ⟨_, hl, rfl, n, rfl⟩
    wp_walk using AutoSeq1.wpAny_loadPart' hl
    refine wpAny_stack_any fun st => wpAny_pure ?_
    split
    · rename_i c _ _ _ _ _
      cases (c == Value.type "enumerate")
      · wp_walk using AutoSeq1.wpAny_loadPart' hl, wpAny_pyIter_tuple hL
        exact ⟨_, rfl, h⟩
      · wp_walk using AutoSeq1.wpAny_loadPart' hl, wpAny_pyIter_tuple hL
        exact ⟨_, rfl, h⟩
    · wp_walk using AutoSeq1.wpAny_loadPart' hl, wpAny_pyIter_tuple hL
      exact ⟨_, rfl, h⟩
theorem call_enum_tuple {prog : Program} {w : World} {A : Around} {E : Value → Shared → Prop} {s : Shared} {l : Addr} {items : Array Value} {Q : Value → Shared → Prop} (hL : s.heap.IsTuple l items)
    (h : ∀ h', IsEnum h' (s.heap.objs.size + 1) s.heap.objs.size 0 .none → h'.IsTupleIter s.heap.objs.size l 0 → h'.objs.size = s.heap.objs.size + 2 →
      (∀ b o, s.heap.get? b = some o → h'.get? b = some o) → Q (.ref (s.heap.objs.size + 1)) { s with heap := h' }) :
    wpAny (model prog w) A (call (.type "enumerate") [.ref l]) Q E s := by
  obtain ⟨⟨c, dct, dt, sl⟩, hl, hc, n, hd⟩ := hL
  replace hc : c = .type "tuple" := hc
  replace hd : dt = .seq items n := hd
  subst hc hd
  refine callType_new F.called_enumerate (by decide) (F.typeCall_enumerate_1 _) (F.newCall_enumerate_1 _) (fun obj => F.args_object_init_2 obj _) F.entry_enumerate_new
    (meets_enum_newT l items n dct sl) ⟨hl, ?_⟩
  have hz : (s.heap.push { cls := .type "tuple_iterator", data := .fields #[.ref l, .int 0 0] }).objs.size = s.heap.objs.size + 1 := Heap.size_push ..
  show _ ∧ _
  rw [hz]
  have he : IsEnum ((s.heap.push { cls := .type "tuple_iterator", data := .fields #[.ref l, .int 0 0] }).push
      { cls := .type "enumerate", data := .fields #[.none, .bool false, .ref s.heap.objs.size, rawInt 0, .none, .none] }) (s.heap.objs.size + 1) s.heap.objs.size 0 .none := by
    have := Heap.get?_push_size (s.heap.push { cls := .type "tuple_iterator", data := .fields #[.ref l, .int 0 0] })
      (o := { cls := .type "enumerate", data := .fields #[.none, .bool false, .ref s.heap.objs.size, rawInt 0, .none, .none] }) rfl
    rw [hz] at this; exact this
  exact ⟨⟨_, he, rfl⟩, h _ he ⟨_, Heap.get?_push_of_some _ (Heap.get?_push_size _ rfl), rfl, rfl⟩ (by rw [Heap.size_push, hz]) fun b o x => Heap.get?_push_of_some _ (Heap.get?_push_of_some _ x)⟩
theorem turn_enumT {P : Program} {w : World} {K : PySem.W.Frag} {elts : List Expr} {kk : Nat} {tpos : Pos} (a e it : Addr) (hea : e ≠ a) (hia : it ≠ a) :
    Turn P w K (.Tuple elts kk tpos) (Itet K a) [e, it] e (fun i h => (∃ old, IsEnum h e it ((i : Nat) : Int) old) ∧ h.IsTupleIter it a i ∧ e ≠ it) where
  mem := by simp
  obj := fun i h st b hb => by
    obtain ⟨⟨old, he⟩, ⟨o, ho, hc, hd⟩, _⟩ := st
    have e' : b = e ∨ b = it := by simpa using hb
    rcases e' with z | z
    · rw [z]; exact ⟨_, he, fun v q => nomatch q⟩
    · rw [z]; exact ⟨o, ho, fun v q => by rw [hd] at q; cases q⟩
  keep := fun i h h' st k => let ⟨⟨old, he⟩, hi, hne⟩ := st; ⟨⟨old, k e (by simp) _ he⟩, hi.at fun o q => k it (by simp) o q, hne⟩
  item := by
    intro X hP hw hK hc i pins s σ H E I hf st hg
    subst hP hw hK
    obtain ⟨⟨old, he⟩, hit, hne⟩ := st
    obtain ⟨xs, x, hq, hx⟩ := hg
    have hh : X.A.in1.handled = none := I.ok.hd hc
    obtain ⟨P1, St1, D1, st1, b1, r1⟩ := sc_draw (sc := .t a) hh I hq hit (by simpa [Sc.fp] using hia)
    have hel : e < s.heap.objs.size := Heap.lt_size he
    have hil : it < s.heap.objs.size := by obtain ⟨_, q, _⟩ := hit; exact Heap.lt_size q
    have hi : i < xs.length := (List.getElem?_eq_some_iff.mp hx).1
    refine wpAny_pyNext_enum_itemC D1 he st1 hi hne (by simp [Sc.fp, hne, hea]) fun u h' tk p1 ho g1 hT hsz hk => ?_
    obtain ⟨x', hx', ru⟩ := r1 i u p1
    have exx : x' = x := by rw [hx] at hx'; exact (Option.some.inj hx').symm
    subst exx
    refine ⟨_, rfl, wpAny_letOwnedTupleGo_enum (s := { s with heap := h', toks := tk + 1 }) ho fun h'' he' sb => ?_⟩
    have hT2 : h''.get? s.heap.objs.size = some { cls := .type "tuple", data := .seq #[.int i tk, u] } := (sb.2 _ (Nat.ne_of_gt hel)).trans hT
    have new : ObjOk X.prog X.w (upd H s.heap.objs.size (.tup [.int (i : Nat), x'])) h'' s.heap.objs.size (.tup [.int (i : Nat), x']) :=
      ⟨by show 2 ≤ sizeLine; decide, [.int i tk, u], .cons ⟨_, rfl⟩ (.cons ru .nil), ⟨_, hT2, rfl, _, rfl⟩⟩
    have I1 : Inv X pins σ (upd H s.heap.objs.size (.tup [.int (i : Nat), x'])) { s with heap := h'', toks := tk + 1 } :=
      I.turnedNew (ch := [e, it]) (fun b ob hb q => (sb.2 b (fun z => hb (by simp [z]))).trans (hk b ob (fun z => hb (by simp [z])) (fun z => hb (by simp [z])) q)) hf (Nat.le_refl _) new
    refine ⟨.ref s.heap.objs.size, _, I1, rfl, ⟨_, x', rfl, I.hok.fresh (Nat.le_refl _), rfl, fun ys hy => by rw [I.tuple_inj hy hq]; exact hx⟩, ⟨⟨u, ?_⟩, (show h'.IsTupleIter it a (i + 1) from b1 _ _ g1).at fun o q => (sb.2 it (Ne.symm hne)).trans q, hne⟩, fun b hb => ?_⟩
    · have e1 : ((i + 1 : Nat) : Int) = (i : Int) + 1 := by omega
      rw [e1]; exact he'
    · have hb' : b < s.heap.objs.size := by
        have e' : b = e ∨ b = it := by simpa using hb
        rcases e' with z | z
        · rw [z]; exact hel
        · rw [z]; exact hil
      rw [upd_ne (Nat.ne_of_lt hb')]
      exact (hf b hb).1
  done := by
    intro X hP hw hK hc i pins s σ H E I hf st hg
    subst hP hw hK
    obtain ⟨⟨old, he⟩, hit, hne⟩ := st
    obtain ⟨xs, hq, hx⟩ := hg
    have hh : X.A.in1.handled = none := I.ok.hd hc
    obtain ⟨P1, St1, D1, st1, b1, r1⟩ := sc_draw (sc := .t a) hh I hq hit (by simpa [Sc.fp] using hia)
    obtain ⟨f0, f1, f2, f3, f4, f5⟩ := hf it (by simp)
    rw [← hx] at st1
    exact wpAny_pyNext_enum_endD D1 he st1 fun h' eb => ⟨rfl, I.turned (t' := s.toks) (fun b o hb q => eb b o hb q) f0 f1 f3 f4 f5⟩
  self := fun A i s Q E st h => let ⟨⟨_, he⟩, _⟩ := st; wpAny_pyIter_enum he h
def iEnumT (K : PySem.W.Frag) (ta : TA) : TI := fun σ H R => ta σ H fun vs H1 => ∃ a xs, vs = [.ref a] ∧ SqT K H1 a xs ∧ R (Itet K a) H1
theorem pi_enumT {X : Cx} {e : Expr} {ta : TA} {p pos tpos : Pos} {elts : List Expr} {kk : Nat} (hg : Gl X "enumerate") (hm : X.mg "enumerate" = none) (ha : PA X [e] ta) (hs : starEach [e] X.env = [(false, eval e X.env)] := by rfl) :
    PI X (.Tuple elts kk tpos) (.Call (.Name "enumerate" p) [e] [] pos) (iEnumT X.K ta) := by
  refine ⟨fun pins s σ H R I h => ?_⟩
  refine Call_ (ld_blt I hg hm boot_enumerate (PyProof.Rows.callWith_type1 (thn (ha.run pos pins s σ H _ I h) fun us s1 ⟨vs, H1, I1, r1, q1⟩ => ?_) hs rfl))
  obtain ⟨a, xs, ex, hq, q⟩ := q1
  subst ex
  obtain ⟨u, rfl, r⟩ := vals1 r1
  cases (show u = Value.ref a from r)
  obtain ⟨its, rv, p', hz⟩ := I1.tuple hq
  have hlt : a < s1.heap.objs.size := p'.lt
  refine call_enum_tuple (show s1.heap.IsTuple a its.toArray from p') fun h' he hit hsz hk => wpAny_pyIter_enum he ?_
  have I2 : Inv X pins σ H1 { s1 with heap := h' } := I1.kept (t' := s1.toks) hk
  refine ⟨s1.heap.objs.size + 1, [s1.heap.objs.size + 1, s1.heap.objs.size], _, _, H1, rfl, I2, turn_enumT a (s1.heap.objs.size + 1) s1.heap.objs.size (nat_ne1 hlt) (nat_ne0 hlt), ⟨⟨.none, he⟩, hit, Nat.succ_ne_self _⟩, fun b hb => ?_, q⟩
  have e' : b = s1.heap.objs.size + 1 ∨ b = s1.heap.objs.size := by simpa using hb
  have hle : s1.heap.objs.size ≤ b := nat_2 e'
  exact I1.fpOk hle (I1.hok.fresh hle)
theorem walk_enumT {K : PySem.W.Frag} {a : Addr} {xs : List V} : Walk (Itet K a) xs.length (fun H => SqT K H a xs) (YPair (fun i => some (.int (i : Nat))) (fun i => xs[i]?)) := by
  refine ⟨fun i _ hi q => ⟨xs, xs[i], q, by simp [hi]⟩, fun _ q => ⟨xs, q, rfl⟩, fun i H v H' _ q y => ?_⟩
  obtain ⟨T, x, h1, h2, h3, h4⟩ := y
  exact ⟨T, .int (i : Nat), x, h1, h2, h3, rfl, h4 xs q⟩
end RlR

/-! Further rules: sorted over any alike data, set of a list or tuple of ints, tuple of a dict, a written dict walked, a tuple times one, nested dicts that are equal. -/
namespace RlR
open PySem PySem.Spec PyProof.Rows L2

/-! ### sorted(xs), the items alike data: some arrangement -/
def rSortedD (K : PySem.W.Frag) : List V → Hp → VK → Prop := fun vs H Q => ∃ (a : Addr) (xs : List V) (en : V → PyData), vs = [V.ref a] ∧ SqL K H a xs ∧ (∀ x ∈ xs, Dp K H x (en x)) ∧
  PySem.W.AllAlike (xs.map en) ∧ PySem.W.Sortable (xs.map en) ∧ (∀ x ∈ xs, (en x).depth ≤ 40) ∧ ∀ (ys : List V) (p : Addr), ys.Perm xs → H p = none → Q (.ref p) (upd H p (.lst ys))
theorem each_vals : ∀ {xs : List V} {us : List Value}, Vals xs us → PySem.W.EachIs (fun v b => RelV b v) us xs
  | _, _, .nil => .nil
  | _, _, .cons r t => .cons r (each_vals t)
theorem vals_each : ∀ {xs : List V} {us : List Value}, PySem.W.EachIs (fun v b => RelV b v) us xs → Vals xs us
  | _, _, .nil => .nil
  | _, _, .cons r t => .cons r (vals_each t)
theorem each_reads {X : Cx} {pins : List (Addr × Obj)} {σ : L2.St} {H : Hp} {s : Shared} (I : Inv X pins σ H s) {en : V → PyData} : ∀ {xs : List V} {us : List Value}, Vals xs us → (∀ x ∈ xs, Dp X.K H x (en x)) →
    PySem.W.EachIs (fun v b => ∃ as, Reads s.heap v (en b) as) us xs
  | _, _, .nil, _ => .nil
  | _, _, .cons r t, h => .cons (Dp.reads I _ _ _ (h _ List.mem_cons_self) r) (each_reads I t fun x hx => h x (List.mem_cons_of_mem _ hx))
theorem cr_sortedD {X : Cx} (hu : X.A.units + 64 < cLine) : CallR X (.builtin "sorted") (rSortedD X.K) := by
  intro pins s σ H vs us Q I r h
  obtain ⟨a, xs, en, rfl, hl, hd, ha, hs, hdp, q⟩ := h
  obtain ⟨u, rfl, ru⟩ := vals1 r
  cases (show u = Value.ref a from ru)
  obtain ⟨its, rv, p, hz⟩ := I.list hl
  refine PySem.W.sorted_data (bs := xs) (enc := en) p.isList (each_vals rv) (each_reads I rv hd) ha hs hz (fun b hb => by have := hdp b hb; omega) fun out ho eo => ?_
  have hperm := List.mergeSort_perm xs (PySem.W.dataLe false en)
  obtain ⟨c, hc⟩ := sortedAll_at s.heap its out.toArray
  have hlen : (xs.mergeSort (PySem.W.dataLe false en)).length ≤ sizeLine := by rw [hperm.length_eq]; exact hz
  exact ⟨.ref (s.heap.objs.size + 1), upd H (s.heap.objs.size + 1) (.lst (xs.mergeSort (PySem.W.dataLe false en))), I.laid (t' := s.toks) (fun b o e => sortedAll_old e) (Nat.le_succ _) ⟨hlen, out, c, vals_each eo, hc⟩, rfl,
    q _ _ hperm (I.hok.fresh (Nat.le_succ _))⟩

/-! ### set(xs), a list of ints -/
section
variable {P : Program} {w : World} {A : Around} {E : Value → Shared → Prop} {s : Shared}
theorem ints_step {items : Array Value} {ns : List Int} (hit : IntsAre items.toList ns) : items.size = ns.length ∧ ∀ (i : Nat) (v : Value), items[i]? = some v → ∃ k t, ns[i]? = some k ∧ v = .int k t := by
  have hisz : items.size = ns.length := by
    have q := IntsAre.length hit
    rw [Array.length_toList] at q
    exact q
  refine ⟨hisz, fun i v hv => ?_⟩
  have hi : i < ns.length := by rw [← hisz]; exact (Array.getElem?_eq_some_iff.mp hv).1
  obtain ⟨t, e⟩ := IntsAre.int_at hit i v (by rw [Array.getElem?_toList]; exact hv)
  refine ⟨ns[i], t, List.getElem?_eq_getElem hi, ?_⟩
  rw [e, List.getD_eq_getElem?_getD, List.getElem?_eq_getElem hi] <;> rfl
theorem nat_lt_ne {a b : Nat} (h : a < b) : a ≠ b + 1 := by omega
set_option maxHeartbeats 6400000 in
theorem call_set_listI {l : Addr} {items : Array Value} (ns : List Int) {Q : Value → Shared → Prop} (hh : A.handled = none) (hl : s.heap.IsList l items) (hit : IntsAre items.toList ns) (hb : ns.length + 1 < scanBound)
    (h : ∀ (h' : Heap) (tk c : Nat), SetR w h' s.heap.objs.size (fun j => decide (j ∈ ns)) c → c ≤ ns.length → (∀ b o, s.heap.get? b = some o → h'.get? b = some o) → Q (.ref s.heap.objs.size) { s with heap := h', toks := tk }) :
    wpAny (model P w) A (call (.type "set") [.ref l]) Q E s := by
  obtain ⟨hisz, hval⟩ := ints_step hit
  obtain ⟨c, tl, hmro⟩ := F.called_set.mro
  have hmade := F.called_set.made
  have hsub := F.called_set.sub
  refine wpAny_call (codeAny_of_tree ?_)
  show wpAny _ _ (callAny (.type "set") _) _ _ _
  refine wpAny_pure ⟨Code.quiet_builtin _ (by decide +kernel), codeAny_builtin F.entry_type_call ?_⟩
  rw [Around.under_plain (weight_type_call_type "set" [.ref l] []) rfl]
  have h1 := F.called_set.notType
  have h2 := F.called_set.canCreate
  have hct := F.typeCall_set_1 (.ref l)
  repeat (any_goals (first | assumption | wp_step))
  refine codeAny_mono (code_set_led1 (.ref l) (E := E) (Q₁ := fun obj s₁ => obj = .ref s.heap.objs.size ∧ s₁ = { s with heap := s.heap.push { cls := .type "set", dict := none, data := .set #[] 0 (.fresh 0 0 (!w.params.followText "set-order")) } }) ⟨rfl, rfl⟩) fun r s₁ hr => ?_
  cases r with
  | error e => exact hr
  | ok fl =>
    cases fl with
    | ret obj =>
      obtain ⟨rfl, rfl⟩ := hr
      have hS : (s.heap.push { cls := .type "set", dict := none, data := .set #[] 0 (.fresh 0 0 (!w.params.followText "set-order")) }).get? s.heap.objs.size = some { cls := .type "set", dict := none, data := .set #[] 0 (.fresh 0 0 (!w.params.followText "set-order")) } := Heap.get?_push_size _ rfl
      have hT : Shared.TypeIs { s with heap := s.heap.push { cls := .type "set", dict := none, data := .set #[] 0 (.fresh 0 0 (!w.params.followText "set-order")) } } (.ref s.heap.objs.size) "set" := ⟨_, hS, rfl⟩
      have hli := F.called_set.init.lookup
      have hbi := F.called_set.init.bind (.ref s.heap.objs.size)
      repeat (any_goals (first | assumption | wp_step))
      refine codeAny_mono (codeAny_call_builtin (R := wants (fun r s₂ => r = .none ∧ ∃ h' tk c, s₂ = { s with heap := h', toks := tk } ∧ SetR w h' s.heap.objs.size (fun j => decide (j ∈ ns)) c ∧ c ≤ ns.length ∧
          (∀ b o, s.heap.get? b = some o → h'.get? b = some o)) E) F.called_set.init.plain F.entry_set_init (check_set_init_1 hT ?_)) fun r₂ s₂ hr₂ => ?_
      · obtain ⟨ol, hol, hcl, nl, hdl⟩ := hl
        obtain ⟨ocls, odict, odata, oslots⟩ := ol
        simp only at hcl hdl
        subst hcl; subst hdl
        have hol' : (s.heap.push { cls := .type "set", dict := none, data := .set #[] 0 (.fresh 0 0 (!w.params.followText "set-order")) }).get? l = some { cls := .type "list", dict := odict, data := .seq items nl, slots := oslots } := Heap.get?_push_of_some _ hol
        have hsls := F.sub_list_set
        have hslf := F.sub_list_frozenset
        have hne : (Value.type "list" == Value.type "dict") = false := by decide
        have hl1 : (s.heap.push { cls := .type "set", dict := none, data := .set #[] 0 (.fresh 0 0 (!w.params.followText "set-order")) }).IsList l items := ⟨_, hol', rfl, nl, rfl⟩
        unfold Builtin.«set.__init__» noKeywords Builtin.Frozenset.updateFrom
        generalize hPI : pyIter = PI
        wp_walk
        subst hPI
        refine wpAny_pyIter_list hl1 ?_
        refine wpAny_bind (wpAny_runValue ?_)
        have hlS : l < s.heap.objs.size := Heap.lt_size hol
        have hh3 : A.in1.in1.in1.handled = none := by simp [hh]
        have hneI : l ≠ (s.heap.push { cls := .type "set", dict := none, data := .set #[] 0 (.fresh 0 0 (!w.params.followText "set-order")) }).objs.size := by
          rw [Heap.size_push]; exact nat_lt_ne hlS
        have hSf : s.heap.objs.size ∉ [(s.heap.push { cls := .type "set", dict := none, data := .set #[] 0 (.fresh 0 0 (!w.params.followText "set-order")) }).objs.size, l] := by
          rw [Heap.size_push]; simp only [List.mem_cons, List.mem_singleton, List.not_mem_nil, or_false, not_or]
          exact ⟨Nat.ne_of_lt (Nat.lt_succ_self _), Nat.ne_of_gt hlS⟩
        refine set_update_ints ((Walks.list hh3 _ l hneI items).toS) s.heap.objs.size
          hSf ns hisz hb hval (items.size - 0) 0 _ (by omega) (Nat.zero_le _)
          ⟨⟨_, Heap.get?_push_size _ rfl, rfl, rfl⟩, (hl1.push _)⟩ ?hS0 ?hR
        case hS0 =>
          have hget : ((s.heap.push { cls := .type "set", dict := none, data := .set #[] 0 (.fresh 0 0 (!w.params.followText "set-order")) }).push { cls := .type "list_iterator", data := .fields #[.ref l, .int 0 0] }).get? s.heap.objs.size
              = some { cls := .type "set", dict := none, data := .set #[] 0 (.fresh 0 0 (!w.params.followText "set-order")) } := Heap.get?_push_of_some _ hS
          exact ⟨0, Nat.le_refl 0, setR_new_at hget⟩
        case hR =>
          intro s' c' hm hc' hS'
          obtain ⟨h', g2, d', tk', os'⟩ := s'
          have eg : g2 = s.gens := hm.gens
          have ed : d' = s.drawn := hm.drawn
          have eo : os' = s.os := hm.os
          subst eg; subst ed; subst eo
          show wpAny _ _ _ _ _ _
          refine wpAny_pure ?_
          show wpAny _ _ (ret Value.none) _ _ _
          rw [hisz] at hc'
          refine wpAny_pure ⟨rfl, h', tk', c', rfl, hS', hc', fun b o e => ?_⟩
          have hb0 : b < s.heap.objs.size := Heap.lt_size e
          have hb2 : b ≠ (s.heap.push { cls := .type "set", dict := none, data := .set #[] 0 (.fresh 0 0 (!w.params.followText "set-order")) }).objs.size := by
            rw [Heap.size_push]; exact nat_lt_ne hb0
          exact hm.heap b o (by simp only [List.mem_cons, List.mem_singleton, List.not_mem_nil, or_false, not_or]; exact ⟨Nat.ne_of_lt hb0, hb2⟩) (Heap.get?_push_of_some _ (Heap.get?_push_of_some _ e))
      · cases r₂ with
        | error e => exact hr₂
        | ok fl₂ =>
          cases fl₂ with
          | ret r =>
            obtain ⟨rfl, h', tk, c', rfl, hS', hc', hk'⟩ := hr₂
            repeat (any_goals (first | assumption | wp_step))
            exact h _ _ _ hS' hc' hk'
          | _ => exact hr₂.elim
    | _ => exact hr.elim
end
theorem nodup_sub : ∀ {l L : List Int}, l.Nodup → (∀ k ∈ l, k ∈ L) → l.length ≤ L.length
  | [], _, _, _ => Nat.zero_le _
  | x :: r, L, hn, hs => by
    obtain ⟨hx, hr⟩ := List.nodup_cons.mp hn
    have hm := hs x List.mem_cons_self
    have h := nodup_sub (L := L.erase x) hr fun k hk => (List.mem_erase_of_ne fun e => hx (by rw [← e]; exact hk)).mpr (hs k (List.mem_cons_of_mem _ hk))
    rw [List.length_erase_of_mem hm] at h
    have hp := List.length_pos_of_mem hm
    rw [List.length_cons]
    omega
theorem setR_le {w : World} {h : Heap} {a : Addr} {ns L : List Int} {c : Nat} (R : SetR w h a (fun j => decide (j ∈ ns)) c) (hL : ∀ k ∈ ns, k ∈ L) : c ≤ L.length := by
  obtain ⟨o, es, ep, t, _, _, _, _, nd, iff, _, _, hc, _⟩ := R
  have q := nodup_sub (L := L) nd fun k hk => hL k (of_decide_eq_true ((iff k).mpr hk))
  rw [List.length_map, Array.length_toList] at q
  omega
/-- set(xs), a list or a tuple of ints -/
def rSetI (w : World) (K : PySem.W.Frag) : List V → Hp → VK → Prop := fun vs H Q => ∃ (a : Addr) (ns : List Int), vs = [V.ref a] ∧ (SqL K H a (ns.map V.int) ∨ SqT K H a (ns.map V.int)) ∧ ns.length ≤ 1000 ∧
  ∀ (p : Addr) (c : Nat), (∀ L : List Int, (∀ k ∈ ns, k ∈ L) → c ≤ L.length) → H p = none → Q (.ref p) (upd H p (SetO w p (fun j => decide (j ∈ ns)) c))
theorem cr_setI {X : Cx} (hc : X.calm = true) : CallR X (.type "set") (rSetI X.w X.K) := by
  intro pins s σ H vs us Q I r h
  obtain ⟨a, ns, rfl, hs, hl, q⟩ := h
  obtain ⟨u, rfl, ru⟩ := vals1 r
  cases (show u = Value.ref a from ru)
  have hsc : ns.length + 1 < scanBound := by unfold scanBound; omega
  have fin : ∀ (h' : Heap) (tk c : Nat), SetR X.w h' s.heap.objs.size (fun j => decide (j ∈ ns)) c → c ≤ ns.length → (∀ b o, s.heap.get? b = some o → h'.get? b = some o) → EP X pins σ Q (.ref s.heap.objs.size) { s with heap := h', toks := tk } := fun h' tk c R hcn k =>
    ⟨.ref s.heap.objs.size, _, I.laid (t' := tk) k (Nat.le_refl _) (setO_new R), rfl, q _ c (fun L hL => setR_le R hL) (I.hok.fresh (Nat.le_refl _))⟩
  rcases hs with hs | hs
  · obtain ⟨its, rv, p, hz⟩ := I.list hs
    exact call_set_listI ns (I.ok.hd hc) p.isList (ints_of_vals rv) hsc fin
  · obtain ⟨its, rv, p, hz⟩ := I.tuple hs
    exact call_set_tupI ns (I.ok.hd hc) (show s.heap.IsTuple a its.toArray from p) (ints_of_vals rv) hsc fin

/-! ### nested dicts that are equal: != says False -/
theorem ne_dictsP {prog : Program} {w : World} {K : Type} [DecidableEq K] {knd : KeyKind prog w K} {A : Around} {s : Shared} {a b : Addr} {ka kb : List (K × Value)} {r : Bool} (ha : (a == sysModules) = false) (hb : (b == sysModules) = false)
    (da : s.heap.DictOf knd a ka) (db : s.heap.DictOf knd b kb) (hu : A.units < cLine) (hits : ka.length = kb.length → PySem.W.KeqHitsP prog w A.in1 s kb ka r) (E Q : Value → Shared → Prop) (h : Q (.bool (!(ka.length == kb.length && r))) s) : wpAny (model prog w) A (compareOp .NotEq (.ref a) (.ref b)) Q E s := by
  refine wpAny_richCompare_same_room (op := .NotEq) da.typeIs db.typeIs PySem.F.slot_dict_ne (wpAny_call_entry PySem.F.slot_dict_ne da.typeIs PySem.F.entry_dict_ne ?_ (PySem.F.args_dict_ne_2 _ _)) hu
  show wpAny _ _ (Builtin.Dict.dictSlotArgs "__ne__" ⟨[.ref a, .ref b], []⟩ >>= _) _ _ s
  refine wpAny_bind ?_
  unfold Builtin.Dict.dictSlotArgs
  refine wpAny_bind (wpAny_notOrdered_dict da.typeIs ?_)
  show wpAny _ _ (pure (Value.ref a, Value.ref b)) _ _ s
  refine wpAny_pure ?_
  refine wpAny_bind (wpAny_isInstance (T := "dict") db.typeIs PySem.F.sub_dict_dict ?_)
  simp only [Bool.not_true, Bool.false_eq_true, if_false]
  refine wpAny_bind (wpAny_pure (wpAny_bind (wpAny_pure ?_)))
  refine wpAny_bind (PySem.W.samePairsP ha hb da db hits ?_)
  refine wpAny_pure ⟨_, rfl, ?_, ?_⟩
  · exact fun x => nomatch x
  · simpa using h
def rNeV (K : PySem.W.Frag) : R2 := fun x y H Q => ∃ n a b ks ls, n ≤ 60 ∧ x = .ref a ∧ y = .ref b ∧ H a = some (.dK ks) ∧ H b = some (.dK ls) ∧ ks.length = ls.length ∧ (∀ p ∈ ks, ∃ u, valV ls p.1 = some u ∧ EqV K H n p.2 u) ∧ Q (.bl false) H
theorem op_neV {X : Cx} (hu : X.A.units + 64 < cLine) : OpR X (compareOp .NotEq) (rNeV X.K) := by
  intro pins s σ H x y v u Q I rx ry h
  obtain ⟨n, a, b, ks, ls, hn, rfl, rfl, ha, hb, hl, hp, q⟩ := h
  cases (show v = Value.ref a from rx)
  cases (show u = Value.ref b from ry)
  obtain ⟨_, ya, va, ra, da⟩ := (show ObjOk X.prog X.w H s.heap a (.dK ks) from I.hok a _ ha)
  obtain ⟨_, yb, vb, rb, db⟩ := (show ObjOk X.prog X.w H s.heap b (.dK ls) from I.hok b _ hb)
  refine ne_dictsP (knd := mixKind X.prog X.w) (r := true) ya yb da db (by omega) (fun _ => hits_run (eqV_run I n X.A.in1 (by show X.A.units + 1 + n < cLine; omega)) rb ra hp) X.xe _ ?_
  have e : va.length = vb.length := by rw [← ra.length, ← rb.length]; exact hl
  rw [show (va.length == vb.length && true) = true from by rw [e]; simp]
  exact ⟨.bl false, H, I, rfl, q⟩
end RlR

/-! Further rules: tuple of a dict, a written dict walked, a tuple times one. -/
namespace RlR
open PySem PySem.Spec PyProof.Rows L2

/-! ### tuple(d): the keys -/
section
variable {prog : Program} {w : World} {A : Around} {E : Value → Shared → Prop} {s : Shared} {T : String} {r d : Addr} {n : Nat} {P : Nat → Value → Prop} {OK : Heap → Prop}
theorem collect_kdl {Q : List Value → Shared → Prop} (K : PySem.W.KdlSrc prog w T r d n P OK) (hh : A.handled = none) (hok : OK s.heap) (hn : n ≤ sizeLine)
    (hQ : ∀ (h' : Heap) (tk : Nat) (acc : Array Value), (∀ b o, s.heap.get? b = some o → h'.get? b = some o) → ItemsOf P acc n → Q acc.toList { s with heap := h', toks := tk }) :
    wpAny (model prog w) A (collect (.ref r)) Q E s := by
  unfold collect
  refine wpAny_bind (wpAny_runValue (codeAny_builtin F.entry_proto_collect ?_))
  rw [Around.under_plainId F.plain_proto_collect _]
  show wpAny _ A.in1 (newList [] >>= fun l => again (.builtin "list.__iadd__" ⟨[l, .ref r], []⟩)) _ _ s
  refine wpAny_bind (wpAny_newObj_type ?_)
  refine wpAny_pure ⟨plainId_quiet F.plain_list_iadd _, codeAny_builtin F.entry_list_iadd ?_⟩
  rw [Around.under_plainId F.plain_list_iadd _]
  show wpAny _ A.in1 (Builtin.List.listExtendWith (.ref s.heap.objs.size) (.ref r) (.ref s.heap.objs.size)) _ _ _
  have hS : (s.heap.push { cls := .type "list", data := .seq ([] : List Value).toArray }).get? s.heap.objs.size = some { cls := .type "list", data := .seq #[] 0 } := Heap.get?_push_size _ rfl
  have hlt := K.there _ hok
  refine wpAny_mono (PySem.W.kdl_extend (A := A) (R := fun rr s' => rr = .ok (.ret (.ref s.heap.objs.size)) ∧ ∃ (h' : Heap) (tk : Nat) (acc : Array Value) (c' : Nat), s' = { s with heap := h', toks := tk } ∧
      (∀ b o, s.heap.get? b = some o → h'.get? b = some o) ∧ h'.get? s.heap.objs.size = some { cls := .type "list", dict := none, data := .seq acc c', slots := #[] } ∧ ItemsOf P acc n)
    (s := { s with heap := s.heap.push { cls := .type "list", data := .seq ([] : List Value).toArray } }) K hh (K.keep _ _ hok fun b _ o e => Heap.get?_push_of_some _ e) _ (Nat.ne_of_gt hlt.1) (Nat.ne_of_gt hlt.2) _ 0 hS
    (fun h' tk acc c' hk e hi => ⟨rfl, h', tk, acc, c', rfl, fun b o q => hk b o (Nat.ne_of_lt (Heap.lt_size q)) (Heap.get?_push_of_some _ q), e, hi⟩) hn) (fun fin s' h => ?_) (fun e s' h => ?_)
  · cases fin with
    | done f =>
      obtain ⟨e, h', tk, acc, c', rfl, hk, hS', hi⟩ := h
      cases e
      show wpAny _ A (load s.heap.objs.size >>= _) _ _ _
      exact wpAny_bind (wpAny_load hS' (wpAny_pure (hQ h' tk acc hk hi)))
    | again c' =>
      refine ⟨h.1, codeAny_mono h.2 fun rr s'' hr' => ?_⟩
      obtain ⟨rfl, h', tk, acc, c', rfl, hk, hS', hi⟩ := hr'
      show wpAny _ A (load s.heap.objs.size >>= _) _ _ _
      exact wpAny_bind (wpAny_load hS' (wpAny_pure (hQ h' tk acc hk hi)))
  · exact absurd h.1 (by simp)
theorem code_tuple_new_kdl {Q₁ : Value → Shared → Prop} (K : PySem.W.KdlSrc prog w "dict" r d n P OK) (hh : A.handled = none) (hok : OK s.heap) (hn : n ≤ sizeLine)
    (h : ∀ (h' : Heap) (tk : Nat) (acc : Array Value), (∀ b o, s.heap.get? b = some o → h'.get? b = some o) → ItemsOf P acc n →
      Q₁ (.ref h'.objs.size) { s with heap := h'.push { cls := .type "tuple", data := .seq acc }, toks := tk }) :
    codeAny (model prog w) A (.call (.builtin "tuple.__new__") ⟨[.type "tuple", .ref r], []⟩) (wants Q₁ E) s := by
  refine codeAny_of_tree ?_
  show wpAny _ A.in1 (do checkBuiltinCall "tuple.__new__" ⟨[.type "tuple", .ref r], []⟩; again (.builtin "tuple.__new__" ⟨[.type "tuple", .ref r], []⟩)) _ _ s
  refine wpAny_bind (wpAny_of_eq (F.newCall_tuple_1 _) (wpAny_pure ⟨plainId_quiet F.plain_tuple_new _, codeAny_builtin F.entry_tuple_new ?_⟩))
  rw [Around.under_plainId F.plain_tuple_new _]
  have hsub := sub_tuple_self
  have hinit := init_tuple_lookup
  have hmh := madeHere_tuple
  have hTI : s.TypeIs (.ref r) "dict" := K.type s hok
  have hh1 : A.in1.handled = none := hh
  wp_walk using wpAny_typeOf hTI, collect_kdl (A := A.in1) K hh1 hok hn
  intro h' tk acc hk hacc
  show wpAny _ _ (Builtin.Tuple.tupleExact acc.toList.toArray >>= fun v => ret v) _ _ _
  unfold Builtin.Tuple.tupleExact
  refine wpAny_bind (wpAny_newObj_type ?_ (by show acc.toList.toArray.size ≤ sizeLine; simp only [Array.toArray_toList]; rw [hacc.1]; exact hn))
  refine wpAny_pure ?_
  have e : acc.toList.toArray = acc := by simp
  rw [e]
  exact h h' tk acc hk hacc
theorem call_tuple_kdl {Q : Value → Shared → Prop} (K : PySem.W.KdlSrc prog w "dict" r d n P OK) (hh : A.handled = none) (hok : OK s.heap) (hn : n ≤ sizeLine)
    (hQ : ∀ (h' : Heap) (tk : Nat) (acc : Array Value), (∀ b o, s.heap.get? b = some o → h'.get? b = some o) → ItemsOf P acc n → Q (.ref h'.objs.size) { s with heap := h'.push { cls := .type "tuple", data := .seq acc }, toks := tk }) :
    wpAny (model prog w) A (call (.type "tuple") [.ref r]) Q E s := by
  refine callType_codes (Q₁ := fun obj s₁ => s₁.TypeIs obj "tuple" ∧ Q obj s₁) F.called_tuple (F.typeCall_tuple_1 _) F.entry_object_init
    (code_tuple_new_kdl (A := A.in1) K hh hok hn fun h' tk acc hk hacc => ⟨⟨_, Heap.get?_push_size _ rfl, rfl⟩, hQ h' tk acc hk hacc⟩) fun obj s₁ h₁ => ?_
  exact ⟨h₁.1, F.args_object_init_2 obj _, object_init_meets F.called_tuple.init.lookup F.called_tuple.made (by decide) prog w A.in1 _ s₁ ⟨h₁.1, rfl, h₁.2⟩⟩
end
def rTupD : List V → Hp → VK → Prop := fun xs H Q => ∃ p kvs, xs = [.ref p] ∧ H p = some (.dK kvs) ∧ ∀ q, H q = none → Q (.ref q) (upd H q (.tup (kvs.map fun kv => kV kv.1)))
theorem call_tupD {X : Cx} (hc : X.calm = true) : CallR X (.type "tuple") rTupD := by
  intro pins s σ H xs us Q I r h
  obtain ⟨p, kvs, e, hk, q⟩ := h
  subst e
  obtain ⟨u, eu, rx⟩ := vals1 r
  subst eu
  obtain rfl : u = Value.ref p := rx
  obtain ⟨z, lo, vs, rk, hd⟩ := (show ObjOk X.prog X.w H s.heap p (.dK kvs) from I.hok p _ hk)
  obtain ⟨ep, hat⟩ := hd.dictAt
  have hl : kvs.length = vs.length := Paired.length rk
  refine call_tuple_kdl (PySem.W.kdl_dict (knd := mixKind X.prog X.w) (kvs := vs) (ep := ep) lo) (I.ok.hd hc) hat (by rw [← hl]; exact z) fun h' tk acc' hkeep hacc => ?_
  have I1 : Inv X pins σ H { s with heap := h' } := I.kept (t' := s.toks) hkeep
  have el : acc'.toList.length = acc'.size := by simp
  have rel : Vals (kvs.map fun kv => kV kv.1) acc'.toList := by
    refine vals_of_at (by rw [List.length_map, el, hacc.1, hl]) fun j x w h1 h2 => ?_
    obtain ⟨k, y, hky, hi⟩ := hacc.2 j w (by rw [← Array.getElem?_toList]; exact h2)
    have e1 : (kvs.map (·.1))[j]? = some k := by
      rw [KV.keys rk, List.getElem?_map, hky] <;> rfl
    have e2 : (kvs.map fun kv => kV kv.1)[j]? = some (kV k) := by
      have e3 : (kvs.map fun kv => kV kv.1) = (kvs.map (·.1)).map kV := by rw [List.map_map] <;> rfl
      rw [e3, List.getElem?_map, e1] <;> rfl
    rw [e2] at h1
    cases h1
    exact keyIs_rel hi
  refine ⟨.ref h'.objs.size, upd H h'.objs.size (.tup (kvs.map fun kv => kV kv.1)), I1.laid (t' := tk) (fun b o e => Heap.get?_push_of_some _ e) (Nat.le_refl _) ⟨?_, acc'.toList, rel, ?_⟩, rfl, q _ (I1.hok.fresh (Nat.le_refl _))⟩
  · rw [List.length_map]; exact z
  · rw [Array.toArray_toList]; exact IsTup.new _ _

/-! ### for k in d, d a dict of the written part, its keys texts -/
/-- the texts at its keys, in order -/
def keyTexts (es : Array DictEntry) : List Str := es.toList.map fun e => match e.key with | .str x _ => x | _ => Str.empty
structure KWalk (K : PySem.W.Frag) (w : World) (d : Addr) (zs : List Str) : Prop where
  ex : ∃ es n, K.lookup d = some ⟨.type "dict", none, .dict es n, #[]⟩ ∧ PySem.W.KeysLit w.params es.toList ∧ keyTexts es = zs
  low : (d == sysModules) = false
def Itkd (zs : List Str) : It := ⟨fun i _ => i < zs.length, fun i H x H' => H' = H ∧ ∃ z, zs[i]? = some z ∧ x = .str z, fun i _ => zs.length ≤ i⟩
theorem keyTexts_at {P : Params} {es : Array DictEntry} (hk : PySem.W.KeysLit P es.toList) {i : Nat} (hi : i < es.size) : ∃ (en : DictEntry) (z : Str) (t : Tok), es[i]? = some en ∧ en.key = .str z t ∧ (keyTexts es)[i]? = some z := by
  obtain ⟨z, t, e1, _⟩ := hk.all es[i] (Array.mem_toList_iff.mpr (Array.getElem_mem hi))
  refine ⟨es[i], z, t, Array.getElem?_eq_getElem hi, e1, ?_⟩
  unfold keyTexts
  rw [List.getElem?_map, Array.getElem?_toList, Array.getElem?_eq_getElem hi]
  simp [e1]
theorem turn_kd {P : Program} {w : World} {K : PySem.W.Frag} {tg : Expr} {d : Addr} {es : Array DictEntry} {n : Nat} (it : Addr) (hl : K.lookup d = some ⟨.type "dict", none, .dict es n, #[]⟩) (hk : PySem.W.KeysLit w.params es.toList) :
    Turn P w K tg (Itkd (keyTexts es)) [it] it (fun i h => h.IsKeyIter it d i es.size n) where
  mem := by simp
  obj := fun i h st b hb => by
    have e : b = it := by simpa using hb
    subst e
    obtain ⟨oi, e, c, dd⟩ := st
    exact ⟨oi, e, fun v z => by rw [dd] at z; cases z⟩
  keep := fun i h h' st k => st.at fun oi e => k it (by simp) oi e
  item := by
    intro X hP hw hK hc i pins s σ H E I hf st hg
    subst hP hw hK
    have hg' : i < (keyTexts es).length := hg
    have hi : i < es.size := by rw [keyTexts, List.length_map, Array.length_toList] at hg'; exact hg'
    obtain ⟨f0, f1, f2, f3, f4, f5⟩ := hf it (by simp)
    have hgd := I.kIn _ _ hl
    obtain ⟨en, z, t, hen, ek, hz⟩ := keyTexts_at hk hi
    refine next_key_item (en := en) st hgd rfl rfl hen fun h' st' sb => ?_
    have I1 : Inv X pins σ H { s with heap := h' } := I.turned (t' := s.toks) (fun b ob hb e => (sb.2 b hb).trans e) f0 f1 f3 f4 f5
    obtain ⟨oi, e, c, dd⟩ := id st'
    exact ⟨en.key, rfl, go_of (s := { s with heap := h' }) e c dd (by decide) ⟨.str z, H, I1, ⟨t, ek⟩, ⟨rfl, z, hz, rfl⟩, st', fun b hb => (hf b hb).1⟩⟩
  done := by
    intro X hP hw hK hc i pins s σ H E I hf st hg
    subst hP hw hK
    have hg' : (keyTexts es).length ≤ i := hg
    have hi : es.size ≤ i := by rw [keyTexts, List.length_map, Array.length_toList] at hg'; exact hg'
    obtain ⟨f0, f1, f2, f3, f4, f5⟩ := hf it (by simp)
    have hgd := I.kIn _ _ hl
    exact next_key_end (I.ok.hd hc) st hgd rfl rfl hi fun h' eb => ⟨rfl, I.turned (t' := s.toks) (fun b ob hb e => eb b ob hb e) f0 f1 f3 f4 f5⟩
  self := fun A i s Q E st h => wpAny_pyIter_keyiter st h
def iKd (K : PySem.W.Frag) (w : World) (td : TE) : TI := fun σ H R => td σ H fun x H1 => ∃ d zs, x = .ref d ∧ KWalk K w d zs ∧ R (Itkd zs) H1
theorem pi_kd {X : Cx} {tg e : Expr} {td : TE} (he : PE X e td) : PI X tg e (iKd X.K X.w td) := by
  refine ⟨fun pins s σ H R I h => ?_⟩
  refine thn (he.run pins s σ H _ I h) fun u s1 ⟨x, H1, I1, rx, d, zs, ex, kw, q⟩ => ?_
  subst ex
  obtain rfl : u = Value.ref d := rx
  obtain ⟨es, n, hl, hk, ez⟩ := kw.ex
  subst ez
  exact iter_keys kw.low (I1.kIn _ _ hl) ⟨rfl, rfl, rfl⟩ rfl (pi_one (tk := s1.toks) I1 _ (turn_kd _ hl hk) ⟨_, Heap.get?_push_size _ rfl, rfl, rfl⟩ q)
theorem walk_kd {zs : List Str} : Walk (Itkd zs) zs.length (fun _ => True) (fun i H x H' => H' = H ∧ ∃ z, zs[i]? = some z ∧ x = .str z) :=
  ⟨fun _ _ hi _ => hi, fun _ _ => Nat.le_refl _, fun _ _ _ _ _ _ y => y⟩

/-! ### a tuple times a number, one too -/
theorem tuple_mul1 (l : Addr) (items : Array Value) (n : Nat) (dd : Option Addr) (sl : Array (Option Value)) (u : Tok) :
    Meets (Builtin.«tuple.__mul__» ⟨[.ref l, .int 1 u], []⟩) (fun _ R s => s.heap.get? l = some { cls := .type "tuple", dict := dd, data := .seq items n, slots := sl } ∧ R (.ok (.ret (Value.ref l))) s) :=
  .of_wp fun prog w A R s h => by
    obtain ⟨hp, g, d, tk, os⟩ := s
    obtain ⟨hl, h⟩ := h
    have f1 := AutoSeq1.idx_int
    have c1 : (items.isEmpty || (1 : Int) == 1) = true := by simp
    wp_walk using AutoSeq1.wpAny_loadPart' hl
    all_goals exact ⟨_, rfl, h⟩
def rRep1 (K : PySem.W.Frag) : R2 := fun x y H Q => ∃ l xs, x = .ref l ∧ y = .int 1 ∧ SqT K H l xs ∧ Q (.ref l) H
theorem op_rep1 {X : Cx} : OpR X (binaryOp .Mult) (rRep1 X.K) := by
  intro pins s σ H x y v u Q I rx ry h
  obtain ⟨l, xs, rfl, rfl, hT, q⟩ := h
  cases (show v = Value.ref l from rx)
  obtain ⟨t, rfl⟩ := (show ∃ t, u = Value.int 1 t from ry)
  obtain ⟨its, r, ⟨⟨cls, dd, data, sl⟩, ho, hc, n, hd⟩, hs⟩ := I.tuple hT
  simp only at hc hd
  subst hc hd
  exact wpAny_binaryOp_repeat_ref (T := "tuple") (U := "int") (by decide) ⟨_, ho, rfl⟩ (fun s' => typeIs_int s' 1 t) noFill_tuple_mul F.fills_int_mul F.slot_int_rmul repeat_tuple F.slot_int_index.lookup
    (call_meets F.slot_int_rmul (typeIs_int s 1 t) F.entry_int_rmul (F.args_int_rmul_2 _ _) (int_rmul_tuple 1 t l its.toArray n dd sl)
      ⟨ho, rfl, ⟨_, ho, rfl⟩, call_meets F.slot_tuple_mul ⟨_, ho, rfl⟩ F.entry_tuple_mul (F.args_tuple_mul_2 _ _) (tuple_mul1 l its.toArray n dd sl t) ⟨ho, ⟨.ref l, H, I, rfl, q⟩⟩⟩)
theorem op_repTA {X : Cx} : OpR X (binaryOp .Mult) (fun x y H Q => rRepT X.K x y H Q ∨ rRep1 X.K x y H Q) := op_repT.or op_rep1
end RlR

/-! x not in d, d of the written part, x one of its keys. -/
namespace RlR
open PySem PySem.Spec PyProof.Rows L2
def rNotInK (K : PySem.W.Frag) (w : World) : R2 := fun x y H Q => ∃ p z v, x = .str z ∧ y = .ref p ∧ KDct K w p z v ∧ (p == sysModules) = false ∧ Q (.bl false) H
theorem opNotInK {X : Cx} {K : PySem.W.Frag} {w : World} (hK : X.K = K) (hw : X.w = w) : OpR X (compareOp .NotIn) (rNotInK K w) := by
  subst hK hw
  intro pins s σ H x y v u Q I rx ry h
  obtain ⟨p, z, r, rfl, rfl, ⟨es, n, u0, hl, hk, e, ru⟩, low, q⟩ := h
  obtain rfl : u = Value.ref p := ry
  obtain ⟨t, rfl⟩ := rx
  have hm := PySem.W.mapOf_K (prog := X.prog) (w := X.w) I.kIn hl hk
  refine wpAny_notIn_of (strKind_is X.prog X.w z t) low hm ?_
  rw [PySem.W.find_K hl e]
  exact ⟨.bl false, H, I.tok _, rfl, q⟩
end RlR

/-! The program's text by places, and what its top has left. Printed by gen.py. -/
namespace RL
open PySem L2 RlR
def top (i : Nat) : Stmt := PySem.Challenge.pw_rowlaid_k47_whole_finished_alike.main.body.getD i (.Pass ⟨0, 0, 0, 0⟩)
abbrev s_is_whole : Stmt := top 13
abbrev s_is_from_to : Stmt := top 14
abbrev s_is_worth : Stmt := top 15
abbrev s_are_worths : Stmt := top 16
abbrev s_need_worths : Stmt := top 17
abbrev s_has_word : Stmt := top 18
abbrev s_parts_of : Stmt := top 19
abbrev s_is_made_term : Stmt := top 20
abbrev s_is_made_place : Stmt := top 21
abbrev s_tuples_in : Stmt := top 22
abbrev s_is_term : Stmt := top 23
abbrev s_is_place : Stmt := top 24
abbrev s_keys_named : Stmt := top 25
abbrev s_place_key : Stmt := top 26
abbrev s_two_reckoned : Stmt := top 27
abbrev s_reckoned : Stmt := top 28
abbrev s_is_step : Stmt := top 32
abbrev s_is_piece : Stmt := top 33
abbrev s_is_deal : Stmt := top 34
abbrev s_need_board : Stmt := top 35
abbrev s_Doing_init : Stmt := inClass (top 36) 0
abbrev s_Doing_reckon : Stmt := inClass (top 36) 1
abbrev s_Doing_put : Stmt := inClass (top 36) 2
abbrev s_Doing_step : Stmt := inClass (top 36) 3
abbrev s_Doing_outcome : Stmt := inClass (top 36) 4
abbrev s_gone : Stmt := top 37
abbrev s_done_in : Stmt := top 38
abbrev s_rising : Stmt := top 40
abbrev s_touched_in : Stmt := top 41
abbrev s_is_key : Stmt := top 46
abbrev s_are_keys : Stmt := top 47
abbrev s_is_laid : Stmt := top 48
abbrev s_is_laid_row : Stmt := top 49
abbrev s_need_laid_row : Stmt := top 50
abbrev s_done_laid_in : Stmt := top 51
abbrev s_run_laid_in : Stmt := top 52
abbrev s_run_laid : Stmt := top 53
abbrev s_is_house_number : Stmt := top 57
abbrev s_need_owners : Stmt := top 58
abbrev s_House_init : Stmt := inClass (top 59) 0
abbrev s_Crew_init : Stmt := inClass (top 60) 0
abbrev s_Crew_wanting : Stmt := inClass (top 60) 1
abbrev s_Crew_keys_of : Stmt := inClass (top 60) 2
abbrev s_Crew_due_of : Stmt := inClass (top 60) 3
abbrev s_Crew_may_send : Stmt := inClass (top 60) 4
abbrev s_Crew_may_take : Stmt := inClass (top 60) 5
abbrev s_Crew_may_go : Stmt := inClass (top 60) 6
abbrev s_Crew_may : Stmt := inClass (top 60) 7
abbrev s_Crew_may_do : Stmt := inClass (top 60) 8
abbrev s_Crew_need_deed : Stmt := inClass (top 60) 9
abbrev s_Crew_need_house : Stmt := inClass (top 60) 10
abbrev s_Crew_do : Stmt := inClass (top 60) 11
abbrev s_Crew_send : Stmt := inClass (top 60) 12
abbrev s_Crew_board_of : Stmt := inClass (top 60) 13
abbrev s_Crew_go : Stmt := inClass (top 60) 14
abbrev s_Crew_houses : Stmt := inClass (top 60) 15
abbrev s_Crew_worths : Stmt := inClass (top 60) 16
abbrev s_finish : Stmt := top 62
abbrev s_law_mill : Stmt := top 64
abbrev s_law_grain : Stmt := top 65
abbrev s_law_worth : Stmt := top 66
abbrev s_law_term : Stmt := top 67
abbrev s_law_place : Stmt := top 68
abbrev s_law_step : Stmt := top 69
abbrev s_law_deal : Stmt := top 70
abbrev s_law_board : Stmt := top 71
abbrev s_law_reckon : Stmt := top 72
abbrev s_law_key : Stmt := top 73
abbrev s_law_gone : Stmt := top 74
abbrev s_law_laid_on : Stmt := top 75
abbrev s_law_laid_row : Stmt := top 76
abbrev s_law_laid : Stmt := top 77
abbrev s_law_run : Stmt := top 78
abbrev s_law_owners : Stmt := top 79
abbrev s_law_due : Stmt := top 80
abbrev s_law : Stmt := top 81
theorem sc_is_whole : FnScope ["thing"] ["thing"] (defScope s_is_whole) := ⟨rfl, rfl, rfl, by decide +kernel, rfl, by decide +kernel, by decide +kernel⟩
theorem sc_is_from_to : FnScope ["thing", "least", "most"] ["thing", "least", "most"] (defScope s_is_from_to) := ⟨rfl, rfl, rfl, by decide +kernel, rfl, by decide +kernel, by decide +kernel⟩
theorem sc_is_worth : FnScope ["thing"] ["thing"] (defScope s_is_worth) := ⟨rfl, rfl, rfl, by decide +kernel, rfl, by decide +kernel, by decide +kernel⟩
theorem sc_are_worths : FnScope ["thing", "one"] ["thing"] (defScope s_are_worths) := ⟨rfl, rfl, rfl, by decide +kernel, rfl, by decide +kernel, by decide +kernel⟩
theorem sc_need_worths : FnScope ["board"] ["board"] (defScope s_need_worths) := ⟨rfl, rfl, rfl, by decide +kernel, rfl, by decide +kernel, by decide +kernel⟩
theorem sc_has_word : FnScope ["thing", "size", "words"] ["thing", "size", "words"] (defScope s_has_word) := ⟨rfl, rfl, rfl, by decide +kernel, rfl, by decide +kernel, by decide +kernel⟩
theorem sc_parts_of : FnScope ["thing"] ["thing"] (defScope s_parts_of) := ⟨rfl, rfl, rfl, by decide +kernel, rfl, by decide +kernel, by decide +kernel⟩
theorem sc_is_made_term : FnScope ["thing", "deep"] ["thing", "deep"] (defScope s_is_made_term) := ⟨rfl, rfl, rfl, by decide +kernel, rfl, by decide +kernel, by decide +kernel⟩
theorem sc_is_made_place : FnScope ["thing", "deep"] ["thing", "deep"] (defScope s_is_made_place) := ⟨rfl, rfl, rfl, by decide +kernel, rfl, by decide +kernel, by decide +kernel⟩
theorem sc_tuples_in : FnScope ["thing", "found", "part"] ["thing"] (defScope s_tuples_in) := ⟨rfl, rfl, rfl, by decide +kernel, rfl, by decide +kernel, by decide +kernel⟩
theorem sc_is_term : FnScope ["thing"] ["thing"] (defScope s_is_term) := ⟨rfl, rfl, rfl, by decide +kernel, rfl, by decide +kernel, by decide +kernel⟩
theorem sc_is_place : FnScope ["thing"] ["thing"] (defScope s_is_place) := ⟨rfl, rfl, rfl, by decide +kernel, rfl, by decide +kernel, by decide +kernel⟩
theorem sc_keys_named : FnScope ["thing", "one"] ["thing"] (defScope s_keys_named) := ⟨rfl, rfl, rfl, by decide +kernel, rfl, by decide +kernel, by decide +kernel⟩
theorem sc_place_key : FnScope ["place", "board", "looks"] ["place", "board", "looks"] (defScope s_place_key) := ⟨rfl, rfl, rfl, by decide +kernel, rfl, by decide +kernel, by decide +kernel⟩
theorem sc_two_reckoned : FnScope ["word", "one", "other"] ["word", "one", "other"] (defScope s_two_reckoned) := ⟨rfl, rfl, rfl, by decide +kernel, rfl, by decide +kernel, by decide +kernel⟩
theorem sc_reckoned : FnScope ["term", "board", "looks", "key", "one"] ["term", "board", "looks"] (defScope s_reckoned) := ⟨rfl, rfl, rfl, by decide +kernel, rfl, by decide +kernel, by decide +kernel⟩
theorem sc_is_step : FnScope ["keys", "thing", "word", "sort", "piece"] ["keys", "thing"] (defScope s_is_step) := ⟨rfl, rfl, rfl, by decide +kernel, rfl, by decide +kernel, by decide +kernel⟩
theorem sc_is_piece : FnScope ["keys", "sort", "thing", "key"] ["keys", "sort", "thing"] (defScope s_is_piece) := ⟨rfl, rfl, rfl, by decide +kernel, rfl, by decide +kernel, by decide +kernel⟩
theorem sc_is_deal : FnScope ["keys", "thing", "step"] ["keys", "thing"] (defScope s_is_deal) := ⟨rfl, rfl, rfl, by decide +kernel, rfl, by decide +kernel, by decide +kernel⟩
theorem sc_need_board : FnScope ["board"] ["board"] (defScope s_need_board) := ⟨rfl, rfl, rfl, by decide +kernel, rfl, by decide +kernel, by decide +kernel⟩
theorem sc_Doing_init : FnScope ["self", "board"] ["self", "board"] (defScope s_Doing_init) := ⟨rfl, rfl, rfl, by decide +kernel, rfl, by decide +kernel, by decide +kernel⟩
theorem sc_Doing_reckon : FnScope ["self", "term"] ["self", "term"] (defScope s_Doing_reckon) := ⟨rfl, rfl, rfl, by decide +kernel, rfl, by decide +kernel, by decide +kernel⟩
theorem sc_Doing_put : FnScope ["self", "place", "term", "key"] ["self", "place", "term"] (defScope s_Doing_put) := ⟨rfl, rfl, rfl, by decide +kernel, rfl, by decide +kernel, by decide +kernel⟩
theorem sc_Doing_step : FnScope ["self", "number", "step"] ["self", "number", "step"] (defScope s_Doing_step) := ⟨rfl, rfl, rfl, by decide +kernel, rfl, by decide +kernel, by decide +kernel⟩
theorem sc_Doing_outcome : FnScope ["self"] ["self"] (defScope s_Doing_outcome) := ⟨rfl, rfl, rfl, by decide +kernel, rfl, by decide +kernel, by decide +kernel⟩
theorem sc_gone : FnScope ["deal", "board", "doing", "number", "step"] ["deal", "board"] (defScope s_gone) := ⟨rfl, rfl, rfl, by decide +kernel, rfl, by decide +kernel, by decide +kernel⟩
theorem sc_done_in : FnScope ["deal", "board"] ["deal", "board"] (defScope s_done_in) := ⟨rfl, rfl, rfl, by decide +kernel, rfl, by decide +kernel, by decide +kernel⟩
theorem sc_rising : FnScope ["keys"] ["keys"] (defScope s_rising) := ⟨rfl, rfl, rfl, by decide +kernel, rfl, by decide +kernel, by decide +kernel⟩
theorem sc_touched_in : FnScope ["deal", "board", "last", "answer", "looks", "puts"] ["deal", "board"] (defScope s_touched_in) := ⟨rfl, rfl, rfl, by decide +kernel, rfl, by decide +kernel, by decide +kernel⟩
theorem sc_is_key : FnScope ["keys", "thing"] ["keys", "thing"] (defScope s_is_key) := ⟨rfl, rfl, rfl, by decide +kernel, rfl, by decide +kernel, by decide +kernel⟩
theorem sc_are_keys : FnScope ["keys", "thing", "key", "at"] ["keys", "thing"] (defScope s_are_keys) := ⟨rfl, rfl, rfl, by decide +kernel, rfl, by decide +kernel, by decide +kernel⟩
theorem sc_is_laid : FnScope ["keys", "thing"] ["keys", "thing"] (defScope s_is_laid) := ⟨rfl, rfl, rfl, by decide +kernel, rfl, by decide +kernel, by decide +kernel⟩
theorem sc_is_laid_row : FnScope ["keys", "thing", "laid"] ["keys", "thing"] (defScope s_is_laid_row) := ⟨rfl, rfl, rfl, by decide +kernel, rfl, by decide +kernel, by decide +kernel⟩
theorem sc_need_laid_row : FnScope ["keys", "row"] ["keys", "row"] (defScope s_need_laid_row) := ⟨rfl, rfl, rfl, by decide +kernel, rfl, by decide +kernel, by decide +kernel⟩
theorem sc_done_laid_in : FnScope ["laid", "board", "deal", "keys", "looks", "puts", "key"] ["laid", "board"] (defScope s_done_laid_in) := ⟨rfl, rfl, rfl, by decide +kernel, rfl, by decide +kernel, by decide +kernel⟩
theorem sc_run_laid_in : FnScope ["board", "row", "boards", "answers", "laid", "answer"] ["board", "row"] (defScope s_run_laid_in) := ⟨rfl, rfl, rfl, by decide +kernel, rfl, by decide +kernel, by decide +kernel⟩
theorem sc_run_laid : FnScope ["board", "row", "boards", "answers"] ["board", "row"] (defScope s_run_laid) := ⟨rfl, rfl, rfl, by decide +kernel, rfl, by decide +kernel, by decide +kernel⟩
theorem sc_is_house_number : FnScope ["thing"] ["thing"] (defScope s_is_house_number) := ⟨rfl, rfl, rfl, by decide +kernel, rfl, by decide +kernel, by decide +kernel⟩
theorem sc_need_owners : FnScope ["board", "owners", "house"] ["board", "owners"] (defScope s_need_owners) := ⟨rfl, rfl, rfl, by decide +kernel, rfl, by decide +kernel, by decide +kernel⟩
theorem sc_House_init : FnScope ["self", "own"] ["self", "own"] (defScope s_House_init) := ⟨rfl, rfl, rfl, by decide +kernel, rfl, by decide +kernel, by decide +kernel⟩
theorem sc_Crew_init : FnScope ["self", "owners", "board", "row", "house", "own", "key", "deal", "keys"] ["self", "owners", "board", "row"] (defScope s_Crew_init) := ⟨rfl, rfl, rfl, by decide +kernel, rfl, by decide +kernel, by decide +kernel⟩
theorem sc_Crew_wanting : FnScope ["self", "number"] ["self", "number"] (defScope s_Crew_wanting) := ⟨rfl, rfl, rfl, by decide +kernel, rfl, by decide +kernel, by decide +kernel⟩
theorem sc_Crew_keys_of : FnScope ["self", "number", "house", "key"] ["self", "number", "house"] (defScope s_Crew_keys_of) := ⟨rfl, rfl, rfl, by decide +kernel, rfl, by decide +kernel, by decide +kernel⟩
theorem sc_Crew_due_of : FnScope ["self", "house", "count"] ["self", "house"] (defScope s_Crew_due_of) := ⟨rfl, rfl, rfl, by decide +kernel, rfl, by decide +kernel, by decide +kernel⟩
theorem sc_Crew_may_send : FnScope ["self", "house", "number"] ["self", "house"] (defScope s_Crew_may_send) := ⟨rfl, rfl, rfl, by decide +kernel, rfl, by decide +kernel, by decide +kernel⟩
theorem sc_Crew_may_take : FnScope ["self", "house", "other", "number"] ["self", "house", "other"] (defScope s_Crew_may_take) := ⟨rfl, rfl, rfl, by decide +kernel, rfl, by decide +kernel, by decide +kernel⟩
theorem sc_Crew_may_go : FnScope ["self", "house", "number", "some", "desk", "other"] ["self", "house"] (defScope s_Crew_may_go) := ⟨rfl, rfl, rfl, by decide +kernel, rfl, by decide +kernel, by decide +kernel⟩
theorem sc_Crew_may : FnScope ["self", "found", "house", "other"] ["self"] (defScope s_Crew_may) := ⟨rfl, rfl, rfl, by decide +kernel, rfl, by decide +kernel, by decide +kernel⟩
theorem sc_Crew_may_do : FnScope ["self", "deed"] ["self", "deed"] (defScope s_Crew_may_do) := ⟨rfl, rfl, rfl, by decide +kernel, rfl, by decide +kernel, by decide +kernel⟩
theorem sc_Crew_need_deed : FnScope ["self", "deed", "house"] ["self", "deed"] (defScope s_Crew_need_deed) := ⟨rfl, rfl, rfl, by decide +kernel, rfl, by decide +kernel, by decide +kernel⟩
theorem sc_Crew_need_house : FnScope ["self", "house"] ["self", "house"] (defScope s_Crew_need_house) := ⟨rfl, rfl, rfl, by decide +kernel, rfl, by decide +kernel, by decide +kernel⟩
theorem sc_Crew_do : FnScope ["self", "deed", "word", "house"] ["self", "deed"] (defScope s_Crew_do) := ⟨rfl, rfl, rfl, by decide +kernel, rfl, by decide +kernel, by decide +kernel⟩
theorem sc_Crew_send : FnScope ["self", "house", "number", "own", "key"] ["self", "house"] (defScope s_Crew_send) := ⟨rfl, rfl, rfl, by decide +kernel, rfl, by decide +kernel, by decide +kernel⟩
theorem sc_Crew_board_of : FnScope ["self", "house", "number", "board", "other", "letter", "key", "worth"] ["self", "house", "number"] (defScope s_Crew_board_of) := ⟨rfl, rfl, rfl, by decide +kernel, rfl, by decide +kernel, by decide +kernel⟩
theorem sc_Crew_go : FnScope ["self", "house", "number", "member", "board", "answer", "key"] ["self", "house"] (defScope s_Crew_go) := ⟨rfl, rfl, rfl, by decide +kernel, rfl, by decide +kernel, by decide +kernel⟩
theorem sc_Crew_houses : FnScope ["self"] ["self"] (defScope s_Crew_houses) := ⟨rfl, rfl, rfl, by decide +kernel, rfl, by decide +kernel, by decide +kernel⟩
theorem sc_Crew_worths : FnScope ["self", "house"] ["self", "house"] (defScope s_Crew_worths) := ⟨rfl, rfl, rfl, by decide +kernel, rfl, by decide +kernel, by decide +kernel⟩
theorem sc_finish : FnScope ["owners", "board", "row", "crew", "deeds", "found", "house"] ["owners", "board", "row"] (defScope s_finish) := ⟨rfl, rfl, rfl, by decide +kernel, rfl, by decide +kernel, by decide +kernel⟩
theorem sc_law_mill : FnScope ["cell", "at", "fine", "coarse", "flour"] ["cell", "at"] (defScope s_law_mill) := ⟨rfl, rfl, rfl, by decide +kernel, rfl, by decide +kernel, by decide +kernel⟩
theorem sc_law_grain : FnScope ["sack", "many", "at", "cell", "found"] ["sack", "many"] (defScope s_law_grain) := ⟨rfl, rfl, rfl, by decide +kernel, rfl, by decide +kernel, by decide +kernel⟩
theorem sc_law_worth : FnScope ["sack", "way"] ["sack"] (defScope s_law_worth) := ⟨rfl, rfl, rfl, by decide +kernel, rfl, by decide +kernel, by decide +kernel⟩
theorem sc_law_term : FnScope ["sack", "n", "room", "deep", "way", "one", "word"] ["sack", "n", "room", "deep"] (defScope s_law_term) := ⟨rfl, rfl, rfl, by decide +kernel, rfl, by decide +kernel, by decide +kernel⟩
theorem sc_law_place : FnScope ["sack", "n", "room", "deep"] ["sack", "n", "room", "deep"] (defScope s_law_place) := ⟨rfl, rfl, rfl, by decide +kernel, rfl, by decide +kernel, by decide +kernel⟩
theorem sc_law_step : FnScope ["sack", "n", "most", "way", "place", "choice"] ["sack", "n"] (defScope s_law_step) := ⟨rfl, rfl, rfl, by decide +kernel, rfl, by decide +kernel, by decide +kernel⟩
theorem sc_law_deal : FnScope ["sack", "n", "most", "turn"] ["sack", "n"] (defScope s_law_deal) := ⟨rfl, rfl, rfl, by decide +kernel, rfl, by decide +kernel, by decide +kernel⟩
theorem sc_law_board : FnScope ["sack", "most", "turn"] ["sack", "most"] (defScope s_law_board) := ⟨rfl, rfl, rfl, by decide +kernel, rfl, by decide +kernel, by decide +kernel⟩
theorem sc_law_reckon : FnScope ["term", "here", "looks", "key", "one", "other"] ["term", "here", "looks"] (defScope s_law_reckon) := ⟨rfl, rfl, rfl, by decide +kernel, rfl, by decide +kernel, by decide +kernel⟩
theorem sc_law_key : FnScope ["place", "here", "looks"] ["place", "here", "looks"] (defScope s_law_key) := ⟨rfl, rfl, rfl, by decide +kernel, rfl, by decide +kernel, by decide +kernel⟩
theorem sc_law_gone : FnScope ["deal", "board", "here", "looks", "puts", "told", "number", "step"] ["deal", "board"] (defScope s_law_gone) := ⟨rfl, rfl, rfl, by decide +kernel, rfl, by decide +kernel, by decide +kernel⟩
theorem sc_law_laid_on : FnScope ["sack", "deal", "board", "n", "looks", "puts", "keys", "turn", "some"] ["sack", "deal", "board"] (defScope s_law_laid_on) := ⟨rfl, rfl, rfl, by decide +kernel, rfl, by decide +kernel, by decide +kernel⟩
theorem sc_law_laid_row : FnScope ["sack", "board", "most", "row", "here", "turn", "deal"] ["sack", "board", "most"] (defScope s_law_laid_row) := ⟨rfl, rfl, rfl, by decide +kernel, rfl, by decide +kernel, by decide +kernel⟩
theorem sc_law_laid : FnScope ["laid", "board", "last", "answer", "looks", "puts", "key"] ["laid", "board"] (defScope s_law_laid) := ⟨rfl, rfl, rfl, by decide +kernel, rfl, by decide +kernel, by decide +kernel⟩
theorem sc_law_run : FnScope ["board", "row", "stood", "answers", "laid", "last", "answer"] ["board", "row"] (defScope s_law_run) := ⟨rfl, rfl, rfl, by decide +kernel, rfl, by decide +kernel, by decide +kernel⟩
theorem sc_law_owners : FnScope ["sack", "n", "many", "first", "key"] ["sack", "n"] (defScope s_law_owners) := ⟨rfl, rfl, rfl, by decide +kernel, rfl, by decide +kernel, by decide +kernel⟩
theorem sc_law_due : FnScope ["owners", "board", "found", "house", "key"] ["owners", "board"] (defScope s_law_due) := ⟨rfl, rfl, rfl, by decide +kernel, rfl, by decide +kernel, by decide +kernel⟩
theorem sc_law : FnScope ["script", "sack", "k", "board", "n", "row", "stood", "answers", "fewer", "some", "owners", "due", "found", "turn", "house", "at", "key"] ["script"] (defScope s_law) := ⟨rfl, rfl, rfl, by decide +kernel, rfl, by decide +kernel, by decide +kernel⟩
theorem bt_len : bootBuiltins "len" = some (.builtin "len") := by decide +kernel
theorem bt_isinstance : bootBuiltins "isinstance" = some (.builtin "isinstance") := by decide +kernel
theorem bt_all : bootBuiltins "all" = some (.builtin "all") := by decide +kernel
theorem bt_sorted : bootBuiltins "sorted" = some (.builtin "sorted") := by decide +kernel
theorem bt_tuple : bootBuiltins "tuple" = some (.type "tuple") := by decide +kernel
theorem bt_list : bootBuiltins "list" = some (.type "list") := by decide +kernel
theorem bt_dict : bootBuiltins "dict" = some (.type "dict") := by decide +kernel
theorem bt_set : bootBuiltins "set" = some (.type "set") := by decide +kernel
theorem bt_int : bootBuiltins "int" = some (.type "int") := by decide +kernel
theorem bt_bool : bootBuiltins "bool" = some (.type "bool") := by decide +kernel
theorem bt_str : bootBuiltins "str" = some (.type "str") := by decide +kernel
/-- a def of the top: where it stands -/
structure Df (K : PySem.W.Frag) (mg : Str → Option Value) (name : Str) (st : Stmt) (ps : List Str) where
  f : Addr
  fd : FuncData
  F : Fun K name name st f fd
  b : Binds K fd ps []
  m : mg name = some (.ref f)
/-- a method of the class at C -/
structure Mf (K : PySem.W.Frag) (C : Addr) (name qual : Str) (st : Stmt) (ps : List Str) where
  f : Addr
  fd : FuncData
  F : Fun K name qual st f fd
  b : Binds K fd ps []
  me : Meth K C name f
structure Kl (K : PySem.W.Frag) (mg : Str → Option Value) (name : Str) where
  C : Addr
  cl : Cls K C
  m : mg name = some (.ref C)
  mks : PySem.W.makesIn K C = true
  kp : PySem.W.keepIn K (.ref C) = true
/-- a constant of the top that is a tuple of texts -/
structure Kt (K : PySem.W.Frag) (mg : Str → Option Value) (name : Str) (zs : List Str) where
  a : Addr
  m : mg name = some (.ref a)
  at_ : ∀ H, SqT K H a (zs.map V.str)
structure Kd (K : PySem.W.Frag) (w : World) (mg : Str → Option Value) (name : Str) (zs : List Str) where
  a : Addr
  m : mg name = some (.ref a)
  wk : KWalk K w a zs
theorem pe_gint {X : Cx} {x : Str} {i : Int} {pos : Pos} (hg : Gl X x) (hm : ∃ t, X.mg x = some (.int i t)) (hd : (x == ("__debug__" : Str)) = false := by decide) : PE X (.Name x pos) (tC (.int i)) := by
  obtain ⟨t, hm⟩ := hm
  exact pe_glob hg hm ⟨t, rfl⟩ hd
structure Txt (K : PySem.W.Frag) (w : World) (mg : Str → Option Value) where
  z_len : mg "len" = none
  z_isinstance : mg "isinstance" = none
  z_all : mg "all" = none
  z_sorted : mg "sorted" = none
  z_tuple : mg "tuple" = none
  z_list : mg "list" = none
  z_dict : mg "dict" = none
  z_set : mg "set" = none
  z_int : mg "int" = none
  z_bool : mg "bool" = none
  z_str : mg "str" = none
  z_range : mg "range" = none
  z_zip : mg "zip" = none
  z_enumerate : mg "enumerate" = none
  c_WHEEL : ∃ t, mg "WHEEL" = some (.int 1000000 t)
  c_MOST_KEYS_terms : ∃ t, mg "MOST_KEYS_terms" = some (.int 12 t)
  c_MOST_TUPLES : ∃ t, mg "MOST_TUPLES" = some (.int 12 t)
  c_MOST_DEEP : ∃ t, mg "MOST_DEEP" = some (.int 6 t)
  c_TWO : Kt K mg "TWO" ["sum", "less", "under", "same"]
  c_MOST_STEPS : ∃ t, mg "MOST_STEPS" = some (.int 8 t)
  c_SHAPES : Kd K w mg "SHAPES" ["put", "if", "need", "tell"]
  c_MOST_LAID : ∃ t, mg "MOST_LAID" = some (.int 40 t)
  c_MOST_KEYS_laid : ∃ t, mg "MOST_KEYS_laid" = some (.int 12 t)
  c_STRANGE : Kt K mg "STRANGE" ["strange"]
  c_LAST_HOUSE : ∃ t, mg "LAST_HOUSE" = some (.int 4 t)
  c_DEEDS : Kd K w mg "DEEDS" ["send", "take", "go", "keep", "fall"]
  i_SHAPES_put : KDct K w c_SHAPES.a "put" (.str "pt")
  i_SHAPES_if : KDct K w c_SHAPES.a "if" (.str "tpt")
  i_SHAPES_need : KDct K w c_SHAPES.a "need" (.str "t")
  i_SHAPES_tell : KDct K w c_SHAPES.a "tell" (.str "t")
  i_DEEDS_send : KDct K w c_DEEDS.a "send" (.int 2)
  i_DEEDS_take : KDct K w c_DEEDS.a "take" (.int 3)
  i_DEEDS_go : KDct K w c_DEEDS.a "go" (.int 2)
  i_DEEDS_keep : KDct K w c_DEEDS.a "keep" (.int 2)
  i_DEEDS_fall : KDct K w c_DEEDS.a "fall" (.int 2)
  k_Doing : Kl K mg "Doing"
  n_Doing_first : NoAttr K k_Doing.C "first"
  n_Doing_here : NoAttr K k_Doing.C "here"
  n_Doing_looked : NoAttr K k_Doing.C "looked"
  n_Doing_put_at : NoAttr K k_Doing.C "put_at"
  n_Doing_told : NoAttr K k_Doing.C "told"
  n_Doing_stopped : NoAttr K k_Doing.C "stopped"
  k_House : Kl K mg "House"
  n_House_own : NoAttr K k_House.C "own"
  n_House_count : NoAttr K k_House.C "count"
  n_House_said : NoAttr K k_House.C "said"
  n_House_desk : NoAttr K k_House.C "desk"
  n_House_copy : NoAttr K k_House.C "copy"
  k_Crew : Kl K mg "Crew"
  n_Crew_owners : NoAttr K k_Crew.C "owners"
  n_Crew_row : NoAttr K k_Crew.C "row"
  n_Crew_wall : NoAttr K k_Crew.C "wall"
  n_Crew_wanted : NoAttr K k_Crew.C "wanted"
  n_Crew_members : NoAttr K k_Crew.C "members"
  is_whole : Df K mg "is_whole" s_is_whole ["thing"]
  is_from_to : Df K mg "is_from_to" s_is_from_to ["thing", "least", "most"]
  is_worth : Df K mg "is_worth" s_is_worth ["thing"]
  are_worths : Df K mg "are_worths" s_are_worths ["thing"]
  need_worths : Df K mg "need_worths" s_need_worths ["board"]
  has_word : Df K mg "has_word" s_has_word ["thing", "size", "words"]
  parts_of : Df K mg "parts_of" s_parts_of ["thing"]
  is_made_term : Df K mg "is_made_term" s_is_made_term ["thing", "deep"]
  is_made_place : Df K mg "is_made_place" s_is_made_place ["thing", "deep"]
  tuples_in : Df K mg "tuples_in" s_tuples_in ["thing"]
  is_term : Df K mg "is_term" s_is_term ["thing"]
  is_place : Df K mg "is_place" s_is_place ["thing"]
  keys_named : Df K mg "keys_named" s_keys_named ["thing"]
  place_key : Df K mg "place_key" s_place_key ["place", "board", "looks"]
  two_reckoned : Df K mg "two_reckoned" s_two_reckoned ["word", "one", "other"]
  reckoned : Df K mg "reckoned" s_reckoned ["term", "board", "looks"]
  is_step : Df K mg "is_step" s_is_step ["keys", "thing"]
  is_piece : Df K mg "is_piece" s_is_piece ["keys", "sort", "thing"]
  is_deal : Df K mg "is_deal" s_is_deal ["keys", "thing"]
  need_board : Df K mg "need_board" s_need_board ["board"]
  Doing_init : Mf K k_Doing.C "__init__" "Doing.__init__" s_Doing_init ["self", "board"]
  Doing_reckon : Mf K k_Doing.C "reckon" "Doing.reckon" s_Doing_reckon ["self", "term"]
  Doing_put : Mf K k_Doing.C "put" "Doing.put" s_Doing_put ["self", "place", "term"]
  Doing_step : Mf K k_Doing.C "step" "Doing.step" s_Doing_step ["self", "number", "step"]
  Doing_outcome : Mf K k_Doing.C "outcome" "Doing.outcome" s_Doing_outcome ["self"]
  gone : Df K mg "gone" s_gone ["deal", "board"]
  done_in : Df K mg "done_in" s_done_in ["deal", "board"]
  rising : Df K mg "rising" s_rising ["keys"]
  touched_in : Df K mg "touched_in" s_touched_in ["deal", "board"]
  is_key : Df K mg "is_key" s_is_key ["keys", "thing"]
  are_keys : Df K mg "are_keys" s_are_keys ["keys", "thing"]
  is_laid : Df K mg "is_laid" s_is_laid ["keys", "thing"]
  is_laid_row : Df K mg "is_laid_row" s_is_laid_row ["keys", "thing"]
  need_laid_row : Df K mg "need_laid_row" s_need_laid_row ["keys", "row"]
  done_laid_in : Df K mg "done_laid_in" s_done_laid_in ["laid", "board"]
  run_laid_in : Df K mg "run_laid_in" s_run_laid_in ["board", "row"]
  run_laid : Df K mg "run_laid" s_run_laid ["board", "row"]
  is_house_number : Df K mg "is_house_number" s_is_house_number ["thing"]
  need_owners : Df K mg "need_owners" s_need_owners ["board", "owners"]
  House_init : Mf K k_House.C "__init__" "House.__init__" s_House_init ["self", "own"]
  Crew_init : Mf K k_Crew.C "__init__" "Crew.__init__" s_Crew_init ["self", "owners", "board", "row"]
  Crew_wanting : Mf K k_Crew.C "wanting" "Crew.wanting" s_Crew_wanting ["self", "number"]
  Crew_keys_of : Mf K k_Crew.C "keys_of" "Crew.keys_of" s_Crew_keys_of ["self", "number", "house"]
  Crew_due_of : Mf K k_Crew.C "due_of" "Crew.due_of" s_Crew_due_of ["self", "house"]
  Crew_may_send : Mf K k_Crew.C "may_send" "Crew.may_send" s_Crew_may_send ["self", "house"]
  Crew_may_take : Mf K k_Crew.C "may_take" "Crew.may_take" s_Crew_may_take ["self", "house", "other"]
  Crew_may_go : Mf K k_Crew.C "may_go" "Crew.may_go" s_Crew_may_go ["self", "house"]
  Crew_may : Mf K k_Crew.C "may" "Crew.may" s_Crew_may ["self"]
  Crew_may_do : Mf K k_Crew.C "may_do" "Crew.may_do" s_Crew_may_do ["self", "deed"]
  Crew_need_deed : Mf K k_Crew.C "need_deed" "Crew.need_deed" s_Crew_need_deed ["self", "deed"]
  Crew_need_house : Mf K k_Crew.C "need_house" "Crew.need_house" s_Crew_need_house ["self", "house"]
  Crew_do : Mf K k_Crew.C "do" "Crew.do" s_Crew_do ["self", "deed"]
  Crew_send : Mf K k_Crew.C "send" "Crew.send" s_Crew_send ["self", "house"]
  Crew_board_of : Mf K k_Crew.C "board_of" "Crew.board_of" s_Crew_board_of ["self", "house", "number"]
  Crew_go : Mf K k_Crew.C "go" "Crew.go" s_Crew_go ["self", "house"]
  Crew_houses : Mf K k_Crew.C "houses" "Crew.houses" s_Crew_houses ["self"]
  Crew_worths : Mf K k_Crew.C "worths" "Crew.worths" s_Crew_worths ["self", "house"]
  finish : Df K mg "finish" s_finish ["owners", "board", "row"]
  law_mill : Df K mg "_law_e_mill" s_law_mill ["cell", "at"]
  law_grain : Df K mg "_law_e_grain" s_law_grain ["sack", "many"]
  law_worth : Df K mg "_law_e_worth" s_law_worth ["sack"]
  law_term : Df K mg "_law_e_term" s_law_term ["sack", "n", "room", "deep"]
  law_place : Df K mg "_law_e_place" s_law_place ["sack", "n", "room", "deep"]
  law_step : Df K mg "_law_e_step" s_law_step ["sack", "n"]
  law_deal : Df K mg "_law_e_deal" s_law_deal ["sack", "n"]
  law_board : Df K mg "_law_e_board" s_law_board ["sack", "most"]
  law_reckon : Df K mg "_law_e_reckon" s_law_reckon ["term", "here", "looks"]
  law_key : Df K mg "_law_e_key" s_law_key ["place", "here", "looks"]
  law_gone : Df K mg "_law_e_gone" s_law_gone ["deal", "board"]
  law_laid_on : Df K mg "_law_e_laid_on" s_law_laid_on ["sack", "deal", "board"]
  law_laid_row : Df K mg "_law_e_laid_row" s_law_laid_row ["sack", "board", "most"]
  law_laid : Df K mg "_law_e_laid" s_law_laid ["laid", "board"]
  law_run : Df K mg "_law_e_run" s_law_run ["board", "row"]
  law_owners : Df K mg "_law_e_owners" s_law_owners ["sack", "n"]
  law_due : Df K mg "_law_e_due" s_law_due ["owners", "board"]
  law : Df K mg "law" s_law ["script"]
section
variable {K : PySem.W.Frag} {w : World} {mg : Str → Option Value}
theorem Txt.mk_Doing (T : Txt K w mg) : Mk K T.k_Doing.C T.Doing_init.f := ⟨T.k_Doing.mks, T.Doing_init.me.at_, T.Doing_init.me.fn, T.k_Doing.kp⟩
theorem Txt.mk_House (T : Txt K w mg) : Mk K T.k_House.C T.House_init.f := ⟨T.k_House.mks, T.House_init.me.at_, T.House_init.me.fn, T.k_House.kp⟩
theorem Txt.mk_Crew (T : Txt K w mg) : Mk K T.k_Crew.C T.Crew_init.f := ⟨T.k_Crew.mks, T.Crew_init.me.at_, T.Crew_init.me.fn, T.k_Crew.kp⟩
end
end RL

/-! How the data stand in the heap; what a call leaves as it was. -/
namespace RL
open PySem L2 RlR

/-! ### frames -/
def KT (H H' : Hp) : Prop := ∀ a xs, H a = some (.tup xs) → H' a = some (.tup xs)
/-- all but what stands at l is as it was; tuples are -/
structure Fr (l : List Addr) (H H' : Hp) : Prop where
  at_ : ∀ a o, H a = some o → a ∉ l → H' a = some o
  tup : KT H H'
  dom : ∀ a o, H a = some o → ∃ o', H' a = some o'
theorem KT.refl (H : Hp) : KT H H := fun _ _ h => h
theorem KT.trans {H H1 H2 : Hp} (a : KT H H1) (b : KT H1 H2) : KT H H2 := fun c xs h => b c xs (a c xs h)
theorem Fr.refl (l : List Addr) (H : Hp) : Fr l H H := ⟨fun _ _ h _ => h, fun _ _ h => h, fun _ o h => ⟨o, h⟩⟩
/-- what follows may change what the first one made, too -/
theorem Fr.app {l l' : List Addr} {H H1 H2 : Hp} (f : Fr l H H1) (g : Fr l' H1 H2) (h : ∀ a ∈ l', a ∈ l ∨ H a = none) : Fr l H H2 := by
  refine ⟨fun a o e n => g.at_ a o (f.at_ a o e n) fun m => ?_, f.tup.trans g.tup, fun a o e => ?_⟩
  · rcases h a m with q | q
    · exact n q
    · rw [q] at e; cases e
  · obtain ⟨o1, e1⟩ := f.dom a o e
    exact g.dom a o1 e1
theorem Fr.trans {l : List Addr} {H H1 H2 : Hp} (f : Fr l H H1) (g : Fr l H1 H2) : Fr l H H2 := f.app g fun _ m => .inl m
theorem Fr.nil {l : List Addr} {H H1 H2 : Hp} (f : Fr l H H1) (g : Fr [] H1 H2) : Fr l H H2 := f.app g fun _ m => nomatch m
theorem Fr.mono {l l' : List Addr} {H H' : Hp} (f : Fr l H H') (h : ∀ a ∈ l, a ∈ l') : Fr l' H H' := ⟨fun a o e n => f.at_ a o e fun m => n (h a m), f.tup, f.dom⟩
theorem Fr.lift {l : List Addr} {H H' : Hp} (f : Fr [] H H') : Fr l H H' := f.mono fun _ m => nomatch m
theorem Fr.new {l : List Addr} {H : Hp} {p : Addr} {o : HO} (h : H p = none) : Fr l H (upd H p o) :=
  ⟨fun a u e _ => by rw [upd_ne (ne_of_none e h)]; exact e, fun a u e => by rw [upd_ne (ne_of_none e h)]; exact e, fun a u e => ⟨u, by rw [upd_ne (ne_of_none e h)]; exact e⟩⟩
def noTup : HO → Prop
  | .tup _ => False
  | _ => True
theorem Fr.set {l : List Addr} {H : Hp} {p : Addr} {o o' : HO} (h : H p = some o) (hn : noTup o) (hp : p ∈ l) : Fr l H (upd H p o') := by
  refine ⟨fun a u e n => ?_, fun a xs e => ?_, fun a u e => ?_⟩
  · have : a ≠ p := fun z => n (by rw [z]; exact hp)
    rw [upd_ne this]
    exact e
  · have : a ≠ p := fun z => by
      rw [z, h] at e
      cases e
      exact hn
    rw [upd_ne this]
    exact e
  · by_cases z : a = p
    · exact ⟨o', by rw [z]; exact upd_same⟩
    · exact ⟨u, by rw [upd_ne z]; exact e⟩
theorem Fr.fresh {l : List Addr} {H H' : Hp} (f : Fr l H H') {p : Addr} (h : H' p = none) : H p = none := by
  cases e : H p with
  | none => rfl
  | some o =>
    obtain ⟨o', e'⟩ := f.dom p o e
    rw [h] at e'
    cases e'
theorem Fr.sqL {K : PySem.W.Frag} {l : List Addr} {H H' : Hp} (f : Fr l H H') {a : Addr} {xs : List V} (h : SqL K H a xs) (hn : a ∉ l) : SqL K H' a xs := by
  rcases h with (h | ⟨o, h⟩) | h
  · exact .inl (.inl (f.at_ _ _ h hn))
  · exact .inl (.inr ⟨o, f.at_ _ _ h hn⟩)
  · exact .inr h
theorem Fr.same {H H' : Hp} (f : Fr [] H H') : Same H H' := fun b o h => f.at_ b o h fun m => nomatch m
/-- a new thing, changed then -/
theorem Fr.own {l : List Addr} {H H1 H2 : Hp} {p : Addr} (f : Fr l H H1) (g : Fr [p] H1 H2) (h : H p = none) : Fr l H H2 := f.app g fun a m => .inr (by rw [List.mem_singleton.mp m]; exact h)
theorem Fr.set1 {l : List Addr} {H H1 : Hp} {p : Addr} {o o' : HO} (f : Fr l H H1) (h : H1 p = some o) (hn : noTup o) (hp : H p = none) : Fr l H (upd H1 p o') := f.own (Fr.set h hn (List.mem_singleton.mpr rfl)) hp

/-! ### data -/
def Op.word : Op → Str
  | .sum => "sum"
  | .less => "less"
  | .under => "under"
  | .same => "same"
def TAt (H : Hp) : T → V → Prop
  | .num c, v => ∃ p, v = .ref p ∧ H p = some (.tup [.str "num", .int c])
  | .look q, v => ∃ p u, v = .ref p ∧ H p = some (.tup [.str "look", u]) ∧ TAt H q u
  | .two o a b, v => ∃ p u1 u2, v = .ref p ∧ H p = some (.tup [.str o.word, u1, u2]) ∧ TAt H a u1 ∧ TAt H b u2
  | .key k, v => ∃ p, v = .ref p ∧ H p = some (.tup [.str "key", .int k])
  | .via t, v => ∃ p u, v = .ref p ∧ H p = some (.tup [.str "via", u]) ∧ TAt H t u
theorem TAt.keep {H H' : Hp} (k : KT H H') : ∀ {t : T} {v : V}, TAt H t v → TAt H' t v
  | .num _, _, ⟨p, e, h⟩ => ⟨p, e, k _ _ h⟩
  | .look _, _, ⟨p, u, e, h, r⟩ => ⟨p, u, e, k _ _ h, TAt.keep k r⟩
  | .two _ _ _, _, ⟨p, u1, u2, e, h, r1, r2⟩ => ⟨p, u1, u2, e, k _ _ h, TAt.keep k r1, TAt.keep k r2⟩
  | .key _, _, ⟨p, e, h⟩ => ⟨p, e, k _ _ h⟩
  | .via _, _, ⟨p, u, e, h, r⟩ => ⟨p, u, e, k _ _ h, TAt.keep k r⟩
def SAt (H : Hp) : S → V → Prop
  | .put p t, v => ∃ a u1 u2, v = .ref a ∧ H a = some (.tup [.str "put", u1, u2]) ∧ TAt H p u1 ∧ TAt H t u2
  | .iff c p t, v => ∃ a u1 u2 u3, v = .ref a ∧ H a = some (.tup [.str "if", u1, u2, u3]) ∧ TAt H c u1 ∧ TAt H p u2 ∧ TAt H t u3
  | .need t, v => ∃ a u, v = .ref a ∧ H a = some (.tup [.str "need", u]) ∧ TAt H t u
  | .tell t, v => ∃ a u, v = .ref a ∧ H a = some (.tup [.str "tell", u]) ∧ TAt H t u
theorem SAt.keep {H H' : Hp} (k : KT H H') : ∀ {s : S} {v : V}, SAt H s v → SAt H' s v
  | .put _ _, _, ⟨a, u1, u2, e, h, r1, r2⟩ => ⟨a, u1, u2, e, k _ _ h, r1.keep k, r2.keep k⟩
  | .iff _ _ _, _, ⟨a, u1, u2, u3, e, h, r1, r2, r3⟩ => ⟨a, u1, u2, u3, e, k _ _ h, r1.keep k, r2.keep k, r3.keep k⟩
  | .need _, _, ⟨a, u, e, h, r⟩ => ⟨a, u, e, k _ _ h, r.keep k⟩
  | .tell _, _, ⟨a, u, e, h, r⟩ => ⟨a, u, e, k _ _ h, r.keep k⟩
/-- a tuple at v of things each told by R -/
def TupOf {α : Type} (R : α → V → Prop) (H : Hp) (xs : List α) (v : V) : Prop := ∃ a us, v = .ref a ∧ H a = some (.tup us) ∧ Paired R xs us
theorem TupOf.keep {α : Type} {R R' : α → V → Prop} {H H' : Hp} (k : KT H H') (h : ∀ x u, R x u → R' x u) {xs : List α} {v : V} (t : TupOf R H xs v) : TupOf R' H' xs v := by
  obtain ⟨a, us, e, h1, p⟩ := t
  exact ⟨a, us, e, k _ _ h1, Paired.mapP p h⟩
def DAt (H : Hp) (ds : List S) (v : V) : Prop := TupOf (SAt H) H ds v
theorem DAt.keep {H H' : Hp} (k : KT H H') {ds : List S} {v : V} (h : DAt H ds v) : DAt H' ds v := TupOf.keep k (fun _ _ r => r.keep k) h
/-- a tuple of ints -/
def BAt (H : Hp) (b : List Int) (v : V) : Prop := ∃ a, v = .ref a ∧ H a = some (.tup (b.map V.int))
theorem BAt.keep {H H' : Hp} (k : KT H H') {b : List Int} {v : V} (h : BAt H b v) : BAt H' b v := let ⟨a, e, h⟩ := h; ⟨a, e, k _ _ h⟩
def LAt (H : Hp) (l : Laid) (v : V) : Prop := ∃ a u w, v = .ref a ∧ H a = some (.tup [u, w]) ∧ DAt H l.1 u ∧ BAt H l.2 w
theorem LAt.keep {H H' : Hp} (k : KT H H') {l : Laid} {v : V} (h : LAt H l v) : LAt H' l v := let ⟨a, u, w, e, h, d, b⟩ := h; ⟨a, u, w, e, k _ _ h, d.keep k, b.keep k⟩
def RAt (H : Hp) (r : List Laid) (v : V) : Prop := TupOf (LAt H) H r v
theorem RAt.keep {H H' : Hp} (k : KT H H') {r : List Laid} {v : V} (h : RAt H r v) : RAt H' r v := TupOf.keep k (fun _ _ q => q.keep k) h

/-! ### kinds -/
inductive IsV (H : Hp) : V → String → Bool → Prop where
  | ii (i : Int) : IsV H (.int i) "int" true
  | ib (i : Int) : IsV H (.int i) "bool" false
  | ss (z : Str) : IsV H (.str z) "str" true
  | tt {a : Addr} {xs : List V} (h : H a = some (.tup xs)) : IsV H (.ref a) "tuple" true
  | dd {a : Addr} {kvs : List (Key × V)} (h : H a = some (.dK kvs)) : IsV H (.ref a) "dict" true
def rIs2 : List V → Hp → VK → Prop := fun xs H Q => ∃ x n b, xs = [x, .ty n] ∧ IsV H x n b ∧ Q (.bl b) H
theorem call_is2 {X : Cx} : CallR X (.builtin "isinstance") rIs2 := by
  intro pins s σ H xs us Q I r h
  obtain ⟨x, n, b, rfl, v, q⟩ := h
  refine call_isi pins s σ H _ us Q I r ?_
  cases v with
  | ii i => exact ⟨_, _, .type "int", _, true, rfl, .ty _, .base (.int i), kit_ty (by decide +kernel), q⟩
  | ib i => exact ⟨_, _, .type "int", _, false, rfl, .ty _, .base (.int i), kit_ty (by decide +kernel), q⟩
  | ss z => exact ⟨_, _, .type "str", _, true, rfl, .ty _, .base (.str z), kit_ty (by decide +kernel), q⟩
  | tt h => exact ⟨_, _, .type "tuple", _, true, rfl, .ty _, .base (.tup h), kit_ty (by decide +kernel), q⟩
  | dd h => exact ⟨_, _, .type "dict", _, true, rfl, .ty _, .base (.dK h), kit_ty (by decide +kernel), q⟩
/-! ### rules whose reading names K alone (so they serve within a comprehension's block) -/
section
variable {X : Cx} {K : PySem.W.Frag} {w : World} (hK : X.K = K)
include hK
theorem ixT : IxR X (rIxT K) := by subst hK; exact ix_tup
theorem ixL : IxR X (rIxL K) := by subst hK; exact ix_list
theorem ixD (hw : X.w = w) : IxR X (rIxD K w) := by subst hK hw; exact ix_kdict
theorem opIn : OpR X (compareOp .In) (rIn K false) := by subst hK; exact op_in_seq
theorem opNotIn : OpR X (compareOp .NotIn) (rIn K true) := by subst hK; exact op_notIn_seq
def rLenK (K : PySem.W.Frag) : List V → Hp → VK → Prop := fun xs H Q => ∃ p ys, xs = [.ref p] ∧ (SqL K H p ys ∨ SqT K H p ys) ∧ Q (.int ys.length) H
theorem lenK : CallR X (.builtin "len") (rLenK K) := by subst hK; exact call_len_seq
theorem allK (hc : X.calm = true) : CallR X (.builtin "all") (rAll K) := by subst hK; exact cr_all hc
def rTupK (K : PySem.W.Frag) : List V → Hp → VK → Prop := fun xs H Q => ∃ p ys, xs = [.ref p] ∧ ((SqL K H p ys ∧ ∀ l, H l = none → Q (.ref l) (upd H l (.tup ys))) ∨ (SqT K H p ys ∧ Q (.ref p) H))
theorem tupK : CallR X (.type "tuple") (rTupK K) := by subst hK; exact call_tuple_of
def rListK (K : PySem.W.Frag) : List V → Hp → VK → Prop := fun xs H Q => ∃ p ys, xs = [.ref p] ∧ (SqL K H p ys ∨ SqT K H p ys) ∧ ∀ l, H l = none → Q (.ref l) (upd H l (.lst ys))
theorem listK : CallR X (.type "list") (rListK K) := by subst hK; exact call_list_of
theorem setK (hw : X.w = w) (hc : X.calm = true) : CallR X (.type "set") (rSetI w K) := by subst hK hw; exact cr_setI hc
theorem sortedSK (hw : X.w = w) (hc : X.calm = true) : CallR X (.builtin "sorted") (rSortedSet w) := by subst hw; exact cr_sortedSet hc
theorem sortedDK (hu : X.A.units + 64 < cLine) : CallR X (.builtin "sorted") (rSortedD K) := by subst hK; exact cr_sortedD hu
def rDictPK (K : PySem.W.Frag) : List V → Hp → VK → Prop := fun xs H Q => ∃ (a : Addr) (ps : List Addr) (kvs : List (Key × V)), xs = [.ref a] ∧ SqL K H a (ps.map V.ref) ∧ Paired (fun p kv => SqT K H p [kV kv.1, kv.2]) ps kvs ∧ ∀ p, H p = none → Q (.ref p) (upd H p (.dK (mergeK [] kvs)))
theorem dictPK (hc : X.calm = true) : CallR X (.type "dict") (rDictPK K) := by subst hK; exact call_dictP hc
theorem slA : SlR X (rSlA K) := by subst hK; exact sl_tupA
theorem catA : OpR X (binaryOp .Add) (rCatA K) := by subst hK; exact op_catA
theorem repA : OpR X (binaryOp .Mult) (fun x y H Q => rRepT K x y H Q ∨ rRep1 K x y H Q) := by subst hK; exact op_repTA
theorem neD (hu : X.A.units + 64 < cLine) : OpR X (compareOp .NotEq) (rNeD K) := by subst hK; exact op_neD hu
theorem eqD (hu : X.A.units + 64 < cLine) : OpR X (compareOp .Eq) (rEqD K) := by subst hK; exact op_eqD hu
theorem neV (hu : X.A.units + 64 < cLine) : OpR X (compareOp .NotEq) (rNeV K) := by subst hK; exact op_neV hu
theorem piT {tg l : Expr} {tl : TE} (hl : PE X l tl) : PI X tg l (iTup K tl) := by subst hK; exact pi_tup hl
theorem piL {tg l : Expr} {tl : TE} (hl : PE X l tl) : PI X tg l (iList K tl) := by subst hK; exact pi_list hl
theorem piK (hw : X.w = w) {tg l : Expr} {tl : TE} (hl : PE X l tl) : PI X tg l (iKd K w tl) := by subst hK hw; exact pi_kd hl
theorem piZ {e e2 : Expr} {ta : TA} {p pos tpos : Pos} {elts : List Expr} {kk : Nat} (hg : Gl X "zip") (hm : X.mg "zip" = none) (ha : PA X [e, e2] ta)
    (hs : starEach [e, e2] X.env = (false, eval e X.env) :: starEach [e2] X.env := by rfl) (hpl : (backTo pos (starEach [e2] X.env)).any (·.1) = false := by rfl) :
    PI X (.Tuple elts kk tpos) (.Call (.Name "zip" p) [e, e2] [] pos) (iZs K ta) := by subst hK; exact pi_zs hg hm ha hs hpl
theorem piE {e : Expr} {ta : TA} {p pos tpos : Pos} {elts : List Expr} {kk : Nat} (hg : Gl X "enumerate") (hm : X.mg "enumerate" = none) (ha : PA X [e] ta) (hs : starEach [e] X.env = [(false, eval e X.env)] := by rfl) :
    PI X (.Tuple elts kk tpos) (.Call (.Name "enumerate" p) [e] [] pos) (iEnumT K ta) := by subst hK; exact pi_enumT hg hm ha hs
theorem pgT {es : List Expr} {k : Nat} {pos : Pos} {t : TGs} {n : Nat} (hc : X.calm = true) (h : PGs X es t)
    (hn : (assignEach es X.env).length = n := by rfl) (hst : (assignEach es X.env).findIdx? (·.1) = none := by rfl) : PG X (.Tuple es k pos) (gTup K n t) := by subst hK; exact pg_tup hc h hn hst
theorem fldK {e : Expr} {f : Str} {pos : Pos} {ta : TE} (he : PE X e ta) (hb : attributeBase e f X.env (eval e X.env) = eval e X.env) : PE X (.Attribute e f pos) (tFld K ta f) := by subst hK; exact pe_fld he hb
theorem sfldK {o value : Expr} {f : Str} {pos pos' : Pos} {ta tv : TE} (ha : PE X o ta) (hv : PE X value tv) (hs : swapsWith value (some (.Attribute o f pos')) pos.line X.env = pure false) : PS X (.Assign [.Attribute o f pos'] value pos) (sFld K ta tv f) := by subst hK; exact ps_fld ha hv hs
end
/-- what follows, the heap as it is but for new things -/
abbrev Ret (H : Hp) (Q : VK) (v : V) : Prop := ∀ H', Fr [] H H' → Q v H'
end RL

/-! Comprehensions whose element makes new things alone. -/
namespace RL
open PySem L2 RlR

/-- it comes to v, leaving all that is known -/
def Evs (te : TE) (σ : L2.St) (H : Hp) (v : V) : Prop := ∀ H1, Fr [] H H1 → ∀ R : VK, (∀ H2, Fr [] H1 H2 → R v H2) → te σ H1 R
def Evt (tt : TT) (σ : L2.St) (H : Hp) (b : Bool) : Prop := ∀ H1, Fr [] H H1 → ∀ R : Bool → Hp → Prop, (∀ H2, Fr [] H1 H2 → R b H2) → tt σ H1 R
theorem Evs.mono {te : TE} {σ : L2.St} {H H' : Hp} {v : V} (h : Evs te σ H v) (f : Fr [] H H') : Evs te σ H' v := fun H1 g R q => h H1 (f.trans g) R q
theorem evt_yes {σ : L2.St} {H : Hp} : Evt tYes σ H true := fun H1 _ R q => q H1 (Fr.refl _ _)
def given (n : Nat) (f : Nat → Bool) (e : Nat → V) : List V := ((List.range n).filter f).map e
theorem given_yes {n : Nat} {f : Nat → Bool} {e : Nat → V} (h : f n = true) : given (n + 1) f e = given n f e ++ [e n] := by
  unfold given
  rw [List.range_succ, List.filter_append, List.map_append, List.filter_cons, if_pos h] <;> rfl
theorem given_no {n : Nat} {f : Nat → Bool} {e : Nat → V} (h : f n = false) : given (n + 1) f e = given n f e := by
  unfold given
  rw [List.range_succ, List.filter_append, List.map_append, List.filter_cons, if_neg (by rw [h]; decide)]
  show _ ++ [] = _
  rw [List.append_nil]
theorem given_len (n : Nat) (f : Nat → Bool) (e : Nat → V) : (given n f e).length ≤ n := by
  unfold given
  rw [List.length_map]
  have h := List.length_filter_le f (List.range n)
  rw [List.length_range] at h
  exact h
theorem line_of {n : Nat} (h : n ≤ 100000) : n ≤ sizeLine := Nat.le_trans h (by decide)
theorem line_lt {n : Nat} (h : n < 100000) : n < sizeLine := Nat.lt_of_lt_of_le h (by decide)
theorem lc_gen {J : It} {n : Nat} {G : Hp → Prop} {Y : Nat → Hp → V → Hp → Prop} (w : Walk J n G Y) {g : TG} {tt : TT} {te : TE} {vs : List Nat} {σ : L2.St} {H : Hp} {D : Addr} {Qd : Hp → Prop} (hD : H D = none) (f : Nat → Bool) (e : Nat → V) (hn : n ≤ 90000) (hG : ∀ H', Fr [] H H' → G H')
    (hs : ∀ i x H1 H1', i < n → Fr [] H H1 → Y i H1 x H1' → ∃ σ2 H2, Fr [] H1 H2 ∧ wipe σ2 vs = wipe σ vs ∧ (∀ R : L2.St → Hp → Prop, R σ2 H2 → g x (wipe σ vs) H1' R) ∧ Evt tt σ2 H2 (f i) ∧ (f i = true → Evs te σ2 H2 (e i)))
    (q : ∀ H', Fr [] H H' → H' D = some (.lst (given n f e)) → Qd H') :
    ∃ W : Nat → Nat → Hp → Prop, (∃ m, W 0 m (upd H D (.lst []))) ∧ ∀ i m H, W i m H →
      (J.stop i H ∧ Qd H) ∨ (J.go i H ∧ ∃ Nx : Hp → Prop, (∀ H', Nx H' → ∃ m', m' < m ∧ W (i + 1) m' H') ∧ ∀ x H', J.yld i H x H' → g x (wipe σ vs) H' fun σ2 H2 => wipe σ2 vs = wipe σ vs ∧ tt σ2 H2 fun b H3 =>
        if b = true then te σ2 H3 fun y H4 => ∃ acc, H4 D = some (.lst acc) ∧ acc.length < sizeLine ∧ Nx (upd H4 D (.lst (acc ++ [y]))) else Nx H3) :=
  lc_it (Qd := Qd) w (fun i H' => Fr [] H H' ∧ H' D = some (.lst (given i f e))) ⟨Fr.new hD, upd_same⟩ (fun i H' _ p => hG H' p.1) (fun i x H1 H1' hi p y => by
    obtain ⟨σ2, H2, f2, hw, hg, ht, he⟩ := hs i x H1 H1' hi p.1 y
    refine hg _ ⟨hw, ht H2 (Fr.refl _ _) _ fun H3 f3 => ?_⟩
    have f13 := f2.trans f3
    cases hf : f i with
    | true =>
      show te σ2 H3 fun y H4 => ∃ acc, H4 D = some (.lst acc) ∧ acc.length < sizeLine ∧ (Fr [] H (upd H4 D (.lst (acc ++ [y]))) ∧ (upd H4 D (.lst (acc ++ [y]))) D = some (.lst (given (i + 1) f e)))
      refine he hf H3 f3 _ fun H4 f4 => ?_
      have f14 := f13.trans f4
      have hd4 : H4 D = some (.lst (given i f e)) := f14.at_ _ _ p.2 (by simp)
      refine ⟨_, hd4, line_lt (by have := given_len i f e; omega), (p.1.trans f14).set1 hd4 trivial hD, ?_⟩
      rw [given_yes hf]
      exact upd_same
    | false =>
      show Fr [] H H3 ∧ H3 D = some (.lst (given (i + 1) f e))
      rw [given_no hf]
      exact ⟨p.1.trans f13, f13.at_ _ _ p.2 (by simp)⟩) (fun H' p => q H' p.1 p.2)

/-! ### a name as the target -/
theorem lc_at {J : It} {xs : List V} {G : Hp → Prop} (w : Walk J xs.length G (YAt xs)) {j : Nat} {tt : TT} {te : TE} {vs : List Nat} {σ : L2.St} {H : Hp} {D : Addr} {Qd : Hp → Prop} (hD : H D = none) (f : V → Bool) (e : V → V) (hn : xs.length ≤ 90000) (hG : ∀ H', Fr [] H H' → G H')
    (hw : ∀ x, wipe ((wipe σ vs).set j (some x)) vs = wipe σ vs) (ht : ∀ x ∈ xs, Evt tt ((wipe σ vs).set j (some x)) H (f x)) (he : ∀ x ∈ xs, f x = true → Evs te ((wipe σ vs).set j (some x)) H (e x))
    (q : ∀ H', Fr [] H H' → H' D = some (.lst ((xs.filter f).map e)) → Qd H') :
    ∃ W : Nat → Nat → Hp → Prop, (∃ m, W 0 m (upd H D (.lst []))) ∧ ∀ i m H, W i m H →
      (J.stop i H ∧ Qd H) ∨ (J.go i H ∧ ∃ Nx : Hp → Prop, (∀ H', Nx H' → ∃ m', m' < m ∧ W (i + 1) m' H') ∧ ∀ x H', J.yld i H x H' → gName j x (wipe σ vs) H' fun σ2 H2 => wipe σ2 vs = wipe σ vs ∧ tt σ2 H2 fun b H3 =>
        if b = true then te σ2 H3 fun y H4 => ∃ acc, H4 D = some (.lst acc) ∧ acc.length < sizeLine ∧ Nx (upd H4 D (.lst (acc ++ [y]))) else Nx H3) := by
  refine lc_gen w hD (fun i => f (xs.getD i .non)) (fun i => e (xs.getD i .non)) hn hG (fun i x H1 H1' hi f1 y => ?_) (fun H' f1 h => q H' f1 ?_)
  · obtain ⟨rfl, hx⟩ := y
    have ex : xs.getD i .non = x := by rw [List.getD_eq_getElem?_getD, hx]; rfl
    have hm : x ∈ xs := List.mem_of_getElem? hx
    rw [ex]
    exact ⟨_, _, Fr.refl _ _, hw x, fun R r => r, fun H2 g R r => ht x hm H2 (f1.trans g) R r, fun hf => (he x hm hf).mono f1⟩
  · rw [h]
    congr 2
    unfold given
    have key : ∀ n, n ≤ xs.length → ((List.range n).filter fun i => f (xs.getD i .non)).map (fun i => e (xs.getD i .non)) = ((xs.take n).filter f).map e := by
      intro n
      induction n with
      | zero => intro _; rfl
      | succ n ih =>
        intro hn
        have hg : xs.getD n .non = xs[n] := by rw [List.getD_eq_getElem?_getD, List.getElem?_eq_getElem hn]; rfl
        rw [List.range_succ, List.filter_append, List.map_append, ih (by omega), List.take_add_one, List.getElem?_eq_getElem hn, List.filter_append, List.map_append]
        congr 1
        show List.map _ (List.filter _ [n]) = List.map e (List.filter f [xs[n]])
        rw [List.filter_cons, List.filter_cons, hg]
        cases f xs[n] with
        | true => rw [if_pos rfl, if_pos rfl]; show [e (xs.getD n .non)] = _; rw [hg]; rfl
        | false => rfl
    rw [key _ (Nat.le_refl _), List.take_length]
theorem filter_all {α : Type} (xs : List α) : xs.filter (fun _ => true) = xs := List.filter_eq_self.mpr fun _ _ => rfl
/-- [e for x in xs] -/
theorem lc_map {J : It} {xs : List V} {G : Hp → Prop} (w : Walk J xs.length G (YAt xs)) {j : Nat} {te : TE} {vs : List Nat} {σ : L2.St} {H : Hp} {D : Addr} {Qd : Hp → Prop} (hD : H D = none) (e : V → V) (hn : xs.length ≤ 90000) (hG : ∀ H', Fr [] H H' → G H')
    (hw : ∀ x, wipe ((wipe σ vs).set j (some x)) vs = wipe σ vs) (he : ∀ x ∈ xs, Evs te ((wipe σ vs).set j (some x)) H (e x))
    (q : ∀ H', Fr [] H H' → H' D = some (.lst (xs.map e)) → Qd H') :
    ∃ W : Nat → Nat → Hp → Prop, (∃ m, W 0 m (upd H D (.lst []))) ∧ ∀ i m H, W i m H →
      (J.stop i H ∧ Qd H) ∨ (J.go i H ∧ ∃ Nx : Hp → Prop, (∀ H', Nx H' → ∃ m', m' < m ∧ W (i + 1) m' H') ∧ ∀ x H', J.yld i H x H' → gName j x (wipe σ vs) H' fun σ2 H2 => wipe σ2 vs = wipe σ vs ∧ tYes σ2 H2 fun b H3 =>
        if b = true then te σ2 H3 fun y H4 => ∃ acc, H4 D = some (.lst acc) ∧ acc.length < sizeLine ∧ Nx (upd H4 D (.lst (acc ++ [y]))) else Nx H3) :=
  lc_at w hD (fun _ => true) e hn hG hw (fun _ _ => evt_yes) (fun x hx _ => he x hx) fun H' f h => q H' f (by rw [h, filter_all])
/-- over a range -/
theorem lc_rng {n : Nat} {j : Nat} {tt : TT} {te : TE} {vs : List Nat} {σ : L2.St} {H : Hp} {D : Addr} {Qd : Hp → Prop} (hD : H D = none) (f : Nat → Bool) (e : Nat → V) (hn : n ≤ 90000)
    (hw : ∀ x, wipe ((wipe σ vs).set j (some x)) vs = wipe σ vs) (ht : ∀ i < n, Evt tt ((wipe σ vs).set j (some (.int (i : Int)))) H (f i)) (he : ∀ i < n, f i = true → Evs te ((wipe σ vs).set j (some (.int (i : Int)))) H (e i))
    (q : ∀ H', Fr [] H H' → H' D = some (.lst (given n f e)) → Qd H') :
    ∃ W : Nat → Nat → Hp → Prop, (∃ m, W 0 m (upd H D (.lst []))) ∧ ∀ i m H, W i m H →
      ((Itr 0 n).stop i H ∧ Qd H) ∨ ((Itr 0 n).go i H ∧ ∃ Nx : Hp → Prop, (∀ H', Nx H' → ∃ m', m' < m ∧ W (i + 1) m' H') ∧ ∀ x H', (Itr 0 n).yld i H x H' → gName j x (wipe σ vs) H' fun σ2 H2 => wipe σ2 vs = wipe σ vs ∧ tt σ2 H2 fun b H3 =>
        if b = true then te σ2 H3 fun y H4 => ∃ acc, H4 D = some (.lst acc) ∧ acc.length < sizeLine ∧ Nx (upd H4 D (.lst (acc ++ [y]))) else Nx H3) :=
  lc_gen walk_range hD f e hn (fun _ _ => trivial) (fun i x H1 H1' hi f1 y => by
    obtain ⟨rfl, rfl⟩ := y
    dsimp only
    rw [Int.zero_add]
    exact ⟨_, _, Fr.refl _ _, hw _, fun R r => r, fun H2 g R r => ht i hi H2 (f1.trans g) R r, fun hf => (he i hi hf).mono f1⟩) q
theorem given_all (n : Nat) (e : Nat → V) : given n (fun _ => true) e = (List.range n).map e := by unfold given; rw [filter_all]
/-- all its items True -/
theorem all_true {α : Type} (xs : List α) : (xs.map fun _ => V.bl true) = (List.replicate xs.length true).map V.bl := by
  rw [List.map_replicate]
  exact List.map_eq_replicate_iff.mpr fun _ _ => rfl
theorem rep_all (n : Nat) : (List.replicate n true).all id = true := by
  rw [List.all_eq_true]
  exact fun x hx => (List.mem_replicate.mp hx).2
/-! ### answers that are known -/
theorem ifD {p : Prop} [Decidable p] {A B : Prop} (h : p) (a : A) : (if decide p = true then A else B) := by
  rw [decide_eq_true h]
  exact iteT a
theorem ifN {p : Prop} [Decidable p] {A B : Prop} (h : ¬ p) (b : B) : (if decide p = true then A else B) := by
  rw [decide_eq_false h]
  exact iteF b
theorem ifB {c : Bool} {A B : Prop} (h : c = true) (a : A) : (if c = true then A else B) := by rw [h]; exact iteT a
theorem ifBN {c : Bool} {A B : Prop} (h : c = false) (b : B) : (if c = true then A else B) := by rw [h]; exact iteF b
theorem qD {p : Prop} [Decidable p] {Q : VK} {H : Hp} (h : p) (q : Q (.bl true) H) : Q (.bl (decide p)) H := by
  rw [decide_eq_true h]
  exact q
theorem qN {p : Prop} [Decidable p] {Q : VK} {H : Hp} (h : ¬ p) (q : Q (.bl false) H) : Q (.bl (decide p)) H := by
  rw [decide_eq_false h]
  exact q
theorem at0 {x : V} {r : List V} : atI (x :: r) 0 = some x := atI_nat (j := 0) rfl
theorem at1 {x y : V} {r : List V} : atI (x :: y :: r) 1 = some y := atI_nat (j := 1) rfl
theorem at2 {x y z : V} {r : List V} : atI (x :: y :: z :: r) 2 = some z := atI_nat (j := 2) rfl
theorem at3 {x y z u : V} {r : List V} : atI (x :: y :: z :: u :: r) 3 = some u := atI_nat (j := 3) rfl
theorem inV_str (x : Str) (zs : List Str) : inV (.str x) (zs.map V.str) = decide (x ∈ zs) := by
  unfold inV
  rw [Bool.eq_iff_iff, List.any_eq_true, decide_eq_true_eq]
  constructor
  · rintro ⟨v, hv, e⟩
    obtain ⟨z, hz, rfl⟩ := List.mem_map.mp hv
    have : z = x := by simpa [eqV] using e
    rw [← this]
    exact hz
  · exact fun h => ⟨.str x, List.mem_map.mpr ⟨x, h, rfl⟩, by simp [eqV]⟩
theorem inV_int (x : Int) (zs : List Int) : inV (.int x) (zs.map V.int) = decide (x ∈ zs) := by
  unfold inV
  rw [Bool.eq_iff_iff, List.any_eq_true, decide_eq_true_eq]
  constructor
  · rintro ⟨v, hv, e⟩
    obtain ⟨z, hz, rfl⟩ := List.mem_map.mp hv
    have : z = x := by simpa [eqV] using e
    rw [← this]
    exact hz
  · exact fun h => ⟨.int x, List.mem_map.mpr ⟨x, h, rfl⟩, by simp [eqV]⟩
theorem flat_strs (zs : List Str) : (zs.map V.str).all flatV = true := by
  rw [List.all_eq_true]
  intro v hv
  obtain ⟨z, _, rfl⟩ := List.mem_map.mp hv
  rfl
theorem flat_ints (zs : List Int) : (zs.map V.int).all flatV = true := by
  rw [List.all_eq_true]
  intro v hv
  obtain ⟨z, _, rfl⟩ := List.mem_map.mp hv
  rfl
end RL

/-! terms.py: what makes a term, a place. -/
namespace RL
open PySem L2 RlR

/-! ### the parts -/
def kids : T → List T
  | .num _ => []
  | .look p => [p]
  | .two _ a b => [a, b]
  | .key _ => []
  | .via t => [t]
def subs : T → List T
  | .num c => [.num c]
  | .look p => .look p :: subs p
  | .two o a b => .two o a b :: (subs a ++ subs b)
  | .key k => [.key k]
  | .via t => .via t :: subs t
theorem subs_len : ∀ t : T, (subs t).length = siz t
  | .num _ => rfl
  | .look p => by simp [subs, siz, subs_len p]
  | .two _ a b => by simp [subs, siz, subs_len a, subs_len b]
  | .key _ => rfl
  | .via t => by simp [subs, siz, subs_len t]
def keyOf? : T → Option Int
  | .key k => some k
  | _ => none
theorem keys_wf {n : Int} : ∀ (b : Bool) (t : T), wf n b t → ∀ s ∈ subs t, ∀ k, keyOf? s = some k → k < n
  | true, .num _, _ => fun s hs k e => by simp [subs] at hs; subst hs; cases e
  | true, .look p, h => fun s hs k e => by
    rcases List.mem_cons.mp hs with rfl | hs
    · cases e
    · exact keys_wf false p h s hs k e
  | true, .two _ a b, h => fun s hs k e => by
    rcases List.mem_cons.mp hs with rfl | hs
    · cases e
    · rcases List.mem_append.mp hs with hs | hs
      · exact keys_wf true a h.1 s hs k e
      · exact keys_wf true b h.2 s hs k e
  | false, .key k, h => fun s hs k' e => by
    simp [subs] at hs
    subst hs
    cases e
    exact h.2
  | false, .via t, h => fun s hs k e => by
    rcases List.mem_cons.mp hs with rfl | hs
    · cases e
    · exact keys_wf true t h s hs k e
  | true, .key _, h => h.elim
  | true, .via _, h => h.elim
  | false, .num _, h => h.elim
  | false, .look _, h => h.elim
  | false, .two _ _ _, h => h.elim

section
variable {P : Program} {w : World} {K : PySem.W.Frag} {mg : Str → Option Value} {base : Heap}

def spWhole : Sp := fun vs H Q _ => ∃ i : Int, vs = [.int i] ∧ Q (.bl true) H
theorem ok_is_whole (T : Txt K w mg) : FnOk P w K mg base CX0 1 T.is_whole.f T.is_whole.fd ["thing"] spWhole := by
  refine T.is_whole.F.ok sc_is_whole (fun vs H Q E h => ?_) (fun cdv A outer s H vs Q E hr h => ?_)
  · obtain ⟨i, rfl, _⟩ := h
    rfl
  obtain ⟨i, rfl, q⟩ := h
  refine ⟨_, (pss_one (ps_ret (pe_and (pe_callB call_is2 (by rfl) T.z_isinstance bt_isinstance (pa_cons (pv 0) (pa_cons (pe_bltn (v := .ty "int") rfl T.z_int bt_int rfl) pa_nil))) (pe_one (pe_not (pe_callB call_is2 (by rfl) T.z_isinstance bt_isinstance (pa_cons (pv 0) (pa_cons (pe_bltn (v := .ty "bool") rfl T.z_bool bt_bool rfl) pa_nil)))))))), ?_⟩
  refine ⟨_, rfl, _, _, _, rfl, .ii i, _, rfl, iteT ?_⟩
  exact ⟨_, rfl, _, _, _, rfl, .ib i, _, rfl, q⟩

def spFromTo : Sp := fun vs H Q _ => ∃ i a b : Int, vs = [.int i, .int a, .int b] ∧ a ≤ i ∧ i ≤ b ∧ Q (.bl true) H
theorem ok_is_from_to (T : Txt K w mg) : FnOk P w K mg base CX0 2 T.is_from_to.f T.is_from_to.fd ["thing", "least", "most"] spFromTo := by
  refine T.is_from_to.F.ok sc_is_from_to (fun vs H Q E h => ?_) (fun cdv A outer s H vs Q E hr h => ?_)
  · obtain ⟨i, a, b, rfl, _⟩ := h
    rfl
  obtain ⟨i, a, b, rfl, h1, h2, q⟩ := h
  refine ⟨_, (pss_one (ps_ret (pe_and (pe_call (ok_is_whole T) (hr.mono (by omega)) rfl T.is_whole.m T.is_whole.F.kp T.is_whole.b .nil pass0 (pa_cons (pv 0) pa_nil)) (pe_one (pe_chain op_le op_le (pv 1) (pv 0) (pv 2)))))), ?_⟩
  refine ⟨_, rfl, i, rfl, _, rfl, iteT ?_⟩
  refine ⟨_, rfl, _, rfl, _, _, rfl, rfl, _, rfl, ifD h1 ?_⟩
  exact ⟨_, rfl, _, _, rfl, rfl, qD (Q := Q) h2 q⟩

def spWorth : Sp := fun vs H Q _ => ∃ i : Int, vs = [.int i] ∧ 0 ≤ i ∧ i ≤ 999999 ∧ Q (.bl true) H
theorem ok_is_worth (T : Txt K w mg) : FnOk P w K mg base CX0 3 T.is_worth.f T.is_worth.fd ["thing"] spWorth := by
  refine T.is_worth.F.ok sc_is_worth (fun vs H Q E h => ?_) (fun cdv A outer s H vs Q E hr h => ?_)
  · obtain ⟨i, rfl, _⟩ := h
    rfl
  obtain ⟨i, rfl, h1, h2, q⟩ := h
  refine ⟨_, (pss_one (ps_ret (pe_call (ok_is_from_to T) (hr.mono (by omega)) rfl T.is_from_to.m T.is_from_to.F.kp T.is_from_to.b .nil pass0 (pa_cons (pv 0) (pa_cons pe_int (pa_cons (pe_op op_sub (pe_gint rfl T.c_WHEEL) pe_int) pa_nil)))))), ?_⟩
  exact ⟨_, rfl, _, _, rfl, rfl, i, 0, 999999, rfl, h1, h2, q⟩

/-- a board: 1 to 12 worths -/
def okB (b : List Int) : Prop := 1 ≤ b.length ∧ b.length ≤ 12 ∧ ∀ k ∈ b, 0 ≤ k ∧ k ≤ 999999
def spWorths : Sp := fun vs H Q _ => ∃ (a : Addr) (b : List Int), vs = [.ref a] ∧ H a = some (.tup (b.map V.int)) ∧ okB b ∧ Ret H Q (.bl true)
theorem ok_are_worths (T : Txt K w mg) : FnOk P w K mg base CX0 4 T.are_worths.f T.are_worths.fd ["thing"] spWorths := by
  refine T.are_worths.F.ok sc_are_worths (fun vs H Q E h => ?_) (fun cdv A outer s H vs Q E hr h => ?_)
  · obtain ⟨a, b, rfl, _⟩ := h
    rfl
  obtain ⟨a, b, rfl, ha, ⟨h1, h2, h3⟩, q⟩ := h
  refine ⟨_, (pss_one (ps_ret (pe_and (pe_callB call_is2 (by rfl) T.z_isinstance bt_isinstance (pa_cons (pv 0) (pa_cons (pe_bltn (v := .ty "tuple") rfl T.z_tuple bt_tuple rfl) pa_nil))) (pe_and (pe_chain op_le op_le pe_int (pe_callB (lenK (K := K) rfl) (by rfl) T.z_len bt_len (pa_cons (pv 0) pa_nil)) (pe_gint rfl T.c_MOST_KEYS_terms)) (pe_one (pe_callB (allK (K := K) rfl rfl) (by rfl) T.z_all bt_all (pa_cons (pe_lc rfl sc_are_worths.nd (piT (K := K) rfl (pv 0)) (blkOk_by (own := [("one", 1)]) (N := ["thing", "one"]) (sc := defScope s_are_worths) (by decide +kernel)) (fun _ _ _ _ _ => (pg_name (i := 1) sc_are_worths.nd rfl (by first | exact Or.inl rfl | exact Or.inr rfl))) (fun _ _ _ _ _ => pts_nil) (fun _ _ _ _ _ => (pe_call (ok_is_worth T) (hr.mono (by omega)) rfl T.is_worth.m T.is_worth.F.kp T.is_worth.b .nil pass0 (pa_cons (pv 1) pa_nil)))) pa_nil))))))), ?_⟩
  refine ⟨_, rfl, _, _, _, rfl, .tt ha, _, rfl, iteT ?_⟩
  refine ⟨_, rfl, a, _, rfl, .inr (SqT.of ha), _, _, rfl, rfl, _, rfl, ifD (by rw [List.length_map]; omega) ?_⟩
  refine ⟨_, _, rfl, rfl, _, rfl, ifD (by rw [List.length_map]; omega) ?_⟩
  refine ⟨_, rfl, a, rfl, ⟨_, SqT.of ha⟩, fun D hD => lc_map walk_tup hD (fun _ => V.bl true) (by rw [List.length_map]; omega) (fun H' f => SqT.of (f.tup _ _ ha)) (fun _ => rfl) (fun x hx H1 f R r => ?_) (fun H' f hl => ?_)⟩
  · obtain ⟨i, hi, rfl⟩ := List.mem_map.mp hx
    exact ⟨_, rfl, i, rfl, (h3 i hi).1, (h3 i hi).2, r H1 (Fr.refl _ _)⟩
  · rw [all_true] at hl
    refine ⟨D, _, rfl, SqL.of hl, ?_⟩
    rw [rep_all]
    exact q _ f

def spNeedW : Sp := fun vs H Q _ => ∃ (a : Addr) (b : List Int), vs = [.ref a] ∧ H a = some (.tup (b.map V.int)) ∧ okB b ∧ Ret H Q .non
theorem ok_need_worths (T : Txt K w mg) : FnOk P w K mg base CX0 5 T.need_worths.f T.need_worths.fd ["board"] spNeedW := by
  refine T.need_worths.F.ok sc_need_worths (fun vs H Q E h => ?_) (fun cdv A outer s H vs Q E hr h => ?_)
  · obtain ⟨a, b, rfl, _⟩ := h
    rfl
  obtain ⟨a, b, rfl, ha, hb, q⟩ := h
  refine ⟨_, (pss_one (ps_if (pt_not (pt_val (pe_call (ok_are_worths T) (hr.mono (by omega)) rfl T.are_worths.m T.are_worths.F.kp T.are_worths.b .nil pass0 (pa_cons (pv 0) pa_nil)))) (pss_one ps_never) pss_nil)), ?_⟩
  exact ⟨_, rfl, a, b, rfl, ha, hb, fun H' f => ⟨_, rfl, iteF (q H' f)⟩⟩
theorem ok_need_board (T : Txt K w mg) : FnOk P w K mg base CX0 6 T.need_board.f T.need_board.fd ["board"] spNeedW := by
  refine T.need_board.F.ok sc_need_board (fun vs H Q E h => ?_) (fun cdv A outer s H vs Q E hr h => ?_)
  · obtain ⟨a, b, rfl, _⟩ := h
    rfl
  obtain ⟨a, b, rfl, ha, hb, q⟩ := h
  refine ⟨_, (pss_one (ps_expr (pe_call (ok_need_worths T) (hr.mono (by omega)) rfl T.need_worths.m T.need_worths.F.kp T.need_worths.b .nil pass0 (pa_cons (pv 0) pa_nil)))), ?_⟩
  exact ⟨_, rfl, a, b, rfl, ha, hb, fun H' f => q H' f⟩

/-- a tuple with a word first: whether it has such a size and one of these words -/
def spHas (K : PySem.W.Frag) : Sp := fun vs H Q _ => ∃ (a b : Addr) (z : Str) (xs : List V) (n : Int) (zs : List Str), vs = [.ref a, .int n, .ref b] ∧ H a = some (.tup (.str z :: xs)) ∧ SqT K H b (zs.map V.str) ∧
  ((n ≠ (xs.length : Int) + 1 ∧ Q (.bl false) H) ∨ (n = (xs.length : Int) + 1 ∧ Q (.bl (decide (z ∈ zs))) H))
theorem ok_has_word (T : Txt K w mg) : FnOk P w K mg base CX0 1 T.has_word.f T.has_word.fd ["thing", "size", "words"] (spHas K) := by
  refine T.has_word.F.ok sc_has_word (fun vs H Q E h => ?_) (fun cdv A outer s H vs Q E hr h => ?_)
  · obtain ⟨a, b, z, xs, n, zs, rfl, _⟩ := h
    rfl
  obtain ⟨a, b, z, xs, n, zs, rfl, ha, hb, q⟩ := h
  refine ⟨_, (pss_cons (ps_if (PW.pt (pw_or (pt_not (pt_val (pe_callB call_is2 (by rfl) T.z_isinstance bt_isinstance (pa_cons (pv 0) (pa_cons (pe_bltn (v := .ty "tuple") rfl T.z_tuple bt_tuple rfl) pa_nil))))) (pw_or (pt_cmpR op_ne (pe_callB (lenK (K := K) rfl) (by rfl) T.z_len bt_len (pa_cons (pv 0) pa_nil)) (pv 1) (nomark _)) (pw_or1 (pt_not (pt_val (pe_callB call_is2 (by rfl) T.z_isinstance bt_isinstance (pa_cons (pe_ix (ixT (K := K) rfl) (pv 0) pe_int (fun _ _ => rfl)) (pa_cons (pe_bltn (v := .ty "str") rfl T.z_str bt_str rfl) pa_nil))))))))) (pss_one (ps_ret pe_bl)) pss_nil)
    (pss_one (ps_ret (pe_cmpR (opIn (K := K) rfl) (pe_ix (ixT (K := K) rfl) (pv 0) pe_int (fun _ _ => rfl)) (pv 2) (by rfl))))), ?_⟩
  refine ⟨_, rfl, _, _, _, rfl, .tt ha, _, rfl, iteF ?_⟩
  refine ⟨_, rfl, a, _, rfl, .inr (SqT.of ha), _, rfl, rfl, _, rfl, ?_⟩
  have el : (((V.str z :: xs).length : Nat) : Int) = (xs.length : Int) + 1 := by rw [List.length_cons]; omega
  rcases q with ⟨hn, q⟩ | ⟨hn, q⟩
  · have e : (!decide (V.int (((V.str z :: xs).length : Nat) : Int) = V.int n)) = true := by
      rw [decide_eq_false (fun z => hn (by rw [V.int.injEq, el] at z; exact z.symm))] <;> rfl
    exact ifB e (iteT q)
  · have e : (!decide (V.int (((V.str z :: xs).length : Nat) : Int) = V.int n)) = false := by
      rw [decide_eq_true (by rw [V.int.injEq, el]; exact hn.symm)] <;> rfl
    refine ifBN e ⟨_, rfl, a, _, _, _, rfl, rfl, SqT.of ha, at0, _, _, _, rfl, .ss z, _, rfl, iteF ?_⟩
    refine ⟨_, rfl, a, _, _, _, rfl, rfl, SqT.of ha, at0, _, rfl, b, _, rfl, .inr hb, rfl, flat_strs zs, ?_⟩
    show Q (.bl (if false = true then !inV (.str z) (zs.map V.str) else inV (.str z) (zs.map V.str))) H
    rw [if_neg Bool.false_ne_true, inV_str]
    exact q

/-- the parts right within -/
def spParts : Sp := fun vs H Q _ => ∃ (t : T) (v : V), vs = [v] ∧ TAt H t v ∧ ∀ (D : Addr) (H' : Hp) (us : List V), H D = none → Fr [] H H' → H' D = some (.lst us) → Paired (TAt H) (kids t) us → Q (.ref D) H'
theorem two_in (o : Op) : decide (o.word ∈ (["sum", "less", "under", "same"] : List Str)) = true := by cases o <;> decide +kernel
theorem ok_parts_of (T : Txt K w mg) : FnOk P w K mg base CX0 1 T.parts_of.f T.parts_of.fd ["thing"] spParts := by
  refine T.parts_of.F.ok sc_parts_of (fun vs H Q E h => ?_) (fun cdv A outer s H vs Q E hr h => ?_)
  · obtain ⟨t, v, rfl, _⟩ := h
    rfl
  obtain ⟨t, v, rfl, ha, q⟩ := h
  refine ⟨_, (pss_cons (ps_if (pt_cmpR (opIn (K := K) rfl) (pe_ix (ixT (K := K) rfl) (pv 0) pe_int (fun _ _ => rfl)) (pe_glob (v := .ref T.c_TWO.a) rfl T.c_TWO.m rfl) (by rfl)) (pss_one (ps_ret (pe_lst (pa_cons (pe_ix (ixT (K := K) rfl) (pv 0) pe_int (fun _ _ => rfl)) (pa_cons (pe_ix (ixT (K := K) rfl) (pv 0) pe_int (fun _ _ => rfl)) pa_nil))))) pss_nil)
    (pss_cons (ps_if (PW.pt (pw_or (pt_cmpR op_eq (pe_ix (ixT (K := K) rfl) (pv 0) pe_int (fun _ _ => rfl)) pe_str (nomark _)) (pw_or1 (pt_cmpR op_eq (pe_ix (ixT (K := K) rfl) (pv 0) pe_int (fun _ _ => rfl)) pe_str (nomark _))))) (pss_one (ps_ret (pe_lst (pa_cons (pe_ix (ixT (K := K) rfl) (pv 0) pe_int (fun _ _ => rfl)) pa_nil)))) pss_nil)
    (pss_one (ps_ret (pe_lst pa_nil))))), ?_⟩
  have hT := T.c_TWO.at_ H
  cases t with
  | num c =>
    obtain ⟨p, rfl, hp⟩ := ha
    refine ⟨_, rfl, p, _, _, _, rfl, rfl, SqT.of hp, at0, _, _, rfl, .inr hT, rfl, flat_strs _, _, rfl, ?_⟩
    refine ifBN (by rw [if_neg Bool.false_ne_true, inV_str]; decide +kernel) ?_
    refine ⟨_, rfl, p, _, _, _, rfl, rfl, SqT.of hp, at0, rfl, _, rfl, ifN (by decide +kernel) ?_⟩
    refine ⟨_, rfl, p, _, _, _, rfl, rfl, SqT.of hp, at0, rfl, _, rfl, ifN (by decide +kernel) ?_⟩
    exact ⟨Nat.zero_le _, fun D hD => q D _ _ hD (Fr.new hD) upd_same .nil⟩
  | key c =>
    obtain ⟨p, rfl, hp⟩ := ha
    refine ⟨_, rfl, p, _, _, _, rfl, rfl, SqT.of hp, at0, _, _, rfl, .inr hT, rfl, flat_strs _, _, rfl, ?_⟩
    refine ifBN (by rw [if_neg Bool.false_ne_true, inV_str]; decide +kernel) ?_
    refine ⟨_, rfl, p, _, _, _, rfl, rfl, SqT.of hp, at0, rfl, _, rfl, ifN (by decide +kernel) ?_⟩
    refine ⟨_, rfl, p, _, _, _, rfl, rfl, SqT.of hp, at0, rfl, _, rfl, ifN (by decide +kernel) ?_⟩
    exact ⟨Nat.zero_le _, fun D hD => q D _ _ hD (Fr.new hD) upd_same .nil⟩
  | look t =>
    obtain ⟨p, u, rfl, hp, hu⟩ := ha
    refine ⟨_, rfl, p, _, _, _, rfl, rfl, SqT.of hp, at0, _, _, rfl, .inr hT, rfl, flat_strs _, _, rfl, ?_⟩
    refine ifBN (by rw [if_neg Bool.false_ne_true, inV_str]; decide +kernel) ?_
    refine ⟨_, rfl, p, _, _, _, rfl, rfl, SqT.of hp, at0, rfl, _, rfl, ifD rfl (ifB rfl ?_)⟩
    exact ⟨_, rfl, p, _, _, _, rfl, rfl, SqT.of hp, at1, line_of (by simp), fun D hD => q D _ _ hD (Fr.new hD) upd_same (.cons hu .nil)⟩
  | via t =>
    obtain ⟨p, u, rfl, hp, hu⟩ := ha
    refine ⟨_, rfl, p, _, _, _, rfl, rfl, SqT.of hp, at0, _, _, rfl, .inr hT, rfl, flat_strs _, _, rfl, ?_⟩
    refine ifBN (by rw [if_neg Bool.false_ne_true, inV_str]; decide +kernel) ?_
    refine ⟨_, rfl, p, _, _, _, rfl, rfl, SqT.of hp, at0, rfl, _, rfl, ifN (by decide +kernel) ?_⟩
    refine ⟨_, rfl, p, _, _, _, rfl, rfl, SqT.of hp, at0, rfl, _, rfl, ifD rfl ?_⟩
    exact ⟨_, rfl, p, _, _, _, rfl, rfl, SqT.of hp, at1, line_of (by simp), fun D hD => q D _ _ hD (Fr.new hD) upd_same (.cons hu .nil)⟩
  | two o x y =>
    obtain ⟨p, u1, u2, rfl, hp, h1, h2⟩ := ha
    refine ⟨_, rfl, p, _, _, _, rfl, rfl, SqT.of hp, at0, _, _, rfl, .inr hT, rfl, flat_strs _, _, rfl, ?_⟩
    refine ifB (by rw [if_neg Bool.false_ne_true, inV_str]; exact two_in o) ?_
    exact ⟨_, rfl, p, _, _, _, rfl, rfl, SqT.of hp, at1, _, rfl, p, _, _, _, rfl, rfl, SqT.of hp, at2, line_of (by simp), fun D hD => q D _ _ hD (Fr.new hD) upd_same (.cons h1 (.cons h2 .nil))⟩

/-! ### made as a term, made as a place: both at once, by the depth -/
def spMade (b : Bool) (n : Nat) : Sp := fun vs H Q _ => ∃ (t : T) (v : V) (d : Int) (m : Int), vs = [v, .int d] ∧ TAt H t v ∧ wf m b t ∧ m ≤ 12 ∧ dep t ≤ n ∧ d + dep t ≤ 7 ∧ Ret H Q (.bl true)
theorem dep_pos : ∀ t : T, 1 ≤ dep t
  | .num _ => Nat.le_refl _
  | .look _ => Nat.le_add_left _ _
  | .two _ _ _ => Nat.le_add_left _ _
  | .key _ => Nat.le_refl _
  | .via _ => Nat.le_add_left _ _
theorem made_nd {d : Int} {t : T} (h : d + dep t ≤ 7) : ¬ (6 : Int) < d := by have := dep_pos t; omega
theorem ok_made_term (T : Txt K w mg) {n : Nat} (hn : n ≤ 8) (G : FnOk P w K mg base CX0 (n + 5) T.is_made_term.f T.is_made_term.fd ["thing", "deep"] (spMade true n)) (G2 : FnOk P w K mg base CX0 (n + 5) T.is_made_place.f T.is_made_place.fd ["thing", "deep"] (spMade false n)) :
    FnOk P w K mg base CX0 (n + 6) T.is_made_term.f T.is_made_term.fd ["thing", "deep"] (spMade true (n + 1)) := by
  refine T.is_made_term.F.ok sc_is_made_term (fun vs H Q E h => ?_) (fun cdv A outer s H vs Q E hr h => ?_)
  · obtain ⟨t, v, d, m, rfl, _⟩ := h
    rfl
  obtain ⟨t, v, d, m, rfl, ha, hw, hm, hd, h7, q⟩ := h
  have hr1 : Room 1 _ := hr.mono (by omega)
  have hr3 : Room 3 _ := hr.mono (by omega)
  have Gh := ok_has_word (P := P) (w := w) (base := base) T
  refine ⟨_, (pss_cons (ps_if (pt_cmpR op_gt (pv 1) (pe_gint rfl T.c_MOST_DEEP) (nomark _)) (pss_one (ps_ret pe_bl)) pss_nil)
    (pss_cons (ps_if (pt_val (pe_call Gh (hr.mono (by omega)) rfl T.has_word.m T.has_word.F.kp T.has_word.b .nil pass0 (pa_cons (pv 0) (pa_cons pe_int (pa_cons (pe_tup (pa_cons pe_str pa_nil)) pa_nil))))) (pss_one (ps_ret (pe_call (ok_is_worth T) (hr.mono (by omega)) rfl T.is_worth.m T.is_worth.F.kp T.is_worth.b .nil pass0 (pa_cons (pe_ix (ixT (K := K) rfl) (pv 0) pe_int (fun _ _ => rfl)) pa_nil)))) pss_nil)
    (pss_cons (ps_if (pt_val (pe_call Gh (hr.mono (by omega)) rfl T.has_word.m T.has_word.F.kp T.has_word.b .nil pass0 (pa_cons (pv 0) (pa_cons pe_int (pa_cons (pe_tup (pa_cons pe_str pa_nil)) pa_nil))))) (pss_one (ps_ret (pe_call G2 (hr.mono (by omega)) rfl T.is_made_place.m T.is_made_place.F.kp T.is_made_place.b .nil pass0 (pa_cons (pe_ix (ixT (K := K) rfl) (pv 0) pe_int (fun _ _ => rfl)) (pa_cons (pe_op op_add (pv 1) pe_int) pa_nil))))) pss_nil)
    (pss_cons (ps_if (pt_val (pe_call Gh (hr.mono (by omega)) rfl T.has_word.m T.has_word.F.kp T.has_word.b .nil pass0 (pa_cons (pv 0) (pa_cons pe_int (pa_cons (pe_glob (v := .ref T.c_TWO.a) rfl T.c_TWO.m rfl) pa_nil))))) (pss_one (ps_ret (pe_and (pe_call G (hr.mono (by omega)) rfl T.is_made_term.m T.is_made_term.F.kp T.is_made_term.b .nil pass0 (pa_cons (pe_ix (ixT (K := K) rfl) (pv 0) pe_int (fun _ _ => rfl)) (pa_cons (pe_op op_add (pv 1) pe_int) pa_nil))) (pe_one (pe_call G (hr.mono (by omega)) rfl T.is_made_term.m T.is_made_term.F.kp T.is_made_term.b .nil pass0 (pa_cons (pe_ix (ixT (K := K) rfl) (pv 0) pe_int (fun _ _ => rfl)) (pa_cons (pe_op op_add (pv 1) pe_int) pa_nil))))))) pss_nil)
    (pss_one (ps_ret pe_bl)))))), ?_⟩
  refine ⟨_, rfl, d, 6, rfl, rfl, _, rfl, ifN (made_nd h7) ?_⟩
  cases t with
  | num c =>
    obtain ⟨p, rfl, hp⟩ := ha
    refine ⟨_, rfl, by simp [sizeLine], fun b hb => ?_⟩
    have f1 : Fr [] H (upd H b (.tup [.str "num"])) := Fr.new hb
    refine ⟨p, b, _, _, _, ["num"], rfl, f1.tup _ _ hp, SqT.of upd_same, .inr ⟨rfl, _, rfl, ifD (by decide +kernel) ?_⟩⟩
    refine ⟨_, rfl, p, _, _, _, rfl, rfl, SqT.of (f1.tup _ _ hp), at1, c, rfl, hw.1, hw.2, q _ f1⟩
  | key c => exact hw.elim
  | via t => exact hw.elim
  | look t =>
    obtain ⟨p, u, rfl, hp, hu⟩ := ha
    refine ⟨_, rfl, by simp [sizeLine], fun b hb => ?_⟩
    have f1 : Fr [] H (upd H b (.tup [.str "num"])) := Fr.new hb
    refine ⟨p, b, _, _, _, ["num"], rfl, f1.tup _ _ hp, SqT.of upd_same, .inr ⟨rfl, _, rfl, ifN (by decide +kernel) ?_⟩⟩
    refine ⟨_, rfl, by simp [sizeLine], fun c hc => ?_⟩
    have f2 := f1.trans (Fr.new (o := .tup [.str "look"]) hc)
    refine ⟨p, c, _, _, _, ["look"], rfl, f2.tup _ _ hp, SqT.of upd_same, .inr ⟨rfl, _, rfl, ifD (by decide +kernel) ?_⟩⟩
    refine ⟨_, rfl, p, _, _, _, rfl, rfl, SqT.of (f2.tup _ _ hp), at1, _, rfl, _, _, rfl, rfl, t, u, d + 1, m, rfl, hu.keep f2.tup, hw, hm, ?_, ?_, fun H' f => q _ (f2.trans f)⟩
    · have hd : dep t + 1 ≤ n + 1 := hd
      omega
    · have h7 : d + ((dep t + 1 : Nat) : Int) ≤ 7 := h7
      omega
  | two o x y =>
    obtain ⟨p, u1, u2, rfl, hp, h1, h2⟩ := ha
    have hd : max (dep x) (dep y) + 1 ≤ n + 1 := hd
    have h7 : d + ((max (dep x) (dep y) + 1 : Nat) : Int) ≤ 7 := h7
    refine ⟨_, rfl, by simp [sizeLine], fun b hb => ?_⟩
    have f1 : Fr [] H (upd H b (.tup [.str "num"])) := Fr.new hb
    refine ⟨p, b, _, _, _, ["num"], rfl, f1.tup _ _ hp, SqT.of upd_same, .inl ⟨by simp, _, rfl, iteF ?_⟩⟩
    refine ⟨_, rfl, by simp [sizeLine], fun c hc => ?_⟩
    have f2 := f1.trans (Fr.new (o := .tup [.str "look"]) hc)
    refine ⟨p, c, _, _, _, ["look"], rfl, f2.tup _ _ hp, SqT.of upd_same, .inl ⟨by simp, _, rfl, iteF ?_⟩⟩
    refine ⟨_, rfl, p, T.c_TWO.a, _, _, _, _, rfl, f2.tup _ _ hp, T.c_TWO.at_ _, .inr ⟨rfl, _, rfl, ifB (two_in o) ?_⟩⟩
    refine ⟨_, rfl, p, _, _, _, rfl, rfl, SqT.of (f2.tup _ _ hp), at1, _, rfl, _, _, rfl, rfl, x, u1, d + 1, m, rfl, h1.keep f2.tup, hw.1, hm, by omega, by omega, fun H3 f3 => ?_⟩
    have f4 := f2.trans f3
    refine ⟨_, rfl, iteT ⟨_, rfl, p, _, _, _, rfl, rfl, SqT.of (f4.tup _ _ hp), at2, _, rfl, _, _, rfl, rfl, y, u2, d + 1, m, rfl, h2.keep f4.tup, hw.2, hm, by omega, by omega, fun H5 f5 => q _ (f4.trans f5)⟩⟩
theorem ok_made_place (T : Txt K w mg) {n : Nat} (hn : n ≤ 8) (G : FnOk P w K mg base CX0 (n + 5) T.is_made_term.f T.is_made_term.fd ["thing", "deep"] (spMade true n)) :
    FnOk P w K mg base CX0 (n + 6) T.is_made_place.f T.is_made_place.fd ["thing", "deep"] (spMade false (n + 1)) := by
  refine T.is_made_place.F.ok sc_is_made_place (fun vs H Q E h => ?_) (fun cdv A outer s H vs Q E hr h => ?_)
  · obtain ⟨t, v, d, m, rfl, _⟩ := h
    rfl
  obtain ⟨t, v, d, m, rfl, ha, hw, hm, hd, h7, q⟩ := h
  refine ⟨_, (pss_cons (ps_if (pt_cmpR op_gt (pv 1) (pe_gint rfl T.c_MOST_DEEP) (nomark _)) (pss_one (ps_ret pe_bl)) pss_nil)
    (pss_cons (ps_if (pt_val (pe_call (ok_has_word T) (hr.mono (by omega)) rfl T.has_word.m T.has_word.F.kp T.has_word.b .nil pass0 (pa_cons (pv 0) (pa_cons pe_int (pa_cons (pe_tup (pa_cons pe_str pa_nil)) pa_nil))))) (pss_one (ps_ret (pe_call (ok_is_from_to T) (hr.mono (by omega)) rfl T.is_from_to.m T.is_from_to.F.kp T.is_from_to.b .nil pass0 (pa_cons (pe_ix (ixT (K := K) rfl) (pv 0) pe_int (fun _ _ => rfl)) (pa_cons pe_int (pa_cons (pe_op op_sub (pe_gint rfl T.c_MOST_KEYS_terms) pe_int) pa_nil)))))) pss_nil)
    (pss_cons (ps_if (pt_val (pe_call (ok_has_word T) (hr.mono (by omega)) rfl T.has_word.m T.has_word.F.kp T.has_word.b .nil pass0 (pa_cons (pv 0) (pa_cons pe_int (pa_cons (pe_tup (pa_cons pe_str pa_nil)) pa_nil))))) (pss_one (ps_ret (pe_call G (hr.mono (by omega)) rfl T.is_made_term.m T.is_made_term.F.kp T.is_made_term.b .nil pass0 (pa_cons (pe_ix (ixT (K := K) rfl) (pv 0) pe_int (fun _ _ => rfl)) (pa_cons (pe_op op_add (pv 1) pe_int) pa_nil))))) pss_nil)
    (pss_one (ps_ret pe_bl))))), ?_⟩
  refine ⟨_, rfl, d, 6, rfl, rfl, _, rfl, ifN (made_nd h7) ?_⟩
  cases t with
  | num c => exact hw.elim
  | look c => exact hw.elim
  | two o a b => exact hw.elim
  | key c =>
    obtain ⟨p, rfl, hp⟩ := ha
    refine ⟨_, rfl, by simp [sizeLine], fun b hb => ?_⟩
    have f1 : Fr [] H (upd H b (.tup [.str "key"])) := Fr.new hb
    refine ⟨p, b, _, _, _, ["key"], rfl, f1.tup _ _ hp, SqT.of upd_same, .inr ⟨rfl, _, rfl, ifD (by decide +kernel) ?_⟩⟩
    exact ⟨_, rfl, p, _, _, _, rfl, rfl, SqT.of (f1.tup _ _ hp), at1, _, _, rfl, rfl, c, 0, 11, rfl, hw.1, by have := hw.2; omega, q _ f1⟩
  | via t =>
    obtain ⟨p, u, rfl, hp, hu⟩ := ha
    refine ⟨_, rfl, by simp [sizeLine], fun b hb => ?_⟩
    have f1 : Fr [] H (upd H b (.tup [.str "key"])) := Fr.new hb
    refine ⟨p, b, _, _, _, ["key"], rfl, f1.tup _ _ hp, SqT.of upd_same, .inr ⟨rfl, _, rfl, ifN (by decide +kernel) ?_⟩⟩
    refine ⟨_, rfl, by simp [sizeLine], fun c hc => ?_⟩
    have f2 := f1.trans (Fr.new (o := .tup [.str "via"]) hc)
    refine ⟨p, c, _, _, _, ["via"], rfl, f2.tup _ _ hp, SqT.of upd_same, .inr ⟨rfl, _, rfl, ifD (by decide +kernel) ?_⟩⟩
    refine ⟨_, rfl, p, _, _, _, rfl, rfl, SqT.of (f2.tup _ _ hp), at1, _, rfl, _, _, rfl, rfl, t, u, d + 1, m, rfl, hu.keep f2.tup, hw, hm, ?_, ?_, fun H' f => q _ (f2.trans f)⟩
    · have hd : dep t + 1 ≤ n + 1 := hd
      omega
    · have h7 : d + ((dep t + 1 : Nat) : Int) ≤ 7 := h7
      omega
theorem made_none {b : Bool} {k : Nat} {f : Addr} {fd : FuncData} : FnOk P w K mg base CX0 k f fd ["thing", "deep"] (spMade b 0) := by
  have no : ∀ vs H Q E, ¬ spMade b 0 vs H Q E := fun vs H Q E h => by
    obtain ⟨t, v, d, m, _, _, _, _, hd, _⟩ := h
    have := dep_pos t
    omega
  exact ⟨fun vs H Q E h => absurd h (no vs H Q E), fun A outer s H args us vs Q E _ _ _ _ h => absurd h (no vs H Q E)⟩
theorem ok_mades (T : Txt K w mg) : ∀ n : Nat, n ≤ 8 → FnOk P w K mg base CX0 (n + 5) T.is_made_term.f T.is_made_term.fd ["thing", "deep"] (spMade true n) ∧ FnOk P w K mg base CX0 (n + 5) T.is_made_place.f T.is_made_place.fd ["thing", "deep"] (spMade false n)
  | 0, _ => ⟨made_none, made_none⟩
  | n + 1, h => by
    have ih := ok_mades T n (by omega)
    exact ⟨ok_made_term T (by omega) ih.1 ih.2, ok_made_place T (by omega) ih.1⟩
theorem ok_is_made_term (T : Txt K w mg) : FnOk P w K mg base CX0 13 T.is_made_term.f T.is_made_term.fd ["thing", "deep"] (spMade true 8) := (ok_mades T 8 (by omega)).1
theorem ok_is_made_place (T : Txt K w mg) : FnOk P w K mg base CX0 13 T.is_made_place.f T.is_made_place.fd ["thing", "deep"] (spMade false 8) := (ok_mades T 8 (by omega)).2
end
end RL

/-! terms.py: tuples within, keys named, what a term comes to. -/
namespace RL
open PySem L2 RlR

theorem pair_right {α β : Type} {F : α → β → Prop} {xs : List α} {ys : List β} (h : Paired F xs ys) : ∀ {i : Nat} {y : β}, ys[i]? = some y → ∃ x, xs[i]? = some x ∧ F x y := by
  induction h with
  | nil => intro i y e; simp at e
  | @cons a b l1 l2 r t ih =>
    intro i y e
    cases i with
    | zero =>
      simp only [List.getElem?_cons_zero, Option.some.injEq] at e
      subst e
      exact ⟨a, rfl, r⟩
    | succ j =>
      simp only [List.getElem?_cons_succ] at e ⊢
      exact ih e
theorem pair_app {α β : Type} {F : α → β → Prop} {xs xs' : List α} {ys ys' : List β} (h : Paired F xs ys) (h' : Paired F xs' ys') : Paired F (xs ++ xs') (ys ++ ys') := by
  induction h with
  | nil => exact h'
  | cons r _ ih => exact .cons r ih
theorem subs_kids : ∀ t : T, subs t = t :: (kids t).flatMap subs
  | .num _ => rfl
  | .look p => by simp [subs, kids]
  | .two _ a b => by simp [subs, kids]
  | .key _ => rfl
  | .via t => by simp [subs, kids]
theorem kid_dep : ∀ (t s : T), s ∈ kids t → dep s + 1 ≤ dep t ∧ siz s ≤ siz t
  | .num _, s, h => by simp [kids] at h
  | .look p, s, h => by simp [kids] at h; subst h; simp [dep, siz]
  | .two _ a b, s, h => by
    simp [kids] at h
    rcases h with rfl | rfl
    · simp only [dep, siz]; omega
    · simp only [dep, siz]; omega
  | .key _, s, h => by simp [kids] at h
  | .via t, s, h => by simp [kids] at h; subst h; simp [dep, siz]
theorem atI_int {bd : List Int} {k : Int} (h0 : 0 ≤ k) (h1 : k < (bd.length : Int)) : atI (bd.map V.int) k = some (.int (bd.getD k.toNat 0)) := by
  have e : k = ((k.toNat : Nat) : Int) := by omega
  have hk : k.toNat < bd.length := by omega
  have q : atI (bd.map V.int) ((k.toNat : Nat) : Int) = some (.int (bd.getD k.toNat 0)) := atI_nat (by
    rw [List.getElem?_map, List.getElem?_eq_getElem hk, List.getD_eq_getElem?_getD, List.getElem?_eq_getElem hk] <;> rfl)
  rw [← e] at q
  exact q
/-- the i-th item of the tuple at v -/
def itm (H : Hp) (v : V) (i : Nat) : V := match v with
  | .ref a => match H a with
    | some (.tup xs) => xs.getD i .non
    | _ => .non
  | _ => .non
theorem itm_of {H : Hp} {a : Addr} {xs : List V} (h : H a = some (.tup xs)) (i : Nat) : itm H (.ref a) i = xs.getD i .non := by
  unfold itm
  simp only [h]

section
variable {P : Program} {w : World} {K : PySem.W.Frag} {mg : Str → Option Value} {base : Heap}

def spTin (n : Nat) : Sp := fun vs H Q _ => ∃ (t : T) (v : V), vs = [v] ∧ TAt H t v ∧ dep t ≤ n ∧ siz t ≤ 1000 ∧
  ∀ (D : Addr) (H' : Hp) (us : List V), H D = none → Fr [] H H' → H' D = some (.lst us) → Paired (TAt H') (subs t) us → Q (.ref D) H'
theorem ok_tin (T : Txt K w mg) {n : Nat} (G : FnOk P w K mg base CX0 (n + 2) T.tuples_in.f T.tuples_in.fd ["thing"] (spTin n)) : FnOk P w K mg base CX0 (n + 3) T.tuples_in.f T.tuples_in.fd ["thing"] (spTin (n + 1)) := by
  refine T.tuples_in.F.ok sc_tuples_in (fun vs H Q E h => ?_) (fun cdv A outer s H vs Q E hr h => ?_)
  · obtain ⟨t, v, rfl, _⟩ := h
    rfl
  obtain ⟨t, v, rfl, ha, hd, hz, q⟩ := h
  refine ⟨_, (pss_cons (ps_set (i := 1) sc_tuples_in.nd rfl (by first | exact Or.inl rfl | exact Or.inr rfl) (pe_lst (pa_cons (pv 0) pa_nil)))
    (pss_cons (ps_for PassesOwn.never rfl (piL (K := K) rfl (pe_call (ok_parts_of T) (hr.mono (by omega)) rfl T.parts_of.m T.parts_of.F.kp T.parts_of.b .nil pass0 (pa_cons (pv 0) pa_nil))) (pg_name (i := 2) sc_tuples_in.nd rfl (by first | exact Or.inl rfl | exact Or.inr rfl)) (pss_one (ps_expr (pe_bm PySem.F.plainAttrs_list PySem.F.slot_list_extend PySem.F.type_list_extend mt_extend (pv 1) (pa_cons (pe_call G (hr.mono (by omega)) rfl T.tuples_in.m T.tuples_in.F.kp T.tuples_in.b .nil pass0 (pa_cons (pv 2) pa_nil)) pa_nil)))))
    (pss_one (ps_ret (pv 1))))), ?_⟩
  refine ⟨_, rfl, by simp [sizeLine], fun D hD => ?_⟩
  have f1 : Fr [] H (upd H D (.lst [v])) := Fr.new hD
  refine ⟨_, rfl, t, v, rfl, ha.keep f1.tup, fun B H1 us hB f2 hl hp => ⟨B, rfl, ⟨_, SqL.of hl⟩, ?_⟩⟩
  have hDB : D ≠ B := fun e => by rw [← e, upd_same] at hB; cases hB
  have hD1 : H1 D = some (.lst [v]) := f2.at_ _ _ upd_same (by simp)
  refine for_list (xs := us) (fun i σ H2 => ∃ acc o, σ = [some v, some (.ref D), o] ∧ Fr [D] H1 H2 ∧ H2 D = some (.lst (v :: acc)) ∧ Paired (TAt H2) (((kids t).take i).flatMap subs) acc)
    ⟨[], none, rfl, Fr.refl _ _, hD1, .nil⟩ (fun i σ H2 _ ⟨acc, o, _, f3, _, _⟩ => SqL.of (f3.at_ _ _ hl (by simp [hDB.symm]))) ?_ ?_
  · rintro i u σ H2 hi ⟨acc, o, rfl, f3, h3, hacc⟩
    obtain ⟨k, hk, hku⟩ := pair_right hp hi
    have hkm : k ∈ kids t := List.mem_of_getElem? hk
    obtain ⟨kd, kz⟩ := kid_dep t k hkm
    refine ⟨_, rfl, .inl ⟨rfl, _, SqL.of h3⟩, _, rfl, k, u, rfl, hku.keep (f2.tup.trans f3.tup), by omega, by omega, fun D2 H4 us2 hD2 f4 hl2 hp2 => ?_⟩
    have h4 : H4 D = some (.lst (v :: acc)) := f4.at_ _ _ h3 (by simp)
    have hlen : acc.length = (((kids t).take i).flatMap subs).length := hacc.length.symm
    have hl3 : us2.length = (subs k).length := hp2.length.symm
    have key : (((kids t).take (i + 1)).flatMap subs) = (((kids t).take i).flatMap subs) ++ subs k := by
      rw [List.take_add_one, hk, List.flatMap_append]
      simp
    have bound : (((kids t).take (i + 1)).flatMap subs).length ≤ siz t := by
      rw [← subs_len t, subs_kids t, List.length_cons]
      have : ((kids t).flatMap subs) = (((kids t).take (i + 1)).flatMap subs) ++ (((kids t).drop (i + 1)).flatMap subs) := by
        rw [← List.flatMap_append, List.take_append_drop]
      rw [this, List.length_append]
      omega
    have hsum : acc.length + us2.length ≤ siz t := by
      rw [key, List.length_append] at bound
      omega
    refine ⟨D, D2, _, _, rfl, rfl, h4, hl2, line_of (by rw [List.length_cons]; omega), ?_⟩
    have f5 : Fr [D] H4 (upd H4 D (.lst (v :: acc ++ us2))) := Fr.set h4 trivial (by simp)
    refine ⟨acc ++ us2, _, rfl, (f3.trans f4.lift).trans f5, upd_same, ?_⟩
    rw [key]
    exact pair_app (Paired.mapP hacc fun _ _ z => z.keep (f4.tup.trans f5.tup)) (Paired.mapP hp2 fun _ _ z => z.keep f5.tup)
  · rintro σ H2 ⟨acc, o, rfl, f3, h3, hacc⟩
    have e : us.length = (kids t).length := hp.length.symm
    rw [e, List.take_length] at hacc
    refine ⟨_, rfl, q D H2 (v :: acc) hD ((f1.trans f2).own f3 hD) h3 ?_⟩
    rw [subs_kids]
    exact .cons (ha.keep (f1.tup.trans (f2.tup.trans f3.tup))) hacc
theorem tin_none {k : Nat} {f : Addr} {fd : FuncData} : FnOk P w K mg base CX0 k f fd ["thing"] (spTin 0) := by
  have no : ∀ vs H Q E, ¬ spTin 0 vs H Q E := fun vs H Q E h => by
    obtain ⟨t, v, _, _, hd, _⟩ := h
    have := dep_pos t
    omega
  exact ⟨fun vs H Q E h => absurd h (no vs H Q E), fun A outer s H args us vs Q E _ _ _ _ h => absurd h (no vs H Q E)⟩
theorem ok_tins (T : Txt K w mg) : ∀ n : Nat, FnOk P w K mg base CX0 (n + 2) T.tuples_in.f T.tuples_in.fd ["thing"] (spTin n)
  | 0 => tin_none
  | n + 1 => ok_tin T (ok_tins T n)
theorem ok_tuples_in (T : Txt K w mg) : FnOk P w K mg base CX0 10 T.tuples_in.f T.tuples_in.fd ["thing"] (spTin 8) := ok_tins T 8

/-- a term (or place) as it may be -/
def okT (n : Int) (b : Bool) (t : T) : Prop := wf n b t ∧ dep t ≤ 6 ∧ siz t ≤ 12
def spIsT (b : Bool) : Sp := fun vs H Q _ => ∃ (t : T) (v : V) (m : Int), vs = [v] ∧ TAt H t v ∧ okT m b t ∧ m ≤ 12 ∧ Ret H Q (.bl true)
theorem ok_is_term (T : Txt K w mg) : FnOk P w K mg base CX0 14 T.is_term.f T.is_term.fd ["thing"] (spIsT true) := by
  refine T.is_term.F.ok sc_is_term (fun vs H Q E h => ?_) (fun cdv A outer s H vs Q E hr h => ?_)
  · obtain ⟨t, v, m, rfl, _⟩ := h
    rfl
  obtain ⟨t, v, m, rfl, ha, ⟨hw, hd, hz⟩, hm, q⟩ := h
  refine ⟨_, (pss_one (ps_ret (pe_and (pe_call (ok_is_made_term T) (hr.mono (by omega)) rfl T.is_made_term.m T.is_made_term.F.kp T.is_made_term.b .nil pass0 (pa_cons (pv 0) (pa_cons pe_int pa_nil))) (pe_one (pe_cmpR op_le (pe_callB (lenK (K := K) rfl) (by rfl) T.z_len bt_len (pa_cons (pe_call (ok_tuples_in T) (hr.mono (by omega)) rfl T.tuples_in.m T.tuples_in.F.kp T.tuples_in.b .nil pass0 (pa_cons (pv 0) pa_nil)) pa_nil)) (pe_gint rfl T.c_MOST_TUPLES) (nomark _)))))), ?_⟩
  refine ⟨_, rfl, t, v, 1, m, rfl, ha, hw, hm, by omega, by omega, fun H1 f1 => ⟨_, rfl, iteT ?_⟩⟩
  refine ⟨_, rfl, t, v, rfl, ha.keep f1.tup, by omega, by omega, fun D H2 us hD f2 hl hp => ?_⟩
  refine ⟨D, _, rfl, .inl (SqL.of hl), _, _, rfl, rfl, qD (Q := Q) ?_ (q _ (f1.trans f2))⟩
  have := hp.length
  rw [subs_len] at this
  omega
theorem ok_is_place (T : Txt K w mg) : FnOk P w K mg base CX0 14 T.is_place.f T.is_place.fd ["thing"] (spIsT false) := by
  refine T.is_place.F.ok sc_is_place (fun vs H Q E h => ?_) (fun cdv A outer s H vs Q E hr h => ?_)
  · obtain ⟨t, v, m, rfl, _⟩ := h
    rfl
  obtain ⟨t, v, m, rfl, ha, ⟨hw, hd, hz⟩, hm, q⟩ := h
  refine ⟨_, (pss_one (ps_ret (pe_and (pe_call (ok_is_made_place T) (hr.mono (by omega)) rfl T.is_made_place.m T.is_made_place.F.kp T.is_made_place.b .nil pass0 (pa_cons (pv 0) (pa_cons pe_int pa_nil))) (pe_one (pe_cmpR op_le (pe_callB (lenK (K := K) rfl) (by rfl) T.z_len bt_len (pa_cons (pe_call (ok_tuples_in T) (hr.mono (by omega)) rfl T.tuples_in.m T.tuples_in.F.kp T.tuples_in.b .nil pass0 (pa_cons (pv 0) pa_nil)) pa_nil)) (pe_gint rfl T.c_MOST_TUPLES) (nomark _)))))), ?_⟩
  refine ⟨_, rfl, t, v, 1, m, rfl, ha, hw, hm, by omega, by omega, fun H1 f1 => ⟨_, rfl, iteT ?_⟩⟩
  refine ⟨_, rfl, t, v, rfl, ha.keep f1.tup, by omega, by omega, fun D H2 us hD f2 hl hp => ?_⟩
  refine ⟨D, _, rfl, .inl (SqL.of hl), _, _, rfl, rfl, qD (Q := Q) ?_ (q _ (f1.trans f2))⟩
  have := hp.length
  rw [subs_len] at this
  omega

def spKn : Sp := fun vs H Q _ => ∃ (t : T) (v : V) (m : Int) (b : Bool), vs = [v] ∧ TAt H t v ∧ okT m b t ∧
  ∀ (D : Addr) (H' : Hp) (ks : List Int), H D = none → Fr [] H H' → H' D = some (.lst (ks.map V.int)) → ks.length ≤ 12 → (∀ k ∈ ks, k < m) → Q (.ref D) H'
theorem TAt.word {H : Hp} : ∀ {t : T} {v : V}, TAt H t v → ∃ p z xs, v = .ref p ∧ H p = some (.tup (.str z :: xs)) ∧ ((∃ k, keyOf? t = some k ∧ z = "key" ∧ xs = [.int k]) ∨ (keyOf? t = none ∧ z ≠ "key"))
  | .num c, _, ⟨p, e, h⟩ => ⟨p, _, _, e, h, .inr ⟨rfl, by decide +kernel⟩⟩
  | .look _, _, ⟨p, u, e, h, _⟩ => ⟨p, _, _, e, h, .inr ⟨rfl, by decide +kernel⟩⟩
  | .two o _ _, _, ⟨p, u1, u2, e, h, _⟩ => ⟨p, _, _, e, h, .inr ⟨rfl, by cases o <;> decide +kernel⟩⟩
  | .key k, _, ⟨p, e, h⟩ => ⟨p, _, _, e, h, .inl ⟨k, rfl, rfl, rfl⟩⟩
  | .via _, _, ⟨p, u, e, h, _⟩ => ⟨p, _, _, e, h, .inr ⟨rfl, by decide +kernel⟩⟩
theorem named_eq {H : Hp} {ts : List T} {us : List V} (h : Paired (TAt H) ts us) : (us.filter fun v => decide (itm H v 0 = .str "key")).map (fun v => itm H v 1) = (ts.filterMap keyOf?).map V.int := by
  induction h with
  | nil => rfl
  | @cons t u ts us r _ ih =>
    obtain ⟨p, z, xs, rfl, hp, hz⟩ := r.word
    rcases hz with ⟨k, hk, rfl, rfl⟩ | ⟨hk, hz⟩
    · rw [List.filter_cons, if_pos (by rw [itm_of hp]; exact decide_eq_true rfl), List.filterMap_cons, hk, List.map_cons, List.map_cons, ih, itm_of hp]
      rfl
    · rw [List.filter_cons, if_neg (by rw [itm_of hp]; intro e; exact hz (V.str.inj (of_decide_eq_true e))), List.filterMap_cons, hk, ih]
theorem ok_keys_named (T : Txt K w mg) : FnOk P w K mg base CX0 11 T.keys_named.f T.keys_named.fd ["thing"] spKn := by
  refine T.keys_named.F.ok sc_keys_named (fun vs H Q E h => ?_) (fun cdv A outer s H vs Q E hr h => ?_)
  · obtain ⟨t, v, m, b, rfl, _⟩ := h
    rfl
  obtain ⟨t, v, m, b, rfl, ha, ⟨hw, hd, hz⟩, q⟩ := h
  refine ⟨_, (pss_one (ps_ret (pe_lc rfl sc_keys_named.nd (piL (K := K) rfl (pe_call (ok_tuples_in T) (hr.mono (by omega)) rfl T.tuples_in.m T.tuples_in.F.kp T.tuples_in.b .nil pass0 (pa_cons (pv 0) pa_nil))) (blkOk_by (own := [("one", 1)]) (N := ["thing", "one"]) (sc := defScope s_keys_named) (by decide +kernel)) (fun _ _ _ _ _ => (pg_name (i := 1) sc_keys_named.nd rfl (by first | exact Or.inl rfl | exact Or.inr rfl))) (fun _ _ _ _ _ => (pts_one (pt_cmpR op_eq (pe_ix (ixT (K := K) rfl) (pv 1) pe_int (fun _ _ => rfl)) pe_str (nomark _)))) (fun _ _ _ _ _ => (pe_ix (ixT (K := K) rfl) (pv 1) pe_int (fun _ _ => rfl)))))), ?_⟩
  refine ⟨_, rfl, t, v, rfl, ha, by omega, by omega, fun B H1 us hB f1 hl hp => ⟨B, rfl, ⟨_, SqL.of hl⟩, fun D hD => ?_⟩⟩
  have hlen := hp.length
  rw [subs_len] at hlen
  refine lc_at walk_list hD (fun v => decide (itm H1 v 0 = .str "key")) (fun v => itm H1 v 1) (by omega) (fun H' f => SqL.of (f.at_ _ _ hl (by simp))) (fun _ => rfl) (fun x hx H2 f2 R r => ?_) (fun x hx hf H2 f2 R r => ?_) (fun H' f h => ?_)
  · obtain ⟨i, hi⟩ := List.mem_iff_getElem?.mp hx
    obtain ⟨t', ht', hx'⟩ := pair_right hp hi
    obtain ⟨p, z, xs, rfl, hpp, _⟩ := hx'.word
    refine ⟨_, rfl, p, _, _, _, rfl, rfl, SqT.of (f2.tup _ _ hpp), at0, rfl, _, rfl, ?_⟩
    have r' := r H2 (Fr.refl _ _)
    rw [itm_of hpp] at r'
    exact r'
  · obtain ⟨i, hi⟩ := List.mem_iff_getElem?.mp hx
    obtain ⟨t', ht', hx'⟩ := pair_right hp hi
    obtain ⟨p, z, xs, rfl, hpp, hzz⟩ := hx'.word
    rcases hzz with ⟨k, hk, rfl, rfl⟩ | ⟨hk, hz⟩
    · refine ⟨_, rfl, p, _, _, _, rfl, rfl, SqT.of (f2.tup _ _ hpp), at1, ?_⟩
      have r' := r H2 (Fr.refl _ _)
      rw [itm_of hpp] at r'
      exact r'
    · have hf := of_decide_eq_true hf
      rw [itm_of hpp] at hf
      exact absurd (V.str.inj hf) hz
  · rw [named_eq hp] at h
    refine q D H' _ (f1.fresh hD) (f1.trans f) h ?_ (fun k hk => ?_)
    · have := List.length_filterMap_le keyOf? (subs t)
      rw [subs_len] at this
      omega
    · obtain ⟨s, hs, e⟩ := List.mem_filterMap.mp hk
      exact keys_wf b t hw s hs k e

/-! ### what a term comes to -/
def spTwo : Sp := fun vs H Q _ => ∃ (o : Op) (a b : Int), vs = [.str o.word, .int a, .int b] ∧ Q (.int (opv o a b)) H
theorem ok_two_reckoned (T : Txt K w mg) : FnOk P w K mg base CX0 1 T.two_reckoned.f T.two_reckoned.fd ["word", "one", "other"] spTwo := by
  refine T.two_reckoned.F.ok sc_two_reckoned (fun vs H Q E h => ?_) (fun cdv A outer s H vs Q E hr h => ?_)
  · obtain ⟨o, a, b, rfl, _⟩ := h
    rfl
  obtain ⟨o, a, b, rfl, q⟩ := h
  refine ⟨_, (pss_cons (ps_if (pt_cmpR op_eq (pv 0) pe_str (nomark _)) (pss_one (ps_ret (pe_op op_mod (pe_op op_add (pv 1) (pv 2)) (pe_gint rfl T.c_WHEEL)))) pss_nil)
    (pss_cons (ps_if (pt_cmpR op_eq (pv 0) pe_str (nomark _)) (pss_one (ps_ret (pe_op op_mod (pe_op op_sub (pv 1) (pv 2)) (pe_gint rfl T.c_WHEEL)))) pss_nil)
    (pss_cons (ps_if (pt_cmpR op_eq (pv 0) pe_str (nomark _)) (pss_one (ps_ret (pe_callTy call_int1 (by rfl) T.z_int bt_int (pa_cons (pe_cmpR op_lt (pv 1) (pv 2) (nomark _)) pa_nil)))) pss_nil)
    (pss_one (ps_ret (pe_callTy call_int1 (by rfl) T.z_int bt_int (pa_cons (pe_cmpR op_eq (pv 1) (pv 2) (nomark _)) pa_nil))))))), ?_⟩
  cases o with
  | sum => exact ⟨_, rfl, rfl, _, rfl, ifD rfl ⟨_, rfl, _, rfl, _, _, rfl, rfl, _, _, rfl, rfl, (by show (0 : Int) < 1000000; decide), q⟩⟩
  | less => exact ⟨_, rfl, rfl, _, rfl, ifN (by decide +kernel) ⟨_, rfl, rfl, _, rfl, ifD rfl ⟨_, rfl, _, rfl, _, _, rfl, rfl, _, _, rfl, rfl, (by show (0 : Int) < 1000000; decide), q⟩⟩⟩
  | under =>
    refine ⟨_, rfl, rfl, _, rfl, ifN (by decide +kernel) ⟨_, rfl, rfl, _, rfl, ifN (by decide +kernel) ⟨_, rfl, rfl, _, rfl, ifD rfl ⟨_, rfl, _, rfl, _, _, rfl, rfl, .inr ⟨_, rfl, ?_⟩⟩⟩⟩⟩
    show Q (.int (if decide (a < b) = true then 1 else 0)) H
    rw [show (if decide (a < b) = true then (1 : Int) else 0) = opv .under a b from by simp [opv]]
    exact q
  | same =>
    refine ⟨_, rfl, rfl, _, rfl, ifN (by decide +kernel) ⟨_, rfl, rfl, _, rfl, ifN (by decide +kernel) ⟨_, rfl, rfl, _, rfl, ifN (by decide +kernel) ⟨_, rfl, _, rfl, rfl, .inr ⟨_, rfl, ?_⟩⟩⟩⟩⟩
    show Q (.int (if decide (V.int a = V.int b) = true then 1 else 0)) H
    rw [show (if decide (V.int a = V.int b) = true then (1 : Int) else 0) = opv .same a b from by simp [opv]]
    exact q

def spEv (b : Bool) (n : Nat) : Sp := fun vs H Q _ => ∃ (t : T) (v : V) (pb pl : Addr) (bd ls : List Int) (m : Int), vs = [v, .ref pb, .ref pl] ∧ TAt H t v ∧ wf m b t ∧ dep t ≤ n ∧ H pb = some (.lst (bd.map V.int)) ∧ H pl = some (.lst (ls.map V.int)) ∧ pb ≠ pl ∧
  (bd.length : Int) = m ∧ 0 < m ∧ ls.length + siz t ≤ 50000 ∧ ∀ H', Fr [pl] H H' → H' pl = some (.lst ((ls ++ lk bd t).map V.int)) → Q (.int (ev bd t)) H'
theorem ev_none {b : Bool} {k : Nat} {f : Addr} {fd : FuncData} {ps : List Str} : ps.length = 3 → FnOk P w K mg base CX0 k f fd ps (spEv b 0) := by
  have no : ∀ vs H Q E, ¬ spEv b 0 vs H Q E := fun vs H Q E h => by
    obtain ⟨t, v, pb, pl, bd, ls, m, _, _, _, hd, _⟩ := h
    have := dep_pos t
    omega
  exact fun _ => ⟨fun vs H Q E h => absurd h (no vs H Q E), fun A outer s H args us vs Q E _ _ _ _ h => absurd h (no vs H Q E)⟩
theorem ok_reck (T : Txt K w mg) {n : Nat} (G : FnOk P w K mg base CX0 (n + 2) T.reckoned.f T.reckoned.fd ["term", "board", "looks"] (spEv true n)) (G2 : FnOk P w K mg base CX0 (n + 2) T.place_key.f T.place_key.fd ["place", "board", "looks"] (spEv false n)) :
    FnOk P w K mg base CX0 (n + 3) T.reckoned.f T.reckoned.fd ["term", "board", "looks"] (spEv true (n + 1)) := by
  refine T.reckoned.F.ok sc_reckoned (fun vs H Q E h => ?_) (fun cdv A outer s H vs Q E hr h => ?_)
  · obtain ⟨t, v, pb, pl, bd, ls, m, rfl, _⟩ := h
    rfl
  obtain ⟨t, v, pb, pl, bd, ls, m, rfl, ha, hw, hd, hb, hl, hne, hm, h0, hz, q⟩ := h
  refine ⟨_, (pss_cons (ps_if (pt_cmpR op_eq (pe_ix (ixT (K := K) rfl) (pv 0) pe_int (fun _ _ => rfl)) pe_str (nomark _)) (pss_one (ps_ret (pe_ix (ixT (K := K) rfl) (pv 0) pe_int (fun _ _ => rfl)))) pss_nil)
    (pss_cons (ps_if (pt_cmpR op_eq (pe_ix (ixT (K := K) rfl) (pv 0) pe_int (fun _ _ => rfl)) pe_str (nomark _)) (pss_cons (ps_set (i := 3) sc_reckoned.nd rfl (by first | exact Or.inl rfl | exact Or.inr rfl) (pe_call G2 (hr.mono (by omega)) rfl T.place_key.m T.place_key.F.kp T.place_key.b .nil pass0 (pa_cons (pe_ix (ixT (K := K) rfl) (pv 0) pe_int (fun _ _ => rfl)) (pa_cons (pv 1) (pa_cons (pv 2) pa_nil)))))
    (pss_cons (ps_expr (pe_bm PySem.F.plainAttrs_list PySem.F.slot_list_append PySem.F.type_list_append mt_append (pv 2) (pa_cons (pv 3) pa_nil)))
    (pss_one (ps_ret (pe_ix (ixL (K := K) rfl) (pv 1) (pv 3) (fun _ _ => rfl)))))) pss_nil)
    (pss_cons (ps_set (i := 4) sc_reckoned.nd rfl (by first | exact Or.inl rfl | exact Or.inr rfl) (pe_call G (hr.mono (by omega)) rfl T.reckoned.m T.reckoned.F.kp T.reckoned.b .nil pass0 (pa_cons (pe_ix (ixT (K := K) rfl) (pv 0) pe_int (fun _ _ => rfl)) (pa_cons (pv 1) (pa_cons (pv 2) pa_nil)))))
    (pss_one (ps_ret (pe_call (ok_two_reckoned T) (hr.mono (by omega)) rfl T.two_reckoned.m T.two_reckoned.F.kp T.two_reckoned.b .nil pass0 (pa_cons (pe_ix (ixT (K := K) rfl) (pv 0) pe_int (fun _ _ => rfl)) (pa_cons (pv 4) (pa_cons (pe_call G (hr.mono (by omega)) rfl T.reckoned.m T.reckoned.F.kp T.reckoned.b .nil pass0 (pa_cons (pe_ix (ixT (K := K) rfl) (pv 0) pe_int (fun _ _ => rfl)) (pa_cons (pv 1) (pa_cons (pv 2) pa_nil)))) pa_nil))))))))), ?_⟩
  cases t with
  | num c =>
    obtain ⟨p, rfl, hp⟩ := ha
    refine ⟨_, rfl, p, _, _, _, rfl, rfl, SqT.of hp, at0, rfl, _, rfl, ifD rfl ⟨_, rfl, p, _, _, _, rfl, rfl, SqT.of hp, at1, q H (Fr.refl _ _) ?_⟩⟩
    rw [show lk bd (.num c) = [] from rfl, List.append_nil]
    exact hl
  | key c => exact hw.elim
  | via t => exact hw.elim
  | look t =>
    obtain ⟨p, u, rfl, hp, hu⟩ := ha
    have hd : dep t + 1 ≤ n + 1 := hd
    have hz : ls.length + (siz t + 1) ≤ 50000 := hz
    refine ⟨_, rfl, p, _, _, _, rfl, rfl, SqT.of hp, at0, rfl, _, rfl, ifN (by decide +kernel) ?_⟩
    refine ⟨_, rfl, p, _, _, _, rfl, rfl, SqT.of hp, at0, rfl, _, rfl, ifD rfl ?_⟩
    refine ⟨_, rfl, p, _, _, _, rfl, rfl, SqT.of hp, at1, _, rfl, _, rfl, t, u, pb, pl, bd, ls, m, rfl, hu, hw, by omega, hb, hl, hne, hm, h0, by omega, fun H1 f1 h1 => ?_⟩
    have hk := lk_len bd t
    refine ⟨_, rfl, .inl ⟨rfl, _, SqL.of h1⟩, _, rfl, pl, _, _, rfl, rfl, h1, line_lt (by rw [List.length_map, List.length_append]; omega), ?_⟩
    have f2 : Fr [pl] H1 (upd H1 pl (.lst ((ls ++ lk bd t).map V.int ++ [.int (ev bd t)]))) := Fr.set h1 trivial (by simp)
    have hb2 : (upd H1 pl (.lst ((ls ++ lk bd t).map V.int ++ [.int (ev bd t)]))) pb = some (.lst (bd.map V.int)) := f2.at_ _ _ (f1.at_ _ _ hb (by simp [hne])) (by simp [hne])
    obtain ⟨k0, k1⟩ := ev_key hm h0 t hw
    refine ⟨_, rfl, _, rfl, pb, _, _, _, rfl, rfl, SqL.of hb2, atI_int k0 (by omega), q _ (f1.trans f2) ?_⟩
    rw [upd_same, show lk bd (.look t) = lk bd t ++ [ev bd t] from rfl, ← List.append_assoc, List.map_append (l₁ := ls ++ lk bd t)]
    rfl
  | two o x y =>
    obtain ⟨p, u1, u2, rfl, hp, h1, h2⟩ := ha
    have hd : max (dep x) (dep y) + 1 ≤ n + 1 := hd
    have hz : ls.length + (siz x + siz y + 1) ≤ 50000 := hz
    have hk := lk_len bd x
    refine ⟨_, rfl, p, _, _, _, rfl, rfl, SqT.of hp, at0, rfl, _, rfl, ifN (by cases o <;> decide +kernel) ?_⟩
    refine ⟨_, rfl, p, _, _, _, rfl, rfl, SqT.of hp, at0, rfl, _, rfl, ifN (by cases o <;> decide +kernel) ?_⟩
    refine ⟨_, rfl, p, _, _, _, rfl, rfl, SqT.of hp, at1, _, rfl, _, rfl, x, u1, pb, pl, bd, ls, m, rfl, h1, hw.1, by omega, hb, hl, hne, hm, h0, by omega, fun H1 f1 g1 => ?_⟩
    refine ⟨_, rfl, p, _, _, _, rfl, rfl, SqT.of (f1.tup _ _ hp), at0, _, rfl, _, rfl, p, _, _, _, rfl, rfl, SqT.of (f1.tup _ _ hp), at2, _, rfl, _, rfl, y, u2, pb, pl, bd, ls ++ lk bd x, m, rfl, h2.keep f1.tup, hw.2, by omega, f1.at_ _ _ hb (by simp [hne]), g1, hne, hm, h0, by rw [List.length_append]; omega, fun H2 f2 g2 => ?_⟩
    refine ⟨o, _, _, rfl, q H2 (f1.trans f2) ?_⟩
    rw [g2, List.append_assoc]
    rfl
theorem ok_place (T : Txt K w mg) {n : Nat} (G : FnOk P w K mg base CX0 (n + 2) T.reckoned.f T.reckoned.fd ["term", "board", "looks"] (spEv true n)) :
    FnOk P w K mg base CX0 (n + 3) T.place_key.f T.place_key.fd ["place", "board", "looks"] (spEv false (n + 1)) := by
  refine T.place_key.F.ok sc_place_key (fun vs H Q E h => ?_) (fun cdv A outer s H vs Q E hr h => ?_)
  · obtain ⟨t, v, pb, pl, bd, ls, m, rfl, _⟩ := h
    rfl
  obtain ⟨t, v, pb, pl, bd, ls, m, rfl, ha, hw, hd, hb, hl, hne, hm, h0, hz, q⟩ := h
  refine ⟨_, (pss_cons (ps_if (pt_cmpR op_eq (pe_ix (ixT (K := K) rfl) (pv 0) pe_int (fun _ _ => rfl)) pe_str (nomark _)) (pss_one (ps_ret (pe_ix (ixT (K := K) rfl) (pv 0) pe_int (fun _ _ => rfl)))) pss_nil)
    (pss_one (ps_ret (pe_op op_mod (pe_call G (hr.mono (by omega)) rfl T.reckoned.m T.reckoned.F.kp T.reckoned.b .nil pass0 (pa_cons (pe_ix (ixT (K := K) rfl) (pv 0) pe_int (fun _ _ => rfl)) (pa_cons (pv 1) (pa_cons (pv 2) pa_nil)))) (pe_callB (lenK (K := K) rfl) (by rfl) T.z_len bt_len (pa_cons (pv 1) pa_nil)))))), ?_⟩
  cases t with
  | num c => exact hw.elim
  | look c => exact hw.elim
  | two o a b => exact hw.elim
  | key c =>
    obtain ⟨p, rfl, hp⟩ := ha
    refine ⟨_, rfl, p, _, _, _, rfl, rfl, SqT.of hp, at0, rfl, _, rfl, ifD rfl ⟨_, rfl, p, _, _, _, rfl, rfl, SqT.of hp, at1, q H (Fr.refl _ _) ?_⟩⟩
    rw [show lk bd (.key c) = [] from rfl, List.append_nil]
    exact hl
  | via t =>
    obtain ⟨p, u, rfl, hp, hu⟩ := ha
    have hd : dep t + 1 ≤ n + 1 := hd
    have hz : ls.length + (siz t + 1) ≤ 50000 := hz
    refine ⟨_, rfl, p, _, _, _, rfl, rfl, SqT.of hp, at0, rfl, _, rfl, ifN (by decide +kernel) ?_⟩
    refine ⟨_, rfl, p, _, _, _, rfl, rfl, SqT.of hp, at1, _, rfl, _, rfl, t, u, pb, pl, bd, ls, m, rfl, hu, hw, by omega, hb, hl, hne, hm, h0, by omega, fun H1 f1 h1 => ?_⟩
    refine ⟨_, rfl, pb, _, rfl, .inl (SqL.of (f1.at_ _ _ hb (by simp [hne]))), _, _, rfl, rfl, by rw [List.length_map]; omega, ?_⟩
    show Q (.int (ev bd t % ((bd.map V.int).length : Int))) H1
    rw [List.length_map]
    exact q H1 f1 h1
theorem ok_evs (T : Txt K w mg) : ∀ n : Nat, FnOk P w K mg base CX0 (n + 2) T.reckoned.f T.reckoned.fd ["term", "board", "looks"] (spEv true n) ∧ FnOk P w K mg base CX0 (n + 2) T.place_key.f T.place_key.fd ["place", "board", "looks"] (spEv false n)
  | 0 => ⟨ev_none rfl, ev_none rfl⟩
  | n + 1 => ⟨ok_reck T (ok_evs T n).1 (ok_evs T n).2, ok_place T (ok_evs T n).1⟩
theorem ok_reckoned (T : Txt K w mg) : FnOk P w K mg base CX0 9 T.reckoned.f T.reckoned.fd ["term", "board", "looks"] (spEv true 7) := (ok_evs T 7).1
theorem ok_place_key (T : Txt K w mg) : FnOk P w K mg base CX0 9 T.place_key.f T.place_key.fd ["place", "board", "looks"] (spEv false 7) := (ok_evs T 7).2
end
end RL

/-! deals.py: what makes a deal. -/
namespace RL
open PySem L2 RlR

def sortW : Bool → Str
  | true => "t"
  | false => "p"
/-- a step as it may be -/
def okS (m : Int) : S → Prop
  | .put p t => okT m false p ∧ okT m true t
  | .iff c p t => okT m true c ∧ okT m false p ∧ okT m true t
  | .need t => okT m true t
  | .tell t => okT m true t
theorem okS.wf {m : Int} : ∀ {s : S}, okS m s → s.wf m
  | .put _ _, h => ⟨h.1.1, h.2.1⟩
  | .iff _ _ _, h => ⟨h.1.1, h.2.1.1, h.2.2.1⟩
  | .need _, h => h.1
  | .tell _, h => h.1
def S.word : S → Str
  | .put _ _ => "put"
  | .iff _ _ _ => "if"
  | .need _ => "need"
  | .tell _ => "tell"
def S.shape : S → Str
  | .put _ _ => "pt"
  | .iff _ _ _ => "tpt"
  | .need _ => "t"
  | .tell _ => "t"
def S.sorts : S → List Bool
  | .put _ _ => [false, true]
  | .iff _ _ _ => [true, false, true]
  | .need _ => [true]
  | .tell _ => [true]
theorem S.signs_eq : ∀ s : S, signs s.shape = s.sorts.map fun b => V.str (sortW b)
  | .put _ _ => rfl
  | .iff _ _ _ => rfl
  | .need _ => rfl
  | .tell _ => rfl
theorem S.shape_len : ∀ s : S, s.shape.length = s.parts.length
  | .put _ _ => rfl
  | .iff _ _ _ => rfl
  | .need _ => rfl
  | .tell _ => rfl
theorem S.sorts_len : ∀ s : S, s.sorts.length = s.parts.length
  | .put _ _ => rfl
  | .iff _ _ _ => rfl
  | .need _ => rfl
  | .tell _ => rfl
theorem S.few : ∀ s : S, s.parts.length ≤ 3
  | .put _ _ => by simp [S.parts]
  | .iff _ _ _ => by simp [S.parts]
  | .need _ => by simp [S.parts]
  | .tell _ => by simp [S.parts]
theorem okS.part {m : Int} : ∀ {s : S}, okS m s → ∀ {i : Nat} {t : T} {b : Bool}, s.parts[i]? = some t → s.sorts[i]? = some b → okT m b t
  | .put p t, h, 0, _, _, e, e' => by cases e; cases e'; exact h.1
  | .put p t, h, 1, _, _, e, e' => by cases e; cases e'; exact h.2
  | .put p t, h, n + 2, _, _, e, e' => by simp [S.parts] at e
  | .iff c p t, h, 0, _, _, e, e' => by cases e; cases e'; exact h.1
  | .iff c p t, h, 1, _, _, e, e' => by cases e; cases e'; exact h.2.1
  | .iff c p t, h, 2, _, _, e, e' => by cases e; cases e'; exact h.2.2
  | .iff c p t, h, n + 3, _, _, e, e' => by simp [S.parts] at e
  | .need t, h, 0, _, _, e, e' => by cases e; cases e'; exact h
  | .need t, h, n + 1, _, _, e, e' => by simp [S.parts] at e
  | .tell t, h, 0, _, _, e, e' => by cases e; cases e'; exact h
  | .tell t, h, n + 1, _, _, e, e' => by simp [S.parts] at e
/-- the tuple of a step: its word, its parts -/
theorem SAt.open {H : Hp} : ∀ {s : S} {v : V}, SAt H s v → ∃ a us, v = .ref a ∧ H a = some (.tup (.str s.word :: us)) ∧ Paired (TAt H) s.parts us
  | .put _ _, _, ⟨a, u1, u2, e, h, r1, r2⟩ => ⟨a, _, e, h, .cons r1 (.cons r2 .nil)⟩
  | .iff _ _ _, _, ⟨a, u1, u2, u3, e, h, r1, r2, r3⟩ => ⟨a, _, e, h, .cons r1 (.cons r2 (.cons r3 .nil))⟩
  | .need _, _, ⟨a, u, e, h, r⟩ => ⟨a, _, e, h, .cons r .nil⟩
  | .tell _, _, ⟨a, u, e, h, r⟩ => ⟨a, _, e, h, .cons r .nil⟩
abbrev words : List Str := ["put", "if", "need", "tell"]
theorem S.word_in : ∀ s : S, ∃ j, j < 4 ∧ words[j]? = some s.word
  | .put _ _ => ⟨0, by omega, rfl⟩
  | .iff _ _ _ => ⟨1, by omega, rfl⟩
  | .need _ => ⟨2, by omega, rfl⟩
  | .tell _ => ⟨3, by omega, rfl⟩

section
variable {P : Program} {w : World} {K : PySem.W.Frag} {mg : Str → Option Value} {base : Heap}

def spPiece : Sp := fun vs H Q _ => ∃ (b : Bool) (t : T) (v : V) (m : Int), vs = [.int m, .str (sortW b), v] ∧ TAt H t v ∧ okT m b t ∧ m ≤ 12 ∧ Ret H Q (.bl true)
theorem ok_is_piece (T : Txt K w mg) : FnOk P w K mg base CX0 15 T.is_piece.f T.is_piece.fd ["keys", "sort", "thing"] spPiece := by
  refine T.is_piece.F.ok sc_is_piece (fun vs H Q E h => ?_) (fun cdv A outer s H vs Q E hr h => ?_)
  · obtain ⟨b, t, v, m, rfl, _⟩ := h
    rfl
  obtain ⟨b, t, v, m, rfl, ha, ho, hm, q⟩ := h
  refine ⟨_, (pss_cons (ps_if (PW.pt (pw_or (PW.pt (pw_and (pt_cmpR op_eq (pv 1) pe_str (nomark _)) (pw_and1 (pt_not (pt_val (pe_call (ok_is_term T) (hr.mono (by omega)) rfl T.is_term.m T.is_term.F.kp T.is_term.b .nil pass0 (pa_cons (pv 2) pa_nil))))))) (pw_or1 (PW.pt (pw_and (pt_cmpR op_eq (pv 1) pe_str (nomark _)) (pw_and1 (pt_not (pt_val (pe_call (ok_is_place T) (hr.mono (by omega)) rfl T.is_place.m T.is_place.F.kp T.is_place.b .nil pass0 (pa_cons (pv 2) pa_nil)))))))))) (pss_one (ps_ret pe_bl)) pss_nil)
    (pss_one (ps_ret (pe_callB (allK (K := K) rfl rfl) (by rfl) T.z_all bt_all (pa_cons (pe_lc rfl sc_is_piece.nd (piL (K := K) rfl (pe_call (ok_keys_named T) (hr.mono (by omega)) rfl T.keys_named.m T.keys_named.F.kp T.keys_named.b .nil pass0 (pa_cons (pv 2) pa_nil))) (blkOk_by (own := [("key", 3)]) (N := ["keys", "sort", "thing", "key"]) (sc := defScope s_is_piece) (by decide +kernel)) (fun _ _ _ _ _ => (pg_name (i := 3) sc_is_piece.nd rfl (by first | exact Or.inl rfl | exact Or.inr rfl))) (fun _ _ _ _ _ => pts_nil) (fun _ _ _ _ _ => (pe_cmpR op_lt (pv 3) (pv 0) (nomark _)))) pa_nil))))), ?_⟩
  have fin : ∀ (H1 : Hp), Fr [] H H1 → (tCB (rAll K) (tCons (tLc (iList K (tCall spKn [] E0 (tCons (tVar 2) tNil))) (gName 3) tYes (tOp (rI0 fun i j => .bl (decide (i < j))) (tVar 3) (tVar 0)) [3]) tNil)) [some (.int m), some (.str (sortW b)), some v, none] H1 Q := fun H1 f1 => by
    refine ⟨_, rfl, t, v, m, b, rfl, ha.keep f1.tup, ho, fun B H2 ks hB f2 hl hk1 hk2 => ⟨B, rfl, ⟨_, SqL.of hl⟩, fun D hD => lc_map walk_list hD (fun _ => V.bl true) (by rw [List.length_map]; omega) (fun H' f => SqL.of (f.at_ _ _ hl (by simp))) (fun _ => rfl) (fun x hx H3 f3 R r => ?_) (fun H' f hl' => ?_)⟩⟩
    · obtain ⟨i, hi, rfl⟩ := List.mem_map.mp hx
      exact ⟨_, rfl, _, rfl, _, _, rfl, rfl, qD (Q := R) (hk2 i hi) (r H3 (Fr.refl _ _))⟩
    · rw [all_true] at hl'
      refine ⟨D, _, rfl, SqL.of hl', ?_⟩
      rw [rep_all]
      exact q _ ((f1.trans f2).trans f)
  cases b with
  | true =>
    refine ⟨_, rfl, rfl, _, rfl, ifD rfl ⟨_, rfl, t, v, m, rfl, ha, ho, hm, fun H1 f1 => ⟨_, rfl, iteF ?_⟩⟩⟩
    exact ⟨_, rfl, rfl, _, rfl, ifN (by decide +kernel) (iteF (fin H1 f1))⟩
  | false =>
    refine ⟨_, rfl, rfl, _, rfl, ifN (by decide +kernel) (iteF ?_)⟩
    exact ⟨_, rfl, rfl, _, rfl, ifD rfl ⟨_, rfl, t, v, m, rfl, ha, ho, hm, fun H1 f1 => ⟨_, rfl, iteF (fin H1 f1)⟩⟩⟩

def spStep : Sp := fun vs H Q _ => ∃ (s : S) (v : V) (m : Int), vs = [.int m, v] ∧ SAt H s v ∧ okS m s ∧ m ≤ 12 ∧ Ret H Q (.bl true)
theorem shape_of (T : Txt K w mg) (s : S) {i : Nat} {z : Str} (h : words[i]? = some z) : ∃ sh : Str, KDct K w T.c_SHAPES.a z (.str sh) ∧ sh.length ≤ 3 ∧ (z = s.word → sh = s.shape) := by
  match i, h with
  | 0, h => cases h; exact ⟨_, T.i_SHAPES_put, by decide +kernel, fun e => by cases s <;> dsimp only [S.word] at e <;> first | rfl | exact absurd e (by decide +kernel)⟩
  | 1, h => cases h; exact ⟨_, T.i_SHAPES_if, by decide +kernel, fun e => by cases s <;> dsimp only [S.word] at e <;> first | rfl | exact absurd e (by decide +kernel)⟩
  | 2, h => cases h; exact ⟨_, T.i_SHAPES_need, by decide +kernel, fun e => by cases s <;> dsimp only [S.word] at e <;> first | rfl | exact absurd e (by decide +kernel)⟩
  | 3, h => cases h; exact ⟨_, T.i_SHAPES_tell, by decide +kernel, fun e => by cases s <;> dsimp only [S.word] at e <;> first | rfl | exact absurd e (by decide +kernel)⟩
  | n + 4, h => simp at h
theorem cut1 {x : V} {r : List V} : cutV (x :: r) (some 1) none = r := by
  unfold cutV
  show ((x :: r).drop (min 1 (r.length + 1))).take (r.length + 1 - min 1 (r.length + 1)) = r
  rw [Nat.min_eq_left (by omega)]
  show r.take (r.length + 1 - 1) = r
  rw [Nat.add_sub_cancel, List.take_length]
theorem ok_is_step (T : Txt K w mg) : FnOk P w K mg base CX0 16 T.is_step.f T.is_step.fd ["keys", "thing"] spStep := by
  refine T.is_step.F.ok sc_is_step (fun vs H Q E h => ?_) (fun cdv A outer s H vs Q E hr h => ?_)
  · obtain ⟨s, v, m, rfl, _⟩ := h
    rfl
  obtain ⟨t, v, m, rfl, ha, ho, hm, q⟩ := h
  refine ⟨_, (pss_cons (ps_for PassesOwn.never rfl (piK (K := K) (w := w) rfl rfl (pe_glob (v := .ref T.c_SHAPES.a) rfl T.c_SHAPES.m rfl)) (pg_name (i := 2) sc_is_step.nd rfl (by first | exact Or.inl rfl | exact Or.inr rfl)) (pss_one (ps_if (pt_val (pe_call (ok_has_word T) (hr.mono (by omega)) rfl T.has_word.m T.has_word.F.kp T.has_word.b .nil pass0 (pa_cons (pv 1) (pa_cons (pe_op op_add pe_int (pe_callB call_len_str (by rfl) T.z_len bt_len (pa_cons (pe_ix (ixD (K := K) (w := w) rfl rfl) (pe_glob (v := .ref T.c_SHAPES.a) rfl T.c_SHAPES.m rfl) (pv 2) (fun _ _ => rfl)) pa_nil))) (pa_cons (pe_tup (pa_cons (pv 2) pa_nil)) pa_nil))))) (pss_one (ps_ret (pe_callB (allK (K := K) rfl rfl) (by rfl) T.z_all bt_all (pa_cons (pe_lc rfl sc_is_step.nd (piZ (K := K) rfl rfl T.z_zip (pa_cons (pe_ix (ixD (K := K) (w := w) rfl rfl) (pe_glob (v := .ref T.c_SHAPES.a) rfl T.c_SHAPES.m rfl) (pv 2) (fun _ _ => rfl)) (pa_cons (pe_slice (slA (K := K) rfl) (pv 1) (po_some pe_int) po_none) pa_nil))) (blkOk_by (own := [("sort", 3), ("piece", 4)]) (N := ["keys", "thing", "word", "sort", "piece"]) (sc := defScope s_is_step) (by decide +kernel)) (fun _ _ _ _ _ => (pgT (K := K) (n := 2) rfl rfl (pgs_cons (pg_name (i := 3) sc_is_step.nd rfl (by first | exact Or.inl rfl | exact Or.inr rfl)) (pgs_cons (pg_name (i := 4) sc_is_step.nd rfl (by first | exact Or.inl rfl | exact Or.inr rfl)) pgs_nil)) (by rfl) (by rfl))) (fun _ _ _ _ _ => pts_nil) (fun _ _ _ _ _ => (pe_call (ok_is_piece T) (hr.mono (by omega)) rfl T.is_piece.m T.is_piece.F.kp T.is_piece.b .nil pass0 (pa_cons (pv 0) (pa_cons (pv 3) (pa_cons (pv 4) pa_nil)))))) pa_nil)))) pss_nil)))
    (pss_one (ps_ret pe_bl))), ?_⟩
  refine ⟨_, words, rfl, T.c_SHAPES.wk, for_it walk_kd (fun i σ H' => (∀ j, j < i → words[j]? ≠ some t.word) ∧ ∃ o, σ = [some (.int m), some v, o, none, none] ∧ Fr [] H H') ⟨fun j h => absurd h (by omega), none, rfl, Fr.refl _ _⟩ (fun _ _ _ _ _ => trivial) ?_ ?_⟩
  · rintro i x σ H1 H1' hi ⟨hno, o, rfl, f1⟩ ⟨rfl, z, hz, rfl⟩
    obtain ⟨a, us, rfl, hp, hus⟩ := ha.open
    obtain ⟨sh, hd, h3, hsh⟩ := shape_of T t hz
    have hp1 := f1.tup _ _ hp
    refine ⟨_, rfl, _, rfl, _, _, _, rfl, rfl, hd, sh, rfl, line_of (by omega), _, _, rfl, rfl, ?_⟩
    refine ⟨_, rfl, by simp [sizeLine], fun b hb => ?_⟩
    have f2 := f1.trans (Fr.new (o := .tup [.str z]) hb)
    have hp2 := f2.tup _ _ hp
    have hul := hus.length
    have hfew := t.few
    by_cases e : z = t.word
    · have es := hsh e
      subst es
      refine ⟨a, b, _, _, _, [z], rfl, hp2, SqT.of upd_same, .inr ⟨by rw [S.shape_len, hul]; omega, _, rfl, ifD (by rw [e]; simp) ?_⟩⟩
      refine ⟨_, rfl, _, _, _, rfl, rfl, hd, _, rfl, _, rfl, a, _, rfl, SqT.of hp2, fun hw => absurd hw.1 (by show ¬ (min 1 (us.length + 1) = 0); omega), fun _ c hc => ?_⟩
      rw [cut1]
      have f3 := f2.trans (Fr.new (o := .tup us) hc)
      refine ⟨.s t.shape, .t c, _, us, rfl, rfl, SqT.of upd_same, fun D hD => ?_⟩
      refine lc_gen (walk_zs (n := us.length) (s1 := .s t.shape) (s2 := .t c) (xs := signs t.shape) (ys := us) (by rw [S.signs_eq, List.length_map, S.sorts_len, hul]; omega)) hD (fun _ => true) (fun _ => V.bl true) (by omega) (fun H' f => ⟨rfl, SqT.of (f.tup _ _ upd_same)⟩) (fun i x H4 H4' hi f4 y => ?_) (fun H' f hl => ?_)
      · obtain ⟨U, x, u, rfl, hU, rfl, hx, hu⟩ := y
        refine ⟨[some (.int m), some (.ref a), some (.str z), some x, some u], _, Fr.new hU, rfl, fun R r => ⟨_, _, rfl, SqT.of upd_same, rfl, _, _, rfl, _, _, rfl, rfl, r⟩, evt_yes, fun _ H5 f5 R r => ?_⟩
        obtain ⟨t', ht', hu'⟩ := pair_right hus hu
        dsimp only at hx
        rw [S.signs_eq, List.getElem?_map, Option.map_eq_some_iff] at hx
        obtain ⟨b', hb', rfl⟩ := hx
        exact ⟨_, rfl, _, rfl, _, rfl, b', t', u, m, rfl, hu'.keep ((f3.trans f4).tup.trans ((Fr.new (l := []) hU).tup.trans f5.tup)), ho.part ht' hb', hm, r⟩
      · rw [given_all] at hl
        refine ⟨D, List.replicate us.length true, rfl, SqL.of ?_, ?_⟩
        · rw [hl, List.map_replicate, List.map_const', List.length_range]
        · rw [rep_all]
          exact q _ (f3.trans f)
    · refine ⟨a, b, _, _, _, [z], rfl, hp2, SqT.of upd_same, ?_⟩
      have nx : (∀ j, j < i + 1 → words[j]? ≠ some t.word) ∧ ∃ o', [some (V.int m), some (.ref a), some (.str z), none, none] = [some (V.int m), some (.ref a), o', none, none] ∧ Fr [] H (upd H1' b (.tup [.str z])) := by
        refine ⟨fun j hj => ?_, _, rfl, f2⟩
        by_cases hji : j = i
        · rw [hji, hz]
          exact fun e' => e (Option.some.inj e')
        · exact hno j (by omega)
      by_cases hn : (1 : Int) + (sh.length : Int) = (us.length : Int) + 1
      · exact .inr ⟨hn, _, rfl, ifN (by simpa using fun e' => e e'.symm) nx⟩
      · exact .inl ⟨hn, _, rfl, iteF nx⟩
  · rintro σ H1 ⟨hno, _⟩
    obtain ⟨j, hj, e⟩ := t.word_in
    exact absurd e (hno j hj)

/-- a deal as it may be -/
def okD (m : Int) (ds : List S) : Prop := 1 ≤ ds.length ∧ ds.length ≤ 8 ∧ ∀ s ∈ ds, okS m s
theorem pair_left {α β : Type} {F : α → β → Prop} {xs : List α} {ys : List β} (h : Paired F xs ys) : ∀ {y : β}, y ∈ ys → ∃ x, x ∈ xs ∧ F x y := by
  induction h with
  | nil => intro y e; simp at e
  | @cons a b l1 l2 r t ih =>
    intro y e
    rcases List.mem_cons.mp e with rfl | e
    · exact ⟨a, List.mem_cons_self, r⟩
    · obtain ⟨x, h1, h2⟩ := ih e
      exact ⟨x, List.mem_cons_of_mem _ h1, h2⟩
def spDeal : Sp := fun vs H Q _ => ∃ (ds : List S) (v : V) (m : Int), vs = [.int m, v] ∧ DAt H ds v ∧ okD m ds ∧ m ≤ 12 ∧ Ret H Q (.bl true)
theorem ok_is_deal (T : Txt K w mg) : FnOk P w K mg base CX0 17 T.is_deal.f T.is_deal.fd ["keys", "thing"] spDeal := by
  refine T.is_deal.F.ok sc_is_deal (fun vs H Q E h => ?_) (fun cdv A outer s H vs Q E hr h => ?_)
  · obtain ⟨ds, v, m, rfl, _⟩ := h
    rfl
  obtain ⟨ds, v, m, rfl, ha, ⟨h1, h8, hs⟩, hm, q⟩ := h
  obtain ⟨a, us, rfl, hp, hus⟩ := ha
  have hl := hus.length
  refine ⟨_, (pss_cons (ps_if (PW.pt (pw_or (pt_not (pt_val (pe_callB call_is2 (by rfl) T.z_isinstance bt_isinstance (pa_cons (pv 1) (pa_cons (pe_bltn (v := .ty "tuple") rfl T.z_tuple bt_tuple rfl) pa_nil))))) (pw_or1 (pt_not (pt_chain op_le op_le pe_int (pe_callB (lenK (K := K) rfl) (by rfl) T.z_len bt_len (pa_cons (pv 1) pa_nil)) (pe_gint rfl T.c_MOST_STEPS)))))) (pss_one (ps_ret pe_bl)) pss_nil)
    (pss_one (ps_ret (pe_callB (allK (K := K) rfl rfl) (by rfl) T.z_all bt_all (pa_cons (pe_lc rfl sc_is_deal.nd (piT (K := K) rfl (pv 1)) (blkOk_by (own := [("step", 2)]) (N := ["keys", "thing", "step"]) (sc := defScope s_is_deal) (by decide +kernel)) (fun _ _ _ _ _ => (pg_name (i := 2) sc_is_deal.nd rfl (by first | exact Or.inl rfl | exact Or.inr rfl))) (fun _ _ _ _ _ => pts_nil) (fun _ _ _ _ _ => (pe_call (ok_is_step T) (hr.mono (by omega)) rfl T.is_step.m T.is_step.F.kp T.is_step.b .nil pass0 (pa_cons (pv 0) (pa_cons (pv 2) pa_nil))))) pa_nil))))), ?_⟩
  refine ⟨_, rfl, _, _, _, rfl, .tt hp, _, rfl, iteF ?_⟩
  refine ⟨_, rfl, a, _, rfl, .inr (SqT.of hp), _, _, rfl, rfl, _, rfl, ifD (by omega) ⟨_, _, rfl, rfl, _, rfl, ?_⟩⟩
  rw [decide_eq_true (show (us.length : Int) ≤ 8 by omega)]
  refine iteF ⟨_, rfl, a, rfl, ⟨_, SqT.of hp⟩, fun D hD => lc_map walk_tup hD (fun _ => V.bl true) (by omega) (fun H' f => SqT.of (f.tup _ _ hp)) (fun _ => rfl) (fun x hx H1 f1 R r => ?_) (fun H' f hl => ?_)⟩
  · obtain ⟨t, ht, htx⟩ := pair_left hus hx
    exact ⟨_, rfl, _, rfl, t, x, m, rfl, htx.keep f1.tup, hs t ht, hm, r⟩
  · rw [all_true] at hl
    refine ⟨D, _, rfl, SqL.of hl, ?_⟩
    rw [rep_all]
    exact q _ f

/-! ### a doing -/
def doF (a b c d e f : V) : List (Str × V) := [("first", a), ("here", b), ("looked", c), ("put_at", d), ("told", e), ("stopped", f)]
def stopV : Option Nat → V
  | none => .non
  | some n => .int n
structure DoAt (C : Addr) (H : Hp) (x : Addr) (v0 : V) (ph pk pp pt : Addr) (d : D) : Prop where
  me : ∃ dx, H x = some (.ins C dx (doF v0 (.ref ph) (.ref pk) (.ref pp) (.ref pt) (stopV d.stop)))
  here : H ph = some (.lst (d.here.map V.int))
  looks : H pk = some (.lst (d.looks.map V.int))
  puts : H pp = some (.lst (d.puts.map V.int))
  told : H pt = some (.lst (d.told.map V.int))
  n1 : ph ≠ pk
  n2 : ph ≠ pp
  n3 : ph ≠ pt
  n4 : pk ≠ pp
  n5 : pk ≠ pt
  n6 : pp ≠ pt
theorem ins_ne {H : Hp} {x a : Addr} {C dx : Addr} {fs : List (Str × V)} {xs : List V} (h : H x = some (.ins C dx fs)) (h' : H a = some (.lst xs)) : x ≠ a := fun e => by
  rw [e, h'] at h
  cases h
theorem DoAt.keep {C : Addr} {H H' : Hp} {x : Addr} {v0 : V} {ph pk pp pt : Addr} {d : D} (h : DoAt C H x v0 ph pk pp pt d) (f : Fr [] H H') : DoAt C H' x v0 ph pk pp pt d :=
  ⟨let ⟨dx, e⟩ := h.me; ⟨dx, f.at_ _ _ e (by simp)⟩, f.at_ _ _ h.here (by simp), f.at_ _ _ h.looks (by simp), f.at_ _ _ h.puts (by simp), f.at_ _ _ h.told (by simp), h.n1, h.n2, h.n3, h.n4, h.n5, h.n6⟩
theorem DoAt.looked {C : Addr} {H H' : Hp} {x : Addr} {v0 : V} {ph pk pp pt : Addr} {d : D} {l : List Int} (h : DoAt C H x v0 ph pk pp pt d) (f : Fr [pk] H H') (e : H' pk = some (.lst (l.map V.int))) : DoAt C H' x v0 ph pk pp pt { d with looks := l } :=
  ⟨let ⟨dx, z⟩ := h.me; ⟨dx, f.at_ _ _ z (by have := ins_ne z h.looks; simpa using this)⟩, f.at_ _ _ h.here (by simpa using h.n1), e, f.at_ _ _ h.puts (by simpa using h.n4.symm), f.at_ _ _ h.told (by simpa using h.n5.symm), h.n1, h.n2, h.n3, h.n4, h.n5, h.n6⟩

theorem st_set {H H1 : Hp} {x C dx : Addr} {fs : List (Str × V)} (fs' : List (Str × V)) (f : Fr [x] H H1) (hx : H1 x = some (.ins C dx fs)) : Fr [x] H (upd H1 x (.ins C dx fs')) ∧ (upd H1 x (.ins C dx fs')) x = some (.ins C dx fs') ∧ ∀ a zs, H1 a = some (.lst zs) → (upd H1 x (.ins C dx fs')) a = some (.lst zs) :=
  ⟨f.trans (Fr.set hx trivial (by simp)), upd_same, fun a zs h => by rw [upd_ne (ins_ne hx h).symm]; exact h⟩
theorem st_new {H H1 : Hp} {x C dx p : Addr} {fs : List (Str × V)} (ys : List V) (f : Fr [x] H H1) (hx : H1 x = some (.ins C dx fs)) (hp : H1 p = none) : Fr [x] H (upd H1 p (.lst ys)) ∧ (upd H1 p (.lst ys)) x = some (.ins C dx fs) ∧ (upd H1 p (.lst ys)) p = some (.lst ys) ∧ H p = none ∧ ∀ a zs, H1 a = some (.lst zs) → (upd H1 p (.lst ys)) a = some (.lst zs) ∧ a ≠ p :=
  ⟨f.trans (Fr.new hp), (Fr.new (l := []) hp).at_ _ _ hx (by simp), upd_same, f.fresh hp, fun a zs h => ⟨(Fr.new (l := []) hp).at_ _ _ h (by simp), ne_of_none h hp⟩⟩
def spDoInit (C : Addr) : Sp := fun vs H Q _ => ∃ (x dx pb : Addr) (b : List Int), vs = [.ref x, .ref pb] ∧ H x = some (.ins C dx []) ∧ H pb = some (.tup (b.map V.int)) ∧ b.length ≤ 12 ∧
  ∀ H' ph pk pp pt, Fr [x] H H' → H ph = none → H pk = none → H pp = none → H pt = none → DoAt C H' x (.ref pb) ph pk pp pt (newD b) → Q .non H'
theorem ok_Doing_init (T : Txt K w mg) : FnOk P w K mg base CX0 1 T.Doing_init.f T.Doing_init.fd ["self", "board"] (spDoInit T.k_Doing.C) := by
  refine T.Doing_init.F.ok sc_Doing_init (fun vs H Q E h => ?_) (fun cdv A outer s H vs Q E hr h => ?_)
  · obtain ⟨x, dx, pb, b, rfl, _⟩ := h
    rfl
  obtain ⟨x, dx, pb, b, rfl, hx, hb, hb12, q⟩ := h
  refine ⟨_, (pss_cons (sfldK (K := K) rfl (pv 0) (pv 1) rfl)
    (pss_cons (sfldK (K := K) rfl (pv 0) (pe_callTy (listK (K := K) rfl) (by rfl) T.z_list bt_list (pa_cons (pv 1) pa_nil)) rfl)
    (pss_cons (sfldK (K := K) rfl (pv 0) (pe_lst pa_nil) rfl)
    (pss_cons (sfldK (K := K) rfl (pv 0) (pe_lst pa_nil) rfl)
    (pss_cons (sfldK (K := K) rfl (pv 0) (pe_lst pa_nil) rfl)
    (pss_one (sfldK (K := K) rfl (pv 0) pe_non rfl))))))), ?_⟩
  have cl := T.k_Doing.cl
  refine ⟨_, rfl, _, rfl, x, _, dx, _, rfl, hx, cl, T.n_Doing_first, by simp, ?_⟩
  obtain ⟨f1, x1, _⟩ := st_set (putF "first" (.ref pb) []) (Fr.refl [x] H) hx
  refine ⟨_, rfl, pb, _, rfl, .inr (SqT.of (f1.tup _ _ hb)), fun ph hph => ?_⟩
  obtain ⟨f2, x2, a2, z2, _⟩ := st_new (b.map V.int) f1 x1 hph
  refine ⟨_, rfl, x, _, dx, _, rfl, x2, cl, T.n_Doing_here, Nat.le_of_ble_eq_true rfl, ?_⟩
  obtain ⟨f3, x3, k3⟩ := st_set (putF "here" (.ref ph) (putF "first" (.ref pb) [])) f2 x2
  refine ⟨Nat.zero_le _, fun pk hpk => ⟨_, rfl, x, _, dx, _, rfl, (st_new [] f3 x3 hpk).2.1, cl, T.n_Doing_looked, Nat.le_of_ble_eq_true rfl, ?_⟩⟩
  obtain ⟨f4, x4, a4, z4, k4⟩ := st_new [] f3 x3 hpk
  obtain ⟨f5, x5, k5⟩ := st_set (putF "looked" (.ref pk) (putF "here" (.ref ph) (putF "first" (.ref pb) []))) f4 x4
  refine ⟨Nat.zero_le _, fun pp hpp => ⟨_, rfl, x, _, dx, _, rfl, (st_new [] f5 x5 hpp).2.1, cl, T.n_Doing_put_at, Nat.le_of_ble_eq_true rfl, ?_⟩⟩
  obtain ⟨f6, x6, a6, z6, k6⟩ := st_new [] f5 x5 hpp
  obtain ⟨f7, x7, k7⟩ := st_set (putF "put_at" (.ref pp) (putF "looked" (.ref pk) (putF "here" (.ref ph) (putF "first" (.ref pb) [])))) f6 x6
  refine ⟨Nat.zero_le _, fun pt hpt => ⟨_, rfl, x, _, dx, _, rfl, (st_new [] f7 x7 hpt).2.1, cl, T.n_Doing_told, Nat.le_of_ble_eq_true rfl, ?_⟩⟩
  obtain ⟨f8, x8, a8, z8, k8⟩ := st_new [] f7 x7 hpt
  obtain ⟨f9, x9, k9⟩ := st_set (putF "told" (.ref pt) (putF "put_at" (.ref pp) (putF "looked" (.ref pk) (putF "here" (.ref ph) (putF "first" (.ref pb) []))))) f8 x8
  refine ⟨_, rfl, x, _, dx, _, rfl, x9, cl, T.n_Doing_stopped, Nat.le_of_ble_eq_true rfl, ?_⟩
  obtain ⟨f10, x10, k10⟩ := st_set (putF "stopped" .non (putF "told" (.ref pt) (putF "put_at" (.ref pp) (putF "looked" (.ref pk) (putF "here" (.ref ph) (putF "first" (.ref pb) [])))))) f9 x9
  have e3 := k3 _ _ a2
  have e4 := k4 _ _ e3
  have e5 := k5 _ _ e4.1
  have e6 := k6 _ _ e5
  have e7 := k7 _ _ e6.1
  have e8 := k8 _ _ e7
  have g5 := k5 _ _ a4
  have g6 := k6 _ _ g5
  have g7 := k7 _ _ g6.1
  have g8 := k8 _ _ g7
  have p7 := k7 _ _ a6
  have p8 := k8 _ _ p7
  exact q _ ph pk pp pt f10 z2 z4 z6 z8 ⟨⟨dx, x10⟩, k10 _ _ (k9 _ _ e8.1), k10 _ _ (k9 _ _ g8.1), k10 _ _ (k9 _ _ p8.1), k10 _ _ (k9 _ _ a8), e4.2, e6.2, e8.2, g6.2, g8.2, p8.2⟩

def spReck (C : Addr) : Sp := fun vs H Q _ => ∃ (x : Addr) (v0 : V) (ph pk pp pt : Addr) (d : D) (t : T) (v : V) (m : Int), vs = [.ref x, v] ∧ DoAt C H x v0 ph pk pp pt d ∧ TAt H t v ∧ okT m true t ∧ (d.here.length : Int) = m ∧ 0 < m ∧ d.looks.length ≤ 40000 ∧
  ∀ H', Fr [pk] H H' → DoAt C H' x v0 ph pk pp pt { d with looks := d.looks ++ lk d.here t } → Q (.int (ev d.here t)) H'
theorem ok_Doing_reckon (T : Txt K w mg) : FnOk P w K mg base CX0 10 T.Doing_reckon.f T.Doing_reckon.fd ["self", "term"] (spReck T.k_Doing.C) := by
  refine T.Doing_reckon.F.ok sc_Doing_reckon (fun vs H Q E h => ?_) (fun cdv A outer s H vs Q E hr h => ?_)
  · obtain ⟨x, v0, ph, pk, pp, pt, d, t, v, m, rfl, _⟩ := h
    rfl
  obtain ⟨x, v0, ph, pk, pp, pt, d, t, v, m, rfl, ha, ht, ho, hm, h0, hl, q⟩ := h
  obtain ⟨dx, hx⟩ := ha.me
  have cl := T.k_Doing.cl
  refine ⟨_, (pss_one (ps_ret (pe_call (ok_reckoned T) (hr.mono (by omega)) rfl T.reckoned.m T.reckoned.F.kp T.reckoned.b .nil pass0 (pa_cons (pv 1) (pa_cons (fldK (K := K) rfl (pv 0) rfl) (pa_cons (fldK (K := K) rfl (pv 0) rfl) pa_nil)))))), ?_⟩
  exact ⟨_, rfl, _, rfl, x, _, dx, _, _, rfl, hx, cl, T.n_Doing_here, rfl, _, rfl, x, _, dx, _, _, rfl, hx, cl, T.n_Doing_looked, rfl, t, v, ph, pk, d.here, d.looks, m, rfl, ht, ho.1, Nat.le_succ_of_le ho.2.1, ha.here, ha.looks, ha.n1, hm, h0, by have := ho.2.2; omega, fun H' f h => q H' f (ha.looked f h)⟩

def spDoPut (C : Addr) : Sp := fun vs H Q _ => ∃ (x : Addr) (v0 : V) (ph pk pp pt : Addr) (d : D) (p t : T) (v u : V) (m : Int), vs = [.ref x, v, u] ∧ DoAt C H x v0 ph pk pp pt d ∧ TAt H p v ∧ TAt H t u ∧ okT m false p ∧ okT m true t ∧ (d.here.length : Int) = m ∧ 0 < m ∧ m ≤ 12 ∧ d.looks.length ≤ 30000 ∧ d.puts.length ≤ 30000 ∧
  ∀ H', Fr [ph, pk, pp] H H' → DoAt C H' x v0 ph pk pp pt (putD p t d) → Q .non H'
theorem ixN_int {n : Nat} {k : Int} (h0 : 0 ≤ k) (h1 : k < (n : Int)) : ixN n k = some k.toNat := by
  unfold ixN
  rw [if_pos h0, if_pos h1]
theorem map_set (l : List Int) (i : Nat) (v : Int) : (l.map V.int).set i (.int v) = (l.set i v).map V.int := by rw [List.map_set]
theorem ok_Doing_put (T : Txt K w mg) : FnOk P w K mg base CX0 11 T.Doing_put.f T.Doing_put.fd ["self", "place", "term"] (spDoPut T.k_Doing.C) := by
  refine T.Doing_put.F.ok sc_Doing_put (fun vs H Q E h => ?_) (fun cdv A outer s H vs Q E hr h => ?_)
  · obtain ⟨x, v0, ph, pk, pp, pt, d, p, t, v, u, m, rfl, _⟩ := h
    rfl
  obtain ⟨x, v0, ph, pk, pp, pt, d, p, t, v, u, m, rfl, ha, hp, ht, op, ot, hm, h0, h12, hl, hpl, q⟩ := h
  obtain ⟨dx, hx⟩ := ha.me
  have cl := T.k_Doing.cl
  have kp := lk_len d.here p
  have op3 := op.2.2
  obtain ⟨k0, k1⟩ := ev_key hm h0 p op.1
  refine ⟨_, (pss_cons (ps_set (i := 3) sc_Doing_put.nd rfl (by first | exact Or.inl rfl | exact Or.inr rfl) (pe_call (ok_place_key T) (hr.mono (by omega)) rfl T.place_key.m T.place_key.F.kp T.place_key.b .nil pass0 (pa_cons (pv 1) (pa_cons (fldK (K := K) rfl (pv 0) rfl) (pa_cons (fldK (K := K) rfl (pv 0) rfl) pa_nil)))))
    (pss_cons (ps_asg (pe_meth (pv 0) T.k_Doing.cl T.Doing_reckon.me (ok_Doing_reckon T) (hr.mono (by omega)) T.Doing_reckon.b .nil pass0 (pa_cons (pv 2) pa_nil)) (pg_sub (fldK (K := K) rfl (pv 0) rfl) (pv 3) set_list))
    (pss_one (ps_expr (pe_bm PySem.F.plainAttrs_list PySem.F.slot_list_append PySem.F.type_list_append mt_append (fldK (K := K) rfl (pv 0) rfl) (pa_cons (pv 3) pa_nil)))))), ?_⟩
  refine ⟨_, rfl, _, rfl, x, _, dx, _, _, rfl, hx, cl, T.n_Doing_here, rfl, _, rfl, x, _, dx, _, _, rfl, hx, cl, T.n_Doing_looked, rfl, p, v, ph, pk, d.here, d.looks, m, rfl, hp, op.1, Nat.le_succ_of_le op.2.1, ha.here, ha.looks, ha.n1, hm, h0, by omega, fun H1 f1 l1 => ?_⟩
  have a1 := ha.looked f1 l1
  refine ⟨_, rfl, x, dx, _, rfl, (by obtain ⟨dx', hx'⟩ := ha.me; exact f1.at_ _ _ hx (by have := ins_ne hx ha.looks; simpa using this)), rfl, _, rfl, x, v0, ph, pk, pp, pt, _, t, u, m, rfl, a1, ht.keep f1.tup, ot, hm, h0, by show (d.looks ++ lk d.here p).length ≤ 40000; rw [List.length_append]; omega, fun H2 f2 a2 => ?_⟩
  obtain ⟨dx2, hx2⟩ := a2.me
  have here2 := a2.here
  refine ⟨_, rfl, x, _, dx2, _, _, rfl, hx2, cl, T.n_Doing_here, rfl, _, rfl, ph, _, _, _, rfl, rfl, here2, ixN_int k0 (by rw [List.length_map]; show ev d.here p < (d.here.length : Int); omega), ?_⟩
  have f3 : Fr [ph] H2 (upd H2 ph (.lst ((d.here.map V.int).set (ev d.here p).toNat (.int (ev d.here t))))) := Fr.set here2 trivial (by simp)
  have hx3 := f3.at_ _ _ hx2 (by have := ins_ne hx2 here2; simpa using this)
  have pp3 := f3.at_ _ _ a2.puts (by simpa using ha.n2.symm)
  refine ⟨_, rfl, x, _, dx2, _, _, rfl, hx3, cl, T.n_Doing_put_at, rfl, .inl ⟨rfl, _, SqL.of pp3⟩, _, rfl, pp, _, _, rfl, rfl, pp3, line_lt (by rw [List.length_map]; show d.puts.length < _; omega), ?_⟩
  have f4 : Fr [pp] _ (upd (upd H2 ph (.lst ((d.here.map V.int).set (ev d.here p).toNat (.int (ev d.here t))))) pp (.lst (d.puts.map V.int ++ [.int (ev d.here p)]))) := Fr.set pp3 trivial (by simp)
  refine q _ ((f1.mono (by simp)).trans ((f2.mono (by simp)).trans ((f3.mono (by simp)).trans (f4.mono (by simp))))) ⟨⟨dx2, f4.at_ _ _ hx3 (by have := ins_ne hx3 pp3; simpa using this)⟩, ?_, ?_, ?_, ?_, ha.n1, ha.n2, ha.n3, ha.n4, ha.n5, ha.n6⟩
  · rw [f4.at_ _ _ upd_same (by simpa using ha.n2), map_set]
    rfl
  · have e := f4.at_ _ _ (f3.at_ _ _ a2.looks (by simpa using ha.n1.symm)) (by simpa using ha.n4)
    rw [e]
    show some (HO.lst ((d.looks ++ lk d.here p ++ lk d.here t).map V.int)) = some (HO.lst ((d.looks ++ (lk d.here p ++ lk d.here t)).map V.int))
    rw [List.append_assoc]
  · rw [upd_same]
    show _ = some (HO.lst ((d.puts ++ [ev d.here p]).map V.int))
    rw [List.map_append]
    rfl
  · exact f4.at_ _ _ (f3.at_ _ _ a2.told (by simpa using ha.n3.symm)) (by simpa using ha.n6.symm)

theorem ifNe {a b : Int} {A B : Prop} (h : a ≠ b) (x : A) : if (!decide (V.int a = V.int b)) = true then A else B := by
  rw [decide_eq_false (fun z => h (V.int.inj z))]
  exact iteT x
theorem ifNeN {a b : Int} {A B : Prop} (h : a = b) (x : B) : if (!decide (V.int a = V.int b)) = true then A else B := by
  rw [decide_eq_true (by rw [h])]
  exact iteF x
theorem ifEq {a b : Int} {A B : Prop} (h : a = b) (x : A) : if decide (V.int a = V.int b) = true then A else B := ifD (by rw [h]) x
theorem ifEqN {a b : Int} {A B : Prop} (h : a ≠ b) (x : B) : if decide (V.int a = V.int b) = true then A else B := ifN (fun z => h (V.int.inj z)) x

def spDoStep (C : Addr) : Sp := fun vs H Q _ => ∃ (x : Addr) (v0 : V) (ph pk pp pt : Addr) (d : D) (n : Nat) (s : S) (v : V) (m : Int), vs = [.ref x, .int (n : Nat), v] ∧ DoAt C H x v0 ph pk pp pt d ∧ SAt H s v ∧ okS m s ∧ (d.here.length : Int) = m ∧ 0 < m ∧ m ≤ 12 ∧ d.looks.length ≤ 20000 ∧ d.puts.length ≤ 20000 ∧ d.told.length ≤ 20000 ∧ d.stop = none ∧
  ∀ H', Fr [x, ph, pk, pp, pt] H H' → DoAt C H' x v0 ph pk pp pt (stepD n s d) → Q .non H'
theorem ok_Doing_step (T : Txt K w mg) : FnOk P w K mg base CX0 12 T.Doing_step.f T.Doing_step.fd ["self", "number", "step"] (spDoStep T.k_Doing.C) := by
  refine T.Doing_step.F.ok sc_Doing_step (fun vs H Q E h => ?_) (fun cdv A outer s H vs Q E hr h => ?_)
  · obtain ⟨x, v0, ph, pk, pp, pt, d, n, t, v, m, rfl, _⟩ := h
    rfl
  obtain ⟨x, v0, ph, pk, pp, pt, d, n, t, v, m, rfl, ha, ht, ho, hm, h0, h12, hl, hpl, htl, hst, q⟩ := h
  obtain ⟨dx, hx⟩ := ha.me
  have cl := T.k_Doing.cl
  have m1 : ∀ a ∈ [ph, pk, pp], a ∈ [x, ph, pk, pp, pt] := fun a h => List.mem_cons_of_mem _ (List.mem_append_left [pt] h)
  have m2 : ∀ a ∈ [pk], a ∈ [x, ph, pk, pp, pt] := by simp
  refine ⟨_, (pss_one (ps_if (pt_cmpR op_eq (pe_ix (ixT (K := K) rfl) (pv 2) pe_int (fun _ _ => rfl)) pe_str (nomark _)) (pss_one (ps_expr (pe_meth (pv 0) T.k_Doing.cl T.Doing_put.me (ok_Doing_put T) (hr.mono (by omega)) T.Doing_put.b .nil pass0 (pa_cons (pe_ix (ixT (K := K) rfl) (pv 2) pe_int (fun _ _ => rfl)) (pa_cons (pe_ix (ixT (K := K) rfl) (pv 2) pe_int (fun _ _ => rfl)) pa_nil))))) (pss_one (ps_if (pt_cmpR op_eq (pe_ix (ixT (K := K) rfl) (pv 2) pe_int (fun _ _ => rfl)) pe_str (nomark _)) (pss_one (ps_if (pt_cmpR op_ne (pe_meth (pv 0) T.k_Doing.cl T.Doing_reckon.me (ok_Doing_reckon T) (hr.mono (by omega)) T.Doing_reckon.b .nil pass0 (pa_cons (pe_ix (ixT (K := K) rfl) (pv 2) pe_int (fun _ _ => rfl)) pa_nil)) pe_int (nomark _)) (pss_one (ps_expr (pe_meth (pv 0) T.k_Doing.cl T.Doing_put.me (ok_Doing_put T) (hr.mono (by omega)) T.Doing_put.b .nil pass0 (pa_cons (pe_ix (ixT (K := K) rfl) (pv 2) pe_int (fun _ _ => rfl)) (pa_cons (pe_ix (ixT (K := K) rfl) (pv 2) pe_int (fun _ _ => rfl)) pa_nil))))) pss_nil)) (pss_one (ps_if (pt_cmpR op_eq (pe_ix (ixT (K := K) rfl) (pv 2) pe_int (fun _ _ => rfl)) pe_str (nomark _)) (pss_one (ps_expr (pe_bm PySem.F.plainAttrs_list PySem.F.slot_list_append PySem.F.type_list_append mt_append (fldK (K := K) rfl (pv 0) rfl) (pa_cons (pe_meth (pv 0) T.k_Doing.cl T.Doing_reckon.me (ok_Doing_reckon T) (hr.mono (by omega)) T.Doing_reckon.b .nil pass0 (pa_cons (pe_ix (ixT (K := K) rfl) (pv 2) pe_int (fun _ _ => rfl)) pa_nil)) pa_nil)))) (pss_one (ps_if (pt_cmpR op_eq (pe_meth (pv 0) T.k_Doing.cl T.Doing_reckon.me (ok_Doing_reckon T) (hr.mono (by omega)) T.Doing_reckon.b .nil pass0 (pa_cons (pe_ix (ixT (K := K) rfl) (pv 2) pe_int (fun _ _ => rfl)) pa_nil)) pe_int (nomark _)) (pss_one (sfldK (K := K) rfl (pv 0) (pv 1) rfl)) pss_nil)))))))), ?_⟩
  cases t with
  | put p t =>
    obtain ⟨a, u1, u2, rfl, hp, h1, h2⟩ := ht
    refine ⟨_, rfl, a, _, _, _, rfl, rfl, SqT.of hp, at0, rfl, _, rfl, ifD rfl ?_⟩
    exact ⟨_, rfl, x, dx, _, rfl, hx, rfl, _, rfl, a, _, _, _, rfl, rfl, SqT.of hp, at1, _, rfl, a, _, _, _, rfl, rfl, SqT.of hp, at2, x, v0, ph, pk, pp, pt, d, p, t, u1, u2, m, rfl, ha, h1, h2, ho.1, ho.2, hm, h0, h12, by omega, by omega, fun H' f a' => q H' (f.mono m1) a'⟩
  | iff c p t =>
    obtain ⟨a, u1, u2, u3, rfl, hp, h1, h2, h3⟩ := ht
    have kc := lk_len d.here c
    have oc := ho.1.2.2
    refine ⟨_, rfl, a, _, _, _, rfl, rfl, SqT.of hp, at0, rfl, _, rfl, ifN (by decide +kernel) ?_⟩
    refine ⟨_, rfl, a, _, _, _, rfl, rfl, SqT.of hp, at0, rfl, _, rfl, ifD rfl ?_⟩
    refine ⟨_, rfl, x, dx, _, rfl, hx, rfl, _, rfl, a, _, _, _, rfl, rfl, SqT.of hp, at1, x, v0, ph, pk, pp, pt, d, c, u1, m, rfl, ha, h1, ho.1, hm, h0, by omega, fun H1 f1 a1 => ⟨rfl, _, rfl, ?_⟩⟩
    by_cases hz : ev d.here c = 0
    · refine ifNeN hz (q H1 (f1.mono m2) ?_)
      show DoAt _ _ _ _ _ _ _ _ (if ev d.here c = 0 then _ else _)
      rw [if_pos hz]
      exact a1
    · obtain ⟨dx1, hx1⟩ := a1.me
      have hp1 := f1.tup _ _ hp
      refine ifNe hz ⟨_, rfl, x, dx1, _, rfl, hx1, rfl, _, rfl, a, _, _, _, rfl, rfl, SqT.of hp1, at2, _, rfl, a, _, _, _, rfl, rfl, SqT.of hp1, at3, x, v0, ph, pk, pp, pt, _, p, t, u2, u3, m, rfl, a1, h2.keep f1.tup, h3.keep f1.tup, ho.2.1, ho.2.2, hm, h0, h12, ?_, ?_, fun H' f a' => q H' ((f1.mono m2).trans (f.mono m1)) ?_⟩
      · show (d.looks ++ lk d.here c).length ≤ 30000
        rw [List.length_append]
        omega
      · show d.puts.length ≤ 30000
        omega
      · show DoAt _ _ _ _ _ _ _ _ (if ev d.here c = 0 then _ else _)
        rw [if_neg hz]
        exact a'
  | tell t =>
    obtain ⟨a, u, rfl, hp, h1⟩ := ht
    refine ⟨_, rfl, a, _, _, _, rfl, rfl, SqT.of hp, at0, rfl, _, rfl, ifN (by decide +kernel) ?_⟩
    refine ⟨_, rfl, a, _, _, _, rfl, rfl, SqT.of hp, at0, rfl, _, rfl, ifN (by decide +kernel) ?_⟩
    refine ⟨_, rfl, a, _, _, _, rfl, rfl, SqT.of hp, at0, rfl, _, rfl, ifD rfl ?_⟩
    refine ⟨_, rfl, x, _, dx, _, _, rfl, hx, cl, T.n_Doing_told, rfl, .inl ⟨rfl, _, SqL.of ha.told⟩, _, rfl, x, dx, _, rfl, hx, rfl, _, rfl, a, _, _, _, rfl, rfl, SqT.of hp, at1, x, v0, ph, pk, pp, pt, d, t, u, m, rfl, ha, h1, ho, hm, h0, by omega, fun H1 f1 a1 => ?_⟩
    have ht1 := a1.told
    refine ⟨pt, _, _, rfl, rfl, ht1, line_lt (by rw [List.length_map]; show d.told.length < _; omega), ?_⟩
    have f2 : Fr [pt] H1 (upd H1 pt (.lst (d.told.map V.int ++ [.int (ev d.here t)]))) := Fr.set ht1 trivial (by simp)
    obtain ⟨dx1, hx1⟩ := a1.me
    refine q _ ((f1.mono m2).trans (f2.mono (by simp))) ⟨⟨dx1, f2.at_ _ _ hx1 (by have := ins_ne hx1 ht1; simpa using this)⟩, f2.at_ _ _ a1.here (by simpa using ha.n3), f2.at_ _ _ a1.looks (by simpa using ha.n5), f2.at_ _ _ a1.puts (by simpa using ha.n6), ?_, ha.n1, ha.n2, ha.n3, ha.n4, ha.n5, ha.n6⟩
    rw [upd_same]
    show _ = some (HO.lst ((d.told ++ [ev d.here t]).map V.int))
    rw [List.map_append]
    rfl
  | need t =>
    obtain ⟨a, u, rfl, hp, h1⟩ := ht
    refine ⟨_, rfl, a, _, _, _, rfl, rfl, SqT.of hp, at0, rfl, _, rfl, ifN (by decide +kernel) ?_⟩
    refine ⟨_, rfl, a, _, _, _, rfl, rfl, SqT.of hp, at0, rfl, _, rfl, ifN (by decide +kernel) ?_⟩
    refine ⟨_, rfl, a, _, _, _, rfl, rfl, SqT.of hp, at0, rfl, _, rfl, ifN (by decide +kernel) ?_⟩
    refine ⟨_, rfl, x, dx, _, rfl, hx, rfl, _, rfl, a, _, _, _, rfl, rfl, SqT.of hp, at1, x, v0, ph, pk, pp, pt, d, t, u, m, rfl, ha, h1, ho, hm, h0, by omega, fun H1 f1 a1 => ⟨rfl, _, rfl, ?_⟩⟩
    by_cases hz : ev d.here t = 0
    · obtain ⟨dx1, hx1⟩ := a1.me
      refine ifEq hz ⟨_, rfl, _, rfl, x, _, dx1, _, rfl, hx1, cl, T.n_Doing_stopped, Nat.le_of_ble_eq_true rfl, ?_⟩
      obtain ⟨f2, x2, k2⟩ := st_set (doF v0 (.ref ph) (.ref pk) (.ref pp) (.ref pt) (.int n)) (Fr.refl [x] H1) hx1
      refine q _ ((f1.mono m2).trans (f2.mono (by simp))) ⟨⟨dx1, ?_⟩, k2 _ _ a1.here, k2 _ _ a1.looks, k2 _ _ a1.puts, k2 _ _ a1.told, ha.n1, ha.n2, ha.n3, ha.n4, ha.n5, ha.n6⟩
      show _ = some (HO.ins _ _ (doF v0 (.ref ph) (.ref pk) (.ref pp) (.ref pt) (stopV (if ev d.here t = 0 then some n else d.stop))))
      rw [if_pos hz]
      exact x2
    · refine ifEqN hz (q H1 (f1.mono m2) ?_)
      show DoAt _ _ _ _ _ _ _ _ { here := d.here, looks := d.looks ++ lk d.here t, puts := d.puts, told := d.told, stop := if ev d.here t = 0 then some n else d.stop }
      rw [if_neg hz]
      exact a1

/-- (board, answer, looks, puts) at v; the answer left open -/
def GAt (H : Hp) (r : List Int × A × List Int × List Int) (v : V) : Prop := ∃ p u a kl kp, v = .ref p ∧ H p = some (.tup [u, a, .ref kl, .ref kp]) ∧ BAt H r.1 u ∧ H kl = some (.lst (r.2.2.1.map V.int)) ∧ H kp = some (.lst (r.2.2.2.map V.int))
def spOut (C : Addr) : Sp := fun vs H Q _ => ∃ (x : Addr) (v0 : V) (ph pk pp pt : Addr) (d : D) (b : List Int), vs = [.ref x] ∧ DoAt C H x v0 ph pk pp pt d ∧ BAt H b v0 ∧ ∀ H' v, Fr [] H H' → GAt H' (outD b d) v → Q v H'
theorem ok_Doing_outcome (T : Txt K w mg) : FnOk P w K mg base CX0 1 T.Doing_outcome.f T.Doing_outcome.fd ["self"] (spOut T.k_Doing.C) := by
  refine T.Doing_outcome.F.ok sc_Doing_outcome (fun vs H Q E h => ?_) (fun cdv A outer s H vs Q E hr h => ?_)
  · obtain ⟨x, v0, ph, pk, pp, pt, d, b, rfl, _⟩ := h
    rfl
  obtain ⟨x, v0, ph, pk, pp, pt, d, b, rfl, ha, hb, q⟩ := h
  obtain ⟨dx, hx⟩ := ha.me
  have cl := T.k_Doing.cl
  refine ⟨_, (pss_cons (ps_if (pt_cmp (pc_notN (fldK (K := K) rfl (pv 0) rfl))) (pss_one (ps_ret (pe_tup (pa_cons (fldK (K := K) rfl (pv 0) rfl) (pa_cons (pe_tup (pa_cons pe_str (pa_cons (fldK (K := K) rfl (pv 0) rfl) pa_nil))) (pa_cons (fldK (K := K) rfl (pv 0) rfl) (pa_cons (pe_lst pa_nil) pa_nil))))))) pss_nil)
    (pss_one (ps_ret (pe_tup (pa_cons (pe_callTy (tupK (K := K) rfl) (by rfl) T.z_tuple bt_tuple (pa_cons (fldK (K := K) rfl (pv 0) rfl) pa_nil)) (pa_cons (pe_tup (pa_cons pe_str (pa_cons (fldK (K := K) rfl (pv 0) rfl) pa_nil))) (pa_cons (fldK (K := K) rfl (pv 0) rfl) (pa_cons (fldK (K := K) rfl (pv 0) rfl) pa_nil)))))))), ?_⟩
  refine ⟨_, rfl, x, _, dx, _, _, rfl, hx, cl, T.n_Doing_stopped, rfl, _, rfl, ?_⟩
  cases hst : d.stop with
  | some n =>
    rw [hst] at hx
    refine ifB rfl ?_
    refine ⟨_, rfl, x, _, dx, _, _, rfl, hx, cl, T.n_Doing_first, rfl, _, rfl, x, _, dx, _, _, rfl, hx, cl, T.n_Doing_stopped, rfl, line_of (by simp), fun pa hpa => ?_⟩
    have f1 := Fr.new (l := []) (o := .tup [.str "nothing", .int n]) hpa
    have x1 := f1.at_ _ _ hx (by simp)
    refine ⟨_, rfl, x, _, dx, _, _, rfl, x1, cl, T.n_Doing_looked, rfl, Nat.zero_le _, fun pe hpe => ?_⟩
    have f2 := f1.trans (Fr.new (l := []) (o := .lst []) hpe)
    refine ⟨line_of (by simp), fun p hp => ?_⟩
    have f3 := f2.trans (Fr.new (l := []) (o := .tup [v0, .ref pa, .ref pk, .ref pe]) hp)
    refine q _ _ f3 ⟨p, _, _, _, _, rfl, upd_same, ?_, ?_, ?_⟩
    · unfold outD
      rw [hst]
      exact hb.keep f3.tup
    · unfold outD
      rw [hst]
      exact f3.at_ _ _ ha.looks (by simp)
    · unfold outD
      rw [hst]
      exact (Fr.new (l := []) hp).at_ _ _ upd_same (by simp)
  | none =>
    rw [hst] at hx
    refine ifBN rfl ?_
    refine ⟨_, rfl, x, _, dx, _, _, rfl, hx, cl, T.n_Doing_here, rfl, ph, _, rfl, .inl ⟨SqL.of ha.here, fun pa hpa => ?_⟩⟩
    have f1 := Fr.new (l := []) (o := .tup (d.here.map V.int)) hpa
    have x1 := f1.at_ _ _ hx (by simp)
    refine ⟨_, rfl, x, _, dx, _, _, rfl, x1, cl, T.n_Doing_told, rfl, line_of (by simp), fun pe hpe => ?_⟩
    have f2 := f1.trans (Fr.new (l := []) (o := .tup [.str "done", .ref pt]) hpe)
    have x2 := f2.at_ _ _ hx (by simp)
    refine ⟨_, rfl, x, _, dx, _, _, rfl, x2, cl, T.n_Doing_looked, rfl, _, rfl, x, _, dx, _, _, rfl, x2, cl, T.n_Doing_put_at, rfl, line_of (by simp), fun p hp => ?_⟩
    have f3 := f2.trans (Fr.new (l := []) (o := .tup [.ref pa, .ref pe, .ref pk, .ref pp]) hp)
    refine q _ _ f3 ⟨p, _, _, _, _, rfl, upd_same, ?_, ?_, ?_⟩
    · unfold outD
      rw [hst]
      exact ⟨pa, rfl, (Fr.new (l := []) hp).at_ _ _ ((Fr.new (l := []) hpe).at_ _ _ upd_same (by simp)) (by simp)⟩
    · unfold outD
      rw [hst]
      exact f3.at_ _ _ ha.looks (by simp)
    · unfold outD
      rw [hst]
      exact f3.at_ _ _ ha.puts (by simp)
end
end RL

/-! deals.py and touched.py: a deal done; laid.py: rows. -/
namespace RL
open PySem L2 RlR

/-! ### bounds -/
theorem oneD_bound {m : Int} {n : Nat} {s : S} {d : D} (h : okS m s) : (oneD n s d).looks.length ≤ d.looks.length + 36 ∧ (oneD n s d).puts.length ≤ d.puts.length + 1 ∧ (oneD n s d).told.length ≤ d.told.length + 1 := by
  unfold oneD
  split
  · cases s with
    | put p t =>
      have k1 := lk_len d.here p
      have k2 := lk_len d.here t
      have o1 := h.1.2.2
      have o2 := h.2.2.2
      simp only [stepD, putD, List.length_append, List.length_singleton]
      omega
    | iff c p t =>
      have k0 := lk_len d.here c
      have k1 := lk_len d.here p
      have k2 := lk_len d.here t
      have o0 := h.1.2.2
      have o1 := h.2.1.2.2
      have o2 := h.2.2.2.2
      simp only [stepD]
      split
      · simp only [List.length_append]
        omega
      · simp only [putD, List.length_append, List.length_singleton]
        omega
    | need t =>
      have k2 := lk_len d.here t
      have o2 := h.2.2
      simp only [stepD, List.length_append]
      omega
    | tell t =>
      have k2 := lk_len d.here t
      have o2 := h.2.2
      simp only [stepD, List.length_append, List.length_singleton]
      omega
  · omega
theorem runD_bound {m : Int} : ∀ (r : List S) (n : Nat) (d : D), (∀ s ∈ r, okS m s) → (runD n r d).looks.length ≤ d.looks.length + 36 * r.length ∧ (runD n r d).puts.length ≤ d.puts.length + r.length ∧ (runD n r d).told.length ≤ d.told.length + r.length
  | [], _, d, _ => by simp [runD]
  | s :: r, n, d, h => by
    have h1 := oneD_bound (n := n) (d := d) (h s List.mem_cons_self)
    have h2 := runD_bound r (n + 1) (oneD n s d) fun q hq => h q (List.mem_cons_of_mem _ hq)
    show (runD (n + 1) r (oneD n s d)).looks.length ≤ _ ∧ (runD (n + 1) r (oneD n s d)).puts.length ≤ _ ∧ (runD (n + 1) r (oneD n s d)).told.length ≤ _
    rw [List.length_cons]
    omega
theorem gn_looks {ds : List S} {b : List Int} : (gn ds b).2.2.1 = (runD 0 ds (newD b)).looks := by
  unfold gn outD
  split <;> rfl
theorem gn_bound {m : Int} {ds : List S} {b : List Int} (h : okD m ds) : (gn ds b).2.2.1.length ≤ 288 ∧ (gn ds b).2.2.2.length ≤ 8 := by
  have q := runD_bound ds 0 (newD b) h.2.2
  have h8 := h.2.1
  have e1 : (newD b).looks.length = 0 := rfl
  have e2 : (newD b).puts.length = 0 := rfl
  refine ⟨by rw [gn_looks]; omega, ?_⟩
  unfold gn outD
  split
  · simp
  · show (runD 0 ds (newD b)).puts.length ≤ 8
    omega
theorem gn_keys {m : Int} {ds : List S} {b : List Int} (h : okD m ds) (hb : (b.length : Int) = m) (h0 : 0 < m) : (∀ k ∈ (gn ds b).2.2.1, 0 ≤ k ∧ k < m) ∧ ∀ k ∈ (gn ds b).2.2.2, 0 ≤ k ∧ k < m := by
  have q := Dok.run h0 ds 0 (newD b) (fun s hs => (h.2.2 s hs).wf) (Dok.new hb)
  refine ⟨by rw [gn_looks]; exact q.2.1, ?_⟩
  unfold gn outD
  split
  · simp
  · exact q.2.2

section
variable {P : Program} {w : World} {K : PySem.W.Frag} {mg : Str → Option Value} {base : Heap}

def spGone : Sp := fun vs H Q _ => ∃ (ds : List S) (v : V) (b : List Int) (u : V) (m : Int), vs = [v, u] ∧ DAt H ds v ∧ BAt H b u ∧ okD m ds ∧ (b.length : Int) = m ∧ 0 < m ∧ m ≤ 12 ∧ ∀ v' H', Fr [] H H' → GAt H' (gn ds b) v' → Q v' H'
theorem ok_gone (T : Txt K w mg) : FnOk P w K mg base CX0 14 T.gone.f T.gone.fd ["deal", "board"] spGone := by
  refine T.gone.F.ok sc_gone (fun vs H Q E h => ?_) (fun cdv A outer s H vs Q E hr h => ?_)
  · obtain ⟨ds, v, b, u, m, rfl, _⟩ := h
    rfl
  obtain ⟨ds, v, b, u, m, rfl, hd, hb, ho, hm, h0, h12, q⟩ := h
  obtain ⟨pa, us, rfl, hp, hus⟩ := id hd
  obtain ⟨pb, rfl, hpb⟩ := id hb
  have hlen := hus.length
  have ho8 := ho.2.1
  refine ⟨_, (pss_cons (ps_set (i := 2) sc_gone.nd rfl (by first | exact Or.inl rfl | exact Or.inr rfl) (pe_make T.mk_Doing (ok_Doing_init T) (hr.mono (by omega)) rfl T.k_Doing.m T.Doing_init.b .nil pass0 (pa_cons (pv 1) pa_nil)))
    (pss_cons (ps_for PassesOwn.never rfl (piE (K := K) rfl rfl T.z_enumerate (pa_cons (pv 0) pa_nil)) (pgT (K := K) (n := 2) rfl rfl (pgs_cons (pg_name (i := 3) sc_gone.nd rfl (by first | exact Or.inl rfl | exact Or.inr rfl)) (pgs_cons (pg_name (i := 4) sc_gone.nd rfl (by first | exact Or.inl rfl | exact Or.inr rfl)) pgs_nil)) (by rfl) (by rfl)) (pss_one (ps_if (pt_cmp (pc_isN (fldK (K := K) rfl (pv 2) rfl))) (pss_one (ps_expr (pe_meth (pv 2) T.k_Doing.cl T.Doing_step.me (ok_Doing_step T) (hr.mono (by omega)) T.Doing_step.b .nil pass0 (pa_cons (pv 3) (pa_cons (pv 4) pa_nil))))) pss_nil)))
    (pss_one (ps_ret (pe_meth0 (pv 2) T.k_Doing.cl T.Doing_outcome.me (ok_Doing_outcome T) (hr.mono (by omega)) T.Doing_outcome.b .nil pass0))))), ?_⟩
  refine ⟨_, rfl, fun x dx hx hdx hne => ?_⟩
  have hx' : (upd H dx (.own x)) x = none := by rw [upd_ne hne.symm]; exact hx
  have f0 : Fr [] H (upd (upd H dx (.own x)) x (.ins T.k_Doing.C dx [])) := (Fr.new hdx).trans (Fr.new hx')
  refine ⟨x, dx, pb, b, rfl, upd_same, f0.tup _ _ hpb, by omega, fun H1 ph pk pp pt f1 e1 e2 e3 e4 a1 => ⟨rfl, ?_⟩⟩
  have z1 := f0.fresh e1
  have z2 := f0.fresh e2
  have z3 := f0.fresh e3
  have z4 := f0.fresh e4
  have f01 : Fr [] H H1 := f0.own f1 hx
  have hN : ∀ a ∈ [x, ph, pk, pp, pt], a ∈ ([] : List Addr) ∨ H a = none := fun a ha => .inr (by
    simp only [List.mem_cons, List.not_mem_nil, or_false] at ha
    rcases ha with rfl | rfl | rfl | rfl | rfl <;> assumption)
  refine ⟨_, rfl, pa, us, rfl, SqT.of (f01.tup _ _ hp), for_it walk_enumT (fun i σ H' => ∃ o1 o2, σ = [some (.ref pa), some (.ref pb), some (.ref x), o1, o2] ∧ Fr [] H H' ∧ DoAt T.k_Doing.C H' x (.ref pb) ph pk pp pt (runD 0 (ds.take i) (newD b)))
    ⟨_, _, rfl, f01, a1⟩ (fun i σ H' _ ⟨_, _, _, f, _⟩ => SqT.of (f.tup _ _ hp)) ?_ ?_⟩
  · rintro i z σ H2 H2' hi ⟨o1, o2, rfl, f2, a2⟩ ⟨U, y, y2, rfl, hU, rfl, ey, ey2⟩
    obtain rfl : V.int (i : Nat) = y := Option.some.inj ey
    have f3 : Fr [] H (upd H2 U (.tup [.int (i : Nat), y2])) := f2.trans (Fr.new hU)
    have a3 := a2.keep (Fr.new (l := []) (o := .tup [.int (i : Nat), y2]) hU)
    refine ⟨U, _, rfl, SqT.of upd_same, rfl, _, _, rfl, _, _, rfl, rfl, ?_⟩
    obtain ⟨t, ht, hty⟩ := pair_right hus ey2
    have htk : runD 0 (ds.take (i + 1)) (newD b) = oneD i t (runD 0 (ds.take i) (newD b)) := by
      rw [List.take_add_one, ht]
      show runD 0 (ds.take i ++ [t]) _ = _
      rw [runD_snoc, Nat.zero_add, List.length_take, Nat.min_eq_left (by omega)]
    obtain ⟨dx3, hx3⟩ := a3.me
    have hbd := runD_bound (ds.take i) 0 (newD b) fun s hs => ho.2.2 s (List.mem_of_mem_take hs)
    have htl : (ds.take i).length ≤ 8 := by rw [List.length_take]; omega
    have e01 : (newD b).looks.length = 0 := rfl
    have e02 : (newD b).puts.length = 0 := rfl
    have e03 : (newD b).told.length = 0 := rfl
    refine ⟨_, rfl, x, _, dx3, _, _, rfl, hx3, T.k_Doing.cl, T.n_Doing_stopped, rfl, _, rfl, ?_⟩
    cases hst : (runD 0 (ds.take i) (newD b)).stop with
    | some n =>
      refine ifBN rfl ⟨_, _, rfl, f3, ?_⟩
      rw [htk, oneD, if_neg (by rw [hst]; simp)]
      exact a3
    | none =>
      refine ifB rfl ⟨_, rfl, x, dx3, _, rfl, hx3, rfl, _, rfl, _, rfl, x, _, ph, pk, pp, pt, _, i, t, y2, m, rfl, a3, hty.keep f3.tup, ho.2.2 t (List.mem_of_getElem? ht), ?_, h0, h12, by omega, by omega, by omega, hst, fun H' f' a' => ⟨_, _, rfl, f3.app f' hN, ?_⟩⟩
      · rw [runD_len]
        exact hm
      · rw [htk, oneD, if_pos hst]
        exact a'
  · rintro σ H2 ⟨o1, o2, rfl, f2, a2⟩
    rw [show us.length = ds.length from hlen.symm, List.take_length] at a2
    obtain ⟨dx2, hx2⟩ := a2.me
    exact ⟨_, rfl, x, dx2, _, rfl, hx2, rfl, x, _, ph, pk, pp, pt, _, b, rfl, a2, hb.keep f2.tup, fun H' v f g => q v H' (f2.trans f) g⟩

def spDoneIn : Sp := fun vs H Q _ => ∃ (ds : List S) (v : V) (b : List Int) (u : V) (m : Int), vs = [v, u] ∧ DAt H ds v ∧ BAt H b u ∧ okD m ds ∧ (b.length : Int) = m ∧ 0 < m ∧ m ≤ 12 ∧ ∀ p H' u' a, Fr [] H H' → H' p = some (.tup [u', a]) → BAt H' (gn ds b).1 u' → Q (.ref p) H'
theorem ok_done_in (T : Txt K w mg) : FnOk P w K mg base CX0 15 T.done_in.f T.done_in.fd ["deal", "board"] spDoneIn := by
  refine T.done_in.F.ok sc_done_in (fun vs H Q E h => ?_) (fun cdv A outer s H vs Q E hr h => ?_)
  · obtain ⟨ds, v, b, u, m, rfl, _⟩ := h
    rfl
  obtain ⟨ds, v, b, u, m, rfl, hd, hb, ho, hm, h0, h12, q⟩ := h
  refine ⟨_, (pss_one (ps_ret (pe_slice (slA (K := K) rfl) (pe_call (ok_gone T) (hr.mono (by omega)) rfl T.gone.m T.gone.F.kp T.gone.b .nil pass0 (pa_cons (pv 0) (pa_cons (pv 1) pa_nil))) po_none (po_some pe_int)))), ?_⟩
  refine ⟨_, rfl, _, rfl, ds, v, b, u, m, rfl, hd, hb, ho, hm, h0, h12, fun v' H1 f1 g => ?_⟩
  obtain ⟨p, u', a, kl, kp, rfl, hp, hu', _, _⟩ := g
  refine ⟨_, rfl, p, _, rfl, SqT.of hp, fun z => absurd z.2 (show ¬ ((2 : Nat) = 4) by decide), fun _ c hc => q c _ u' a (f1.trans (Fr.new hc)) ?_ (hu'.keep (Fr.new (l := []) hc).tup)⟩
  rw [upd_same]
  rfl

def spRising : Sp := fun vs H Q _ => ∃ (a : Addr) (ks : List Int), vs = [.ref a] ∧ H a = some (.lst (ks.map V.int)) ∧ ks.length ≤ 1000 ∧ (∀ k ∈ ks, 0 ≤ k ∧ k < 12) ∧
  ∀ p H' (ns : List Int), Fr [] H H' → H' p = some (.tup (ns.map V.int)) → ns.Pairwise (· < ·) → (∀ k, k ∈ ns ↔ k ∈ ks) → ns.length ≤ 12 → Q (.ref p) H'
theorem in12 {k : Int} (h : 0 ≤ k ∧ k < 12) : k ∈ ([0, 1, 2, 3, 4, 5, 6, 7, 8, 9, 10, 11] : List Int) := by
  simp only [List.mem_cons, List.not_mem_nil, or_false]
  omega
theorem ok_rising (T : Txt K w mg) : FnOk P w K mg base CX0 1 T.rising.f T.rising.fd ["keys"] spRising := by
  refine T.rising.F.ok sc_rising (fun vs H Q E h => ?_) (fun cdv A outer s H vs Q E hr h => ?_)
  · obtain ⟨a, ks, rfl, _⟩ := h
    rfl
  obtain ⟨a, ks, rfl, ha, hl, hk, q⟩ := h
  refine ⟨_, (pss_one (ps_ret (pe_callTy (tupK (K := K) rfl) (by rfl) T.z_tuple bt_tuple (pa_cons (pe_callB (sortedSK (K := K) (w := w) rfl rfl rfl) (by rfl) T.z_sorted bt_sorted (pa_cons (pe_callTy (setK (K := K) (w := w) rfl rfl rfl) (by rfl) T.z_set bt_set (pa_cons (pv 0) pa_nil)) pa_nil)) pa_nil)))), ?_⟩
  refine ⟨_, rfl, a, ks, rfl, .inl (SqL.of ha), hl, fun p c hc hp => ?_⟩
  have hc12 : c ≤ 12 := hc _ fun k h => in12 (hk k h)
  have f1 : Fr [] H (upd H p (SetO w p (fun j => decide (j ∈ ks)) c)) := Fr.new hp
  refine ⟨p, _, c, rfl, upd_same, by omega, fun ns l hns hin hnl hl' => ⟨l, _, rfl, .inl ⟨SqL.of upd_same, fun t ht => ?_⟩⟩⟩
  have f2 := f1.trans (Fr.new (l := []) (o := .lst (ns.map V.int)) hl')
  exact q t _ ns (f2.trans (Fr.new ht)) upd_same hns (fun k => by rw [hin, decide_eq_true_iff]) (by omega)

def spTouched : Sp := fun vs H Q _ => ∃ (ds : List S) (v : V) (b : List Int) (u : V) (m : Int), vs = [v, u] ∧ DAt H ds v ∧ BAt H b u ∧ okD m ds ∧ (b.length : Int) = m ∧ 0 < m ∧ m ≤ 12 ∧
  ∀ p H' a1 a2 (ls ps : List Int), Fr [] H H' → H' p = some (.tup [.ref a1, .ref a2]) → H' a1 = some (.tup (ls.map V.int)) → H' a2 = some (.tup (ps.map V.int)) → (∀ k, k ∈ ls ↔ k ∈ (gn ds b).2.2.1) → (∀ k, k ∈ ps ↔ k ∈ (gn ds b).2.2.2) → ls.length ≤ 12 → ps.length ≤ 12 → Q (.ref p) H'
theorem ok_touched_in (T : Txt K w mg) : FnOk P w K mg base CX0 15 T.touched_in.f T.touched_in.fd ["deal", "board"] spTouched := by
  refine T.touched_in.F.ok sc_touched_in (fun vs H Q E h => ?_) (fun cdv A outer s H vs Q E hr h => ?_)
  · obtain ⟨ds, v, b, u, m, rfl, _⟩ := h
    rfl
  obtain ⟨ds, v, b, u, m, rfl, hd, hb, ho, hm, h0, h12, q⟩ := h
  refine ⟨_, (pss_cons (ps_asg (pe_call (ok_gone T) (hr.mono (by omega)) rfl T.gone.m T.gone.F.kp T.gone.b .nil pass0 (pa_cons (pv 0) (pa_cons (pv 1) pa_nil))) (pgT (K := K) (n := 4) rfl rfl (pgs_cons (pg_name (i := 2) sc_touched_in.nd rfl (by first | exact Or.inl rfl | exact Or.inr rfl)) (pgs_cons (pg_name (i := 3) sc_touched_in.nd rfl (by first | exact Or.inl rfl | exact Or.inr rfl)) (pgs_cons (pg_name (i := 4) sc_touched_in.nd rfl (by first | exact Or.inl rfl | exact Or.inr rfl)) (pgs_cons (pg_name (i := 5) sc_touched_in.nd rfl (by first | exact Or.inl rfl | exact Or.inr rfl)) pgs_nil)))) (by rfl) (by rfl)))
    (pss_one (ps_ret (pe_tup (pa_cons (pe_call (ok_rising T) (hr.mono (by omega)) rfl T.rising.m T.rising.F.kp T.rising.b .nil pass0 (pa_cons (pv 4) pa_nil)) (pa_cons (pe_call (ok_rising T) (hr.mono (by omega)) rfl T.rising.m T.rising.F.kp T.rising.b .nil pass0 (pa_cons (pv 5) pa_nil)) pa_nil)))))), ?_⟩
  refine ⟨_, rfl, _, rfl, ds, v, b, u, m, rfl, hd, hb, ho, hm, h0, h12, fun v' H1 f1 g => ?_⟩
  obtain ⟨p, u', a, kl, kp, rfl, hp, hu', hkl, hkp⟩ := g
  obtain ⟨g1, g2⟩ := gn_bound (b := b) ho
  obtain ⟨g3, g4⟩ := gn_keys ho hm h0
  refine ⟨p, _, rfl, SqT.of hp, rfl, _, _, rfl, _, _, rfl, _, _, rfl, _, _, rfl, rfl, ?_⟩
  refine ⟨_, rfl, kl, _, rfl, hkl, by omega, fun k hk => by have := g3 k hk; omega, fun a1 H2 ls f2 e1 _ i1 l1 => ?_⟩
  refine ⟨_, rfl, kp, _, rfl, f2.at_ _ _ hkp (by simp), by omega, fun k hk => by have := g4 k hk; omega, fun a2 H3 ps f3 e2 _ i2 l2 => ?_⟩
  refine ⟨line_of (by simp), fun c hc => ?_⟩
  have f4 := Fr.new (l := []) (o := .tup [.ref a1, .ref a2]) hc
  exact q c _ a1 a2 ls ps (((f1.trans f2).trans f3).trans f4) upd_same (f4.tup _ _ (f3.tup _ _ e1)) (f4.tup _ _ e2) i1 i2 l1 l2

/-! ### laid.py -/
def spKey : Sp := fun vs H Q _ => ∃ (m k : Int), vs = [.int m, .int k] ∧ 0 ≤ k ∧ k < m ∧ Q (.bl true) H
theorem ok_is_key (T : Txt K w mg) : FnOk P w K mg base CX0 1 T.is_key.f T.is_key.fd ["keys", "thing"] spKey := by
  refine T.is_key.F.ok sc_is_key (fun vs H Q E h => ?_) (fun cdv A outer s H vs Q E hr h => ?_)
  · obtain ⟨m, k, rfl, _⟩ := h
    rfl
  obtain ⟨m, k, rfl, h1, h2, q⟩ := h
  refine ⟨_, (pss_one (ps_ret (pe_and (pe_callB call_is2 (by rfl) T.z_isinstance bt_isinstance (pa_cons (pv 1) (pa_cons (pe_bltn (v := .ty "int") rfl T.z_int bt_int rfl) pa_nil))) (pe_and (pe_not (pe_callB call_is2 (by rfl) T.z_isinstance bt_isinstance (pa_cons (pv 1) (pa_cons (pe_bltn (v := .ty "bool") rfl T.z_bool bt_bool rfl) pa_nil)))) (pe_one (pe_chain op_le op_lt pe_int (pv 1) (pv 0))))))), ?_⟩
  refine ⟨_, rfl, _, _, _, rfl, .ii k, _, rfl, iteT ?_⟩
  refine ⟨_, rfl, _, _, _, rfl, .ib k, _, rfl, _, rfl, iteT ?_⟩
  exact ⟨_, rfl, _, _, rfl, rfl, _, rfl, ifD h1 ⟨_, rfl, _, _, rfl, rfl, qD (Q := Q) h2 q⟩⟩
/-- keys as they may be -/
def okK (m : Int) (ks : List Int) : Prop := 1 ≤ ks.length ∧ ks.length ≤ 12 ∧ (∀ k ∈ ks, 0 ≤ k ∧ k < m) ∧ ks.Pairwise (· < ·)
def spKeys : Sp := fun vs H Q _ => ∃ (m : Int) (ks : List Int) (v : V), vs = [.int m, v] ∧ BAt H ks v ∧ okK m ks ∧ Ret H Q (.bl true)
theorem ok_are_keys (T : Txt K w mg) : FnOk P w K mg base CX0 2 T.are_keys.f T.are_keys.fd ["keys", "thing"] spKeys := by
  refine T.are_keys.F.ok sc_are_keys (fun vs H Q E h => ?_) (fun cdv A outer s H vs Q E hr h => ?_)
  · obtain ⟨m, ks, v, rfl, _⟩ := h
    rfl
  obtain ⟨m, ks, v, rfl, ⟨a, rfl, ha⟩, ⟨h1, h2, h3, h4⟩, q⟩ := h
  refine ⟨_, (pss_cons (ps_if (PW.pt (pw_or (pt_not (pt_val (pe_callB call_is2 (by rfl) T.z_isinstance bt_isinstance (pa_cons (pv 1) (pa_cons (pe_bltn (v := .ty "tuple") rfl T.z_tuple bt_tuple rfl) pa_nil))))) (pw_or (pt_cmpR op_eq (pe_callB (lenK (K := K) rfl) (by rfl) T.z_len bt_len (pa_cons (pv 1) pa_nil)) pe_int (nomark _)) (pw_or1 (pt_not (pt_val (pe_callB (allK (K := K) rfl rfl) (by rfl) T.z_all bt_all (pa_cons (pe_lc rfl sc_are_keys.nd (piT (K := K) rfl (pv 1)) (blkOk_by (own := [("key", 2)]) (N := ["keys", "thing", "key", "at"]) (sc := defScope s_are_keys) (by decide +kernel)) (fun _ _ _ _ _ => (pg_name (i := 2) sc_are_keys.nd rfl (by first | exact Or.inl rfl | exact Or.inr rfl))) (fun _ _ _ _ _ => pts_nil) (fun _ _ _ _ _ => (pe_call (ok_is_key T) (hr.mono (by omega)) rfl T.is_key.m T.is_key.F.kp T.is_key.b .nil pass0 (pa_cons (pv 0) (pa_cons (pv 2) pa_nil))))) pa_nil)))))))) (pss_one (ps_ret pe_bl)) pss_nil)
    (pss_one (ps_ret (pe_callB (allK (K := K) rfl rfl) (by rfl) T.z_all bt_all (pa_cons (pe_lc rfl sc_are_keys.nd (pi_range1 rfl T.z_range (pa_cons (pe_op op_sub (pe_callB (lenK (K := K) rfl) (by rfl) T.z_len bt_len (pa_cons (pv 1) pa_nil)) pe_int) pa_nil)) (blkOk_by (own := [("at", 3)]) (N := ["keys", "thing", "key", "at"]) (sc := defScope s_are_keys) (by decide +kernel)) (fun _ _ _ _ _ => (pg_name (i := 3) sc_are_keys.nd rfl (by first | exact Or.inl rfl | exact Or.inr rfl))) (fun _ _ _ _ _ => pts_nil) (fun _ _ _ _ _ => (pe_cmpR op_lt (pe_ix (ixT (K := K) rfl) (pv 1) (pv 3) (fun _ _ => rfl)) (pe_ix (ixT (K := K) rfl) (pv 1) (pe_op op_add (pv 3) pe_int) (fun _ _ => rfl)) (nomark _)))) pa_nil))))), ?_⟩
  refine ⟨_, rfl, _, _, _, rfl, .tt ha, _, rfl, iteF ?_⟩
  refine ⟨_, rfl, a, _, rfl, .inr (SqT.of ha), rfl, _, rfl, ifEqN (by rw [List.length_map]; omega) ?_⟩
  refine ⟨_, rfl, a, rfl, ⟨_, SqT.of ha⟩, fun D hD => lc_map walk_tup hD (fun _ => V.bl true) (by rw [List.length_map]; omega) (fun H' f => SqT.of (f.tup _ _ ha)) (fun _ => rfl) (fun x hx H1 f1 R r => ?_) (fun H1 f1 hl => ?_)⟩
  · obtain ⟨k, hk, rfl⟩ := List.mem_map.mp hx
    exact ⟨_, rfl, _, rfl, m, k, rfl, (h3 k hk).1, (h3 k hk).2, r H1 (Fr.refl _ _)⟩
  · rw [all_true] at hl
    refine ⟨D, _, rfl, SqL.of hl, ?_⟩
    rw [rep_all]
    refine ⟨_, rfl, iteF ?_⟩
    refine ⟨_, rfl, a, _, rfl, .inr (SqT.of (f1.tup _ _ ha)), _, _, rfl, rfl, _, rfl, by rw [List.length_map]; omega, by rw [List.length_map]; omega, fun D2 hD2 => ?_⟩
    refine lc_rng hD2 (fun _ => true) (fun _ => V.bl true) (by rw [List.length_map]; omega) (fun _ => rfl) (fun _ _ => evt_yes) (fun i hi _ H2 f2 R r => ?_) (fun H2 f2 hl2 => ?_)
    · rw [List.length_map] at hi
      have hi' : i + 1 < ks.length := by omega
      have ht := (f1.trans f2).tup _ _ ha
      refine ⟨_, rfl, _, rfl, a, _, _, _, rfl, rfl, SqT.of ht, atI_int (k := (i : Int)) (by omega) (by omega), _, rfl, _, rfl, _, _, rfl, rfl, a, _, _, _, rfl, rfl, SqT.of ht, atI_int (k := (i : Int) + 1) (by omega) (by omega), _, _, rfl, rfl, qD (Q := R) ?_ (r H2 (Fr.refl _ _))⟩
      have e1 : ((i : Int)).toNat = i := by omega
      have e2 : ((i : Int) + 1).toNat = i + 1 := by omega
      rw [e1, e2, List.getD_eq_getElem?_getD, List.getD_eq_getElem?_getD, List.getElem?_eq_getElem hi', List.getElem?_eq_getElem (by omega)]
      exact List.pairwise_iff_getElem.mp h4 i (i + 1) (by omega) hi' (by omega)
    · rw [given_all] at hl2
      refine ⟨D2, List.replicate _ true, rfl, SqL.of (by rw [hl2, List.map_replicate, List.map_const', List.length_range]), ?_⟩
      rw [rep_all]
      exact q _ (f1.trans f2)
end
end RL

/-! laid.py: laid deals, rows. -/
namespace RL
open PySem L2 RlR

/-- a laid deal as it may be -/
def okL (m : Int) (l : Laid) : Prop := okD m l.1 ∧ okK m l.2
def okR (m : Int) (r : List Laid) : Prop := r.length ≤ 40 ∧ ∀ l ∈ r, okL m l
theorem cat_any {K : PySem.W.Frag} {H : Hp} {a b : Addr} {xs ys : List V} {Q : VK} (ha : SqT K H a xs) (hb : SqT K H b ys) (hl : xs.length + ys.length ≤ 90000) (q : ∀ c H', Fr [] H H' → SqT K H' c (xs ++ ys) → Q (.ref c) H') : rCatA K (.ref a) (.ref b) H Q := by
  refine ⟨a, b, xs, ys, rfl, rfl, ha, hb, line_of (by omega), fun e => ?_, fun _ e => ?_, fun _ _ p hp => ?_⟩
  · subst e
    exact q b H (Fr.refl _ _) hb
  · subst e
    rw [List.append_nil] at q
    exact q a H (Fr.refl _ _) ha
  · exact q p _ (Fr.new hp) (SqT.of upd_same)
theorem atI_last {xs : List V} {y : V} : atI (xs ++ [y]) (-1) = some y := by
  have h : ixN (xs.length + 1) (-1) = some xs.length := by
    unfold ixN
    rw [if_neg (by omega), if_pos (by omega)]
    congr 1
    omega
  unfold atI
  rw [show (xs ++ [y]).length = xs.length + 1 by simp, h]
  simp

section
variable {P : Program} {w : World} {K : PySem.W.Frag} {mg : Str → Option Value} {base : Heap}

def spLaid : Sp := fun vs H Q _ => ∃ (m : Int) (l : Laid) (v : V), vs = [.int m, v] ∧ LAt H l v ∧ okL m l ∧ m ≤ 12 ∧ Ret H Q (.bl true)
theorem ok_is_laid (T : Txt K w mg) : FnOk P w K mg base CX0 18 T.is_laid.f T.is_laid.fd ["keys", "thing"] spLaid := by
  refine T.is_laid.F.ok sc_is_laid (fun vs H Q E h => ?_) (fun cdv A outer s H vs Q E hr h => ?_)
  · obtain ⟨m, l, v, rfl, _⟩ := h
    rfl
  obtain ⟨m, l, v, rfl, ⟨a, u, x, rfl, ha, hd, hk⟩, ho, hm, q⟩ := h
  refine ⟨_, (pss_cons (ps_if (PW.pt (pw_or (pt_not (pt_val (pe_callB call_is2 (by rfl) T.z_isinstance bt_isinstance (pa_cons (pv 1) (pa_cons (pe_bltn (v := .ty "tuple") rfl T.z_tuple bt_tuple rfl) pa_nil))))) (pw_or1 (pt_cmpR op_ne (pe_callB (lenK (K := K) rfl) (by rfl) T.z_len bt_len (pa_cons (pv 1) pa_nil)) pe_int (nomark _))))) (pss_one (ps_ret pe_bl)) pss_nil)
    (pss_one (ps_ret (pe_and (pe_call (ok_is_deal T) (hr.mono (by omega)) rfl T.is_deal.m T.is_deal.F.kp T.is_deal.b .nil pass0 (pa_cons (pv 0) (pa_cons (pe_ix (ixT (K := K) rfl) (pv 1) pe_int (fun _ _ => rfl)) pa_nil))) (pe_one (pe_call (ok_are_keys T) (hr.mono (by omega)) rfl T.are_keys.m T.are_keys.F.kp T.are_keys.b .nil pass0 (pa_cons (pv 0) (pa_cons (pe_ix (ixT (K := K) rfl) (pv 1) pe_int (fun _ _ => rfl)) pa_nil)))))))), ?_⟩
  refine ⟨_, rfl, _, _, _, rfl, .tt ha, _, rfl, iteF ?_⟩
  refine ⟨_, rfl, a, _, rfl, .inr (SqT.of ha), rfl, _, rfl, ifNeN rfl ?_⟩
  refine ⟨_, rfl, _, rfl, a, _, _, _, rfl, rfl, SqT.of ha, at0, l.1, u, m, rfl, hd, ho.1, hm, fun H1 f1 => ⟨_, rfl, iteT ?_⟩⟩
  exact ⟨_, rfl, _, rfl, a, _, _, _, rfl, rfl, SqT.of (f1.tup _ _ ha), at1, m, l.2, x, rfl, hk.keep f1.tup, ho.2, fun H2 f2 => q H2 (f1.trans f2)⟩

def spLaidRow (r0 : V) : Sp := fun vs H Q _ => ∃ (m : Int) (r : List Laid) (v : V), vs = [.int m, v] ∧ RAt H r v ∧ okR m r ∧ m ≤ 12 ∧ Ret H Q r0
theorem ok_is_laid_row (T : Txt K w mg) : FnOk P w K mg base CX0 19 T.is_laid_row.f T.is_laid_row.fd ["keys", "thing"] (spLaidRow (.bl true)) := by
  refine T.is_laid_row.F.ok sc_is_laid_row (fun vs H Q E h => ?_) (fun cdv A outer s H vs Q E hr h => ?_)
  · obtain ⟨m, r, v, rfl, _⟩ := h
    rfl
  obtain ⟨m, r, v, rfl, ⟨a, us, rfl, ha, hus⟩, ⟨h40, ho⟩, hm, q⟩ := h
  have hl := hus.length
  refine ⟨_, (pss_cons (ps_if (PW.pt (pw_or (pt_not (pt_val (pe_callB call_is2 (by rfl) T.z_isinstance bt_isinstance (pa_cons (pv 1) (pa_cons (pe_bltn (v := .ty "tuple") rfl T.z_tuple bt_tuple rfl) pa_nil))))) (pw_or1 (pt_cmpR op_gt (pe_callB (lenK (K := K) rfl) (by rfl) T.z_len bt_len (pa_cons (pv 1) pa_nil)) (pe_gint rfl T.c_MOST_LAID) (nomark _))))) (pss_one (ps_ret pe_bl)) pss_nil)
    (pss_one (ps_ret (pe_callB (allK (K := K) rfl rfl) (by rfl) T.z_all bt_all (pa_cons (pe_lc rfl sc_is_laid_row.nd (piT (K := K) rfl (pv 1)) (blkOk_by (own := [("laid", 2)]) (N := ["keys", "thing", "laid"]) (sc := defScope s_is_laid_row) (by decide +kernel)) (fun _ _ _ _ _ => (pg_name (i := 2) sc_is_laid_row.nd rfl (by first | exact Or.inl rfl | exact Or.inr rfl))) (fun _ _ _ _ _ => pts_nil) (fun _ _ _ _ _ => (pe_call (ok_is_laid T) (hr.mono (by omega)) rfl T.is_laid.m T.is_laid.F.kp T.is_laid.b .nil pass0 (pa_cons (pv 0) (pa_cons (pv 2) pa_nil))))) pa_nil))))), ?_⟩
  refine ⟨_, rfl, _, _, _, rfl, .tt ha, _, rfl, iteF ?_⟩
  refine ⟨_, rfl, a, _, rfl, .inr (SqT.of ha), _, _, rfl, rfl, _, rfl, ifN (by omega) ?_⟩
  refine ⟨_, rfl, a, rfl, ⟨_, SqT.of ha⟩, fun D hD => lc_map walk_tup hD (fun _ => V.bl true) (by omega) (fun H' f => SqT.of (f.tup _ _ ha)) (fun _ => rfl) (fun x hx H1 f1 R r' => ?_) (fun H' f hl' => ?_)⟩
  · obtain ⟨l, hl', hx'⟩ := pair_left hus hx
    exact ⟨_, rfl, _, rfl, m, l, x, rfl, hx'.keep f1.tup, ho l hl', hm, r'⟩
  · rw [all_true] at hl'
    refine ⟨D, _, rfl, SqL.of hl', ?_⟩
    rw [rep_all]
    exact q _ f
def spNeedRow : Sp := fun vs H Q _ => ∃ (m : Int) (r : List Laid) (v : V), vs = [.int m, v] ∧ RAt H r v ∧ okR m r ∧ 1 ≤ m ∧ m ≤ 12 ∧ Ret H Q .non
theorem ok_need_laid_row (T : Txt K w mg) : FnOk P w K mg base CX0 20 T.need_laid_row.f T.need_laid_row.fd ["keys", "row"] spNeedRow := by
  refine T.need_laid_row.F.ok sc_need_laid_row (fun vs H Q E h => ?_) (fun cdv A outer s H vs Q E hr h => ?_)
  · obtain ⟨m, r, v, rfl, _⟩ := h
    rfl
  obtain ⟨m, r, v, rfl, ha, ho, h1, hm, q⟩ := h
  refine ⟨_, (pss_cons (ps_if (PW.pt (pw_or (pt_not (pt_val (pe_callB call_is2 (by rfl) T.z_isinstance bt_isinstance (pa_cons (pv 0) (pa_cons (pe_bltn (v := .ty "int") rfl T.z_int bt_int rfl) pa_nil))))) (pw_or (pt_val (pe_callB call_is2 (by rfl) T.z_isinstance bt_isinstance (pa_cons (pv 0) (pa_cons (pe_bltn (v := .ty "bool") rfl T.z_bool bt_bool rfl) pa_nil)))) (pw_or1 (pt_not (pt_chain op_le op_le pe_int (pv 0) (pe_gint rfl T.c_MOST_KEYS_laid))))))) (pss_one ps_never) pss_nil)
    (pss_one (ps_if (pt_not (pt_val (pe_call (ok_is_laid_row T) (hr.mono (by omega)) rfl T.is_laid_row.m T.is_laid_row.F.kp T.is_laid_row.b .nil pass0 (pa_cons (pv 0) (pa_cons (pv 1) pa_nil))))) (pss_one ps_never) pss_nil))), ?_⟩
  refine ⟨_, rfl, _, _, _, rfl, .ii m, _, rfl, iteF ?_⟩
  refine ⟨_, rfl, _, _, _, rfl, .ib m, _, rfl, iteF ?_⟩
  refine ⟨_, rfl, _, _, rfl, rfl, _, rfl, ifD h1 ⟨_, _, rfl, rfl, _, rfl, ?_⟩⟩
  rw [decide_eq_true hm]
  refine iteF ⟨_, rfl, _, rfl, m, r, v, rfl, ha, ho, hm, fun H1 f1 => ⟨_, rfl, iteF (q H1 f1)⟩⟩

def spDoneLaid : Sp := fun vs H Q _ => ∃ (l : Laid) (v : V) (b : List Int) (u : V) (m : Int), vs = [v, u] ∧ LAt H l v ∧ BAt H b u ∧ okL m l ∧ (b.length : Int) = m ∧ 0 < m ∧ m ≤ 12 ∧ ∀ p H' u' a, Fr [] H H' → H' p = some (.tup [u', a]) → BAt H' (dl l b).1 u' → Q (.ref p) H'
theorem ok_done_laid_in (T : Txt K w mg) : FnOk P w K mg base CX0 16 T.done_laid_in.f T.done_laid_in.fd ["laid", "board"] spDoneLaid := by
  refine T.done_laid_in.F.ok sc_done_laid_in (fun vs H Q E h => ?_) (fun cdv A outer s H vs Q E hr h => ?_)
  · obtain ⟨l, v, b, u, m, rfl, _⟩ := h
    rfl
  obtain ⟨l, v, b, u, m, rfl, ⟨a, x1, x2, rfl, ha, hd, ⟨ka, rfl, hk⟩⟩, hb, ho, hm, h0, h12, q⟩ := h
  refine ⟨_, (pss_cons (ps_asg (pv 0) (pgT (K := K) (n := 2) rfl rfl (pgs_cons (pg_name (i := 2) sc_done_laid_in.nd rfl (by first | exact Or.inl rfl | exact Or.inr rfl)) (pgs_cons (pg_name (i := 3) sc_done_laid_in.nd rfl (by first | exact Or.inl rfl | exact Or.inr rfl)) pgs_nil)) (by rfl) (by rfl)))
    (pss_cons (ps_asg (pe_call (ok_touched_in T) (hr.mono (by omega)) rfl T.touched_in.m T.touched_in.F.kp T.touched_in.b .nil pass0 (pa_cons (pv 2) (pa_cons (pv 1) pa_nil))) (pgT (K := K) (n := 2) rfl rfl (pgs_cons (pg_name (i := 4) sc_done_laid_in.nd rfl (by first | exact Or.inl rfl | exact Or.inr rfl)) (pgs_cons (pg_name (i := 5) sc_done_laid_in.nd rfl (by first | exact Or.inl rfl | exact Or.inr rfl)) pgs_nil)) (by rfl) (by rfl)))
    (pss_cons (ps_if (pt_not (pt_val (pe_callB (allK (K := K) rfl rfl) (by rfl) T.z_all bt_all (pa_cons (pe_lc rfl sc_done_laid_in.nd (piT (K := K) rfl (pe_op (catA (K := K) rfl) (pv 4) (pv 5))) (blkOk_by (own := [("key", 6)]) (N := ["laid", "board", "deal", "keys", "looks", "puts", "key"]) (sc := defScope s_done_laid_in) (by decide +kernel)) (fun _ _ _ _ _ => (pg_name (i := 6) sc_done_laid_in.nd rfl (by first | exact Or.inl rfl | exact Or.inr rfl))) (fun _ _ _ _ _ => pts_nil) (fun _ _ _ _ _ => (pe_cmpR (opIn (K := K) rfl) (pv 6) (pv 3) (by rfl)))) pa_nil)))) (pss_one (ps_ret (pe_tup (pa_cons (pv 1) (pa_cons (pe_glob (v := .ref T.c_STRANGE.a) rfl T.c_STRANGE.m rfl) pa_nil))))) pss_nil)
    (pss_one (ps_ret (pe_call (ok_done_in T) (hr.mono (by omega)) rfl T.done_in.m T.done_in.F.kp T.done_in.b .nil pass0 (pa_cons (pv 2) (pa_cons (pv 1) pa_nil)))))))), ?_⟩
  refine ⟨_, rfl, a, _, rfl, SqT.of ha, rfl, _, _, rfl, _, _, rfl, rfl, ?_⟩
  refine ⟨_, rfl, _, rfl, l.1, x1, b, u, m, rfl, hd, hb, ho.1, hm, h0, h12, fun p H1 a1 a2 ls ps f1 hp h1 h2 i1 i2 n1 n2 => ?_⟩
  refine ⟨p, _, rfl, SqT.of hp, rfl, _, _, rfl, _, _, rfl, rfl, ?_⟩
  refine ⟨_, rfl, _, rfl, cat_any (SqT.of h1) (SqT.of h2) (by rw [List.length_map, List.length_map]; omega) fun c H2 f2 hc => ?_⟩
  rw [← List.map_append] at hc
  have hk2 := (f1.trans f2).tup _ _ hk
  refine ⟨c, rfl, ⟨_, hc⟩, fun D hD => lc_map (xs := (ls ++ ps).map V.int) walk_tup hD (fun y => match y with | .int k => V.bl (decide (k ∈ l.2)) | _ => .non) (by rw [List.length_map, List.length_append]; omega) (fun H' f => ?_) (fun _ => rfl) (fun y hy H3 f3 R r => ?_) (fun H3 f3 hl => ?_)⟩
  · rcases hc with (hc | ⟨o, hc⟩) | hc
    · exact .inl (.inl (f.at_ _ _ hc (by simp)))
    · exact .inl (.inr ⟨o, f.at_ _ _ hc (by simp)⟩)
    · exact .inr hc
  · obtain ⟨k, hk', rfl⟩ := List.mem_map.mp hy
    refine ⟨_, rfl, _, rfl, ka, _, rfl, .inr (SqT.of (f3.tup _ _ hk2)), rfl, flat_ints _, ?_⟩
    show R (.bl (inV (.int k) (l.2.map V.int))) H3
    rw [inV_int]
    exact r H3 (Fr.refl _ _)
  · have e : List.map (fun y => match y with | V.int k => V.bl (decide (k ∈ l.2)) | _ => .non) ((ls ++ ps).map V.int) = ((ls ++ ps).map fun k => decide (k ∈ l.2)).map V.bl := by
      rw [List.map_map, List.map_map]
      rfl
    rw [e] at hl
    refine ⟨D, _, rfl, SqL.of hl, _, rfl, ?_⟩
    have f03 : Fr [] H H3 := (f1.trans f2).trans f3
    have hall : ((ls ++ ps).map fun k => decide (k ∈ l.2)).all id = inAll l.2 ((gn l.1 b).2.2.1 ++ (gn l.1 b).2.2.2) := by
      rw [Bool.eq_iff_iff, inAll_iff, List.all_map, List.all_eq_true]
      constructor
      · intro h k hk
        rw [List.mem_append, ← i1, ← i2, ← List.mem_append] at hk
        exact of_decide_eq_true (h k hk)
      · intro h k hk
        rw [List.mem_append, i1, i2, ← List.mem_append] at hk
        exact decide_eq_true (h k hk)
    rw [hall]
    by_cases hz : inAll l.2 ((gn l.1 b).2.2.1 ++ (gn l.1 b).2.2.2) = true
    · rw [hz]
      refine iteF ⟨_, rfl, _, rfl, l.1, x1, b, u, m, rfl, hd.keep f03.tup, hb.keep f03.tup, ho.1, hm, h0, h12, fun p' H4 u' a' f4 hp' hu' => q p' H4 u' a' (f03.trans f4) hp' ?_⟩
      unfold dl
      rw [if_pos hz]
      exact hu'
    · rw [Bool.not_eq_true] at hz
      rw [hz]
      refine iteT ⟨_, rfl, line_of (by simp), fun p' hp' => q p' _ u _ (f03.trans (Fr.new hp')) upd_same ?_⟩
      unfold dl
      rw [if_neg (by rw [hz]; simp)]
      exact hb.keep (f03.trans (Fr.new hp')).tup

def spRunIn : Sp := fun vs H Q _ => ∃ (r : List Laid) (v : V) (b : List Int) (u : V) (m : Int), vs = [u, v] ∧ RAt H r v ∧ BAt H b u ∧ okR m r ∧ (b.length : Int) = m ∧ 0 < m ∧ m ≤ 12 ∧
  ∀ p H' bl al us u', Fr [] H H' → H' p = some (.tup [.ref bl, .ref al]) → H' bl = some (.lst (us ++ [u'])) → BAt H' (lastB b r) u' → Q (.ref p) H'
theorem ok_run_laid_in (T : Txt K w mg) : FnOk P w K mg base CX0 17 T.run_laid_in.f T.run_laid_in.fd ["board", "row"] spRunIn := by
  refine T.run_laid_in.F.ok sc_run_laid_in (fun vs H Q E h => ?_) (fun cdv A outer s H vs Q E hr h => ?_)
  · obtain ⟨r, v, b, u, m, rfl, _⟩ := h
    rfl
  obtain ⟨r, v, b, u, m, rfl, ⟨a, ws, rfl, ha, hws⟩, hb, ⟨h40, ho⟩, hm, h0, h12, q⟩ := h
  have hlen := hws.length
  refine ⟨_, (pss_cons (ps_set (i := 2) sc_run_laid_in.nd rfl (by first | exact Or.inl rfl | exact Or.inr rfl) (pe_lst (pa_cons (pv 0) pa_nil)))
    (pss_cons (ps_set (i := 3) sc_run_laid_in.nd rfl (by first | exact Or.inl rfl | exact Or.inr rfl) (pe_lst pa_nil))
    (pss_cons (ps_for PassesOwn.never rfl (piT (K := K) rfl (pv 1)) (pg_name (i := 4) sc_run_laid_in.nd rfl (by first | exact Or.inl rfl | exact Or.inr rfl)) (pss_cons (ps_asg (pe_call (ok_done_laid_in T) (hr.mono (by omega)) rfl T.done_laid_in.m T.done_laid_in.F.kp T.done_laid_in.b .nil pass0 (pa_cons (pv 4) (pa_cons (pv 0) pa_nil))) (pgT (K := K) (n := 2) rfl rfl (pgs_cons (pg_name (i := 0) sc_run_laid_in.nd rfl (by first | exact Or.inl rfl | exact Or.inr rfl)) (pgs_cons (pg_name (i := 5) sc_run_laid_in.nd rfl (by first | exact Or.inl rfl | exact Or.inr rfl)) pgs_nil)) (by rfl) (by rfl)))
    (pss_cons (ps_expr (pe_bm PySem.F.plainAttrs_list PySem.F.slot_list_append PySem.F.type_list_append mt_append (pv 2) (pa_cons (pv 0) pa_nil)))
    (pss_one (ps_expr (pe_bm PySem.F.plainAttrs_list PySem.F.slot_list_append PySem.F.type_list_append mt_append (pv 3) (pa_cons (pv 5) pa_nil)))))))
    (pss_one (ps_ret (pe_tup (pa_cons (pv 2) (pa_cons (pv 3) pa_nil)))))))), ?_⟩
  refine ⟨_, rfl, line_of (by simp), fun B hB => ⟨Nat.zero_le _, fun N hN => ?_⟩⟩
  have f1 : Fr [] H (upd H B (.lst [u])) := Fr.new hB
  have f2 := f1.trans (Fr.new (l := []) (o := .lst []) hN)
  have zN := f1.fresh hN
  have neBN : B ≠ N := ne_of_none upd_same hN
  refine ⟨_, rfl, a, rfl, ⟨_, SqT.of (f2.tup _ _ ha)⟩, for_it walk_tup (fun i σ H' => ∃ ub o1 o2 us zs, σ = [some ub, some (.ref a), some (.ref B), some (.ref N), o1, o2] ∧ Fr [] H H' ∧ BAt H' (bat b r i) ub ∧ H' B = some (.lst (us ++ [ub])) ∧ us.length = i ∧ H' N = some (.lst zs) ∧ zs.length = i)
    ⟨u, _, _, [], [], rfl, f2, by rw [bat_zero]; exact hb.keep f2.tup, (Fr.new (l := []) hN).at_ _ _ upd_same (by simp), rfl, upd_same, rfl⟩ (fun i σ H' _ ⟨_, _, _, _, _, _, f, _⟩ => SqT.of (f.tup _ _ ha)) ?_ ?_⟩
  · rintro i x σ H3 H3' hi ⟨ub, o1, o2, us, zs, rfl, f3, hub, h3, hul, h4, hzl⟩ ⟨rfl, hx⟩
    obtain ⟨l, hl, hlx⟩ := pair_right hws hx
    have hbl := bat_len r b i (by omega)
    refine ⟨_, rfl, _, rfl, l, x, bat b r i, ub, m, rfl, hlx.keep f3.tup, hub, ho l (List.mem_of_getElem? hl), by rw [hbl]; exact hm, h0, h12, fun p H4 u' an f4 hp hu' => ?_⟩
    have h5 := f4.at_ _ _ h3 (by simp)
    have h6 := f4.at_ _ _ h4 (by simp)
    refine ⟨p, _, rfl, SqT.of hp, rfl, _, _, rfl, _, _, rfl, rfl, ?_⟩
    refine ⟨_, rfl, .inl ⟨rfl, _, SqL.of h5⟩, _, rfl, B, _, _, rfl, rfl, h5, line_lt (by rw [List.length_append, List.length_singleton]; omega), ?_⟩
    have f5 : Fr [B] H4 (upd H4 B (.lst (us ++ [ub] ++ [u']))) := Fr.set h5 trivial (by simp)
    have h7 := f5.at_ _ _ h6 (by simpa using neBN.symm)
    refine ⟨_, rfl, .inl ⟨rfl, _, SqL.of h7⟩, _, rfl, N, _, _, rfl, rfl, h7, line_lt (by omega), ?_⟩
    have f6 : Fr [N] _ (upd (upd H4 B (.lst (us ++ [ub] ++ [u']))) N (.lst (zs ++ [an]))) := Fr.set h7 trivial (by simp)
    have f06 := ((f3.trans f4).own f5 hB).own f6 zN
    refine ⟨u', _, _, us ++ [ub], zs ++ [an], rfl, f06, ?_, f6.at_ _ _ upd_same (by simpa using neBN), by rw [List.length_append, List.length_singleton]; omega, upd_same, by rw [List.length_append, List.length_singleton]; omega⟩
    rw [bat_succ r b i l hl]
    exact hu'.keep (f5.tup.trans f6.tup)
  · rintro σ H3 ⟨ub, o1, o2, us, zs, rfl, f3, hub, h3, hul, h4, hzl⟩
    refine ⟨_, rfl, _, rfl, line_of (by simp), fun p hp => ?_⟩
    have f4 := Fr.new (l := []) (o := .tup [.ref B, .ref N]) hp
    refine q p _ B N us ub (f3.trans f4) upd_same (f4.at_ _ _ h3 (by simp)) ?_
    rw [← bat_last, hlen]
    exact hub.keep f4.tup

def spRun : Sp := fun vs H Q _ => ∃ (r : List Laid) (v : V) (b : List Int) (u : V) (m : Int), vs = [u, v] ∧ RAt H r v ∧ BAt H b u ∧ okB b ∧ okR m r ∧ (b.length : Int) = m ∧
  ∀ p H' u' x, Fr [] H H' → H' p = some (.tup [u', x]) → BAt H' (lastB b r) u' → Q (.ref p) H'
theorem ok_run_laid (T : Txt K w mg) : FnOk P w K mg base CX0 21 T.run_laid.f T.run_laid.fd ["board", "row"] spRun := by
  refine T.run_laid.F.ok sc_run_laid (fun vs H Q E h => ?_) (fun cdv A outer s H vs Q E hr h => ?_)
  · obtain ⟨r, v, b, u, m, rfl, _⟩ := h
    rfl
  obtain ⟨r, v, b, u, m, rfl, hrow, ⟨pb, rfl, hb⟩, hob, ho, hm, q⟩ := h
  obtain ⟨hb1, hb2, hb3⟩ := id hob
  refine ⟨_, (pss_cons (ps_expr (pe_call (ok_need_board T) (hr.mono (by omega)) rfl T.need_board.m T.need_board.F.kp T.need_board.b .nil pass0 (pa_cons (pv 0) pa_nil)))
    (pss_cons (ps_expr (pe_call (ok_need_laid_row T) (hr.mono (by omega)) rfl T.need_laid_row.m T.need_laid_row.F.kp T.need_laid_row.b .nil pass0 (pa_cons (pe_callB (lenK (K := K) rfl) (by rfl) T.z_len bt_len (pa_cons (pv 0) pa_nil)) (pa_cons (pv 1) pa_nil))))
    (pss_cons (ps_asg (pe_call (ok_run_laid_in T) (hr.mono (by omega)) rfl T.run_laid_in.m T.run_laid_in.F.kp T.run_laid_in.b .nil pass0 (pa_cons (pv 0) (pa_cons (pv 1) pa_nil))) (pgT (K := K) (n := 2) rfl rfl (pgs_cons (pg_name (i := 2) sc_run_laid.nd rfl (by first | exact Or.inl rfl | exact Or.inr rfl)) (pgs_cons (pg_name (i := 3) sc_run_laid.nd rfl (by first | exact Or.inl rfl | exact Or.inr rfl)) pgs_nil)) (by rfl) (by rfl)))
    (pss_one (ps_ret (pe_tup (pa_cons (pe_ix (ixL (K := K) rfl) (pv 2) (pe_un un_neg pe_int) (fun _ _ => rfl)) (pa_cons (pv 3) pa_nil)))))))), ?_⟩
  refine ⟨_, rfl, pb, b, rfl, hb, hob, fun H1 f1 => ?_⟩
  refine ⟨_, rfl, pb, _, rfl, .inr (SqT.of (f1.tup _ _ hb)), _, rfl, m, r, v, by rw [List.length_map, hm]; rfl, hrow.keep f1.tup, ho, by omega, by omega, fun H2 f2 => ?_⟩
  have f02 := f1.trans f2
  refine ⟨_, rfl, _, rfl, r, v, b, .ref pb, m, rfl, hrow.keep f02.tup, ⟨pb, rfl, f02.tup _ _ hb⟩, ho, hm, by omega, by omega, fun p H3 bl al us u' f3 hp hbl hu' => ?_⟩
  refine ⟨p, _, rfl, SqT.of hp, rfl, _, _, rfl, _, _, rfl, rfl, ?_⟩
  refine ⟨_, rfl, _, rfl, bl, _, _, _, rfl, rfl, SqL.of hbl, atI_last, _, rfl, line_of (by simp), fun c hc => ?_⟩
  have f4 := Fr.new (l := []) (o := .tup [u', .ref al]) hc
  exact q c _ u' _ ((f02.trans f3).trans f4) upd_same (hu'.keep f4.tup)
end
end RL

/-! The crew, plainly: what stays, what changes, what may be done, why it ends and where. -/
namespace RL
open PySem L2 RlR

abbrev ki (i : Int) : Key := .inl i
structure Ho where
  ma : Addr
  own : Addr
  said : Addr
  desk : Addr
  cnt : Nat
  D : List (Key × V)
  S : List (Key × V)
/-- what changes -/
structure Cs where
  W : List (List Key × V)
  ho : Int → Ho
/-- what stays -/
structure Cw where
  b : List Int
  r : List Laid
  os : List Int
  hs : List Int
  wt : List (List Int)
  vo : V
  vr : V
  x : Addr
  wl : Addr
  wa : Addr
  mb : Addr
def ow (os : List Int) (k : Int) : Int := os.getD k.toNat 0
structure Cw.Ok (c : Cw) : Prop where
  b : okB c.b
  r : okR (c.b.length : Int) c.r
  ol : c.os.length = c.b.length
  oi : ∀ g ∈ c.os, 0 ≤ g ∧ g ≤ 4
  hp : c.hs.Pairwise (· < ·)
  hi : ∀ g, g ∈ c.hs ↔ g ∈ c.os
  hl : c.hs.length ≤ 5
  wl : c.wt.length = c.r.length
  wi : ∀ (j : Nat) (l : Laid) (ws : List Int), c.r[j]? = some l → c.wt[j]? = some ws → ws.length ≤ 5 ∧ ∀ g, g ∈ ws ↔ ∃ k ∈ l.2, ow c.os k = g
def want (c : Cw) (j : Nat) (g : Int) : Prop := ∃ ws, c.wt[j]? = some ws ∧ g ∈ ws
def inW (st : Cs) (j : Nat) (h : Int) : Bool := (valV st.W [ki (j : Nat), ki h]).isSome
def inD (o : Ho) (g : Int) : Bool := (valV o.D (ki g)).isSome
def maySend (c : Cw) (st : Cs) (h : Int) : Prop := (st.ho h).cnt < c.r.length ∧ want c (st.ho h).cnt h ∧ inW st (st.ho h).cnt h = false
def mayTake (c : Cw) (st : Cs) (h o : Int) : Prop := (st.ho h).cnt < c.r.length ∧ h ≠ o ∧ inD (st.ho h) o = false ∧ want c (st.ho h).cnt h ∧ inW st (st.ho h).cnt o = true
def mayGo (c : Cw) (st : Cs) (h : Int) : Prop := (st.ho h).cnt < c.r.length ∧ (¬ want c (st.ho h).cnt h ∨ (inW st (st.ho h).cnt h = true ∧ ∀ g, want c (st.ho h).cnt g → g = h ∨ inD (st.ho h) g = true))

/-! ### how much is left -/
def term (c : Cw) (st : Cs) (h : Int) : Nat := (c.r.length - (st.ho h).cnt) * 8 + (c.hs.filter fun o => !inD (st.ho h) o).length + (if inW st (st.ho h).cnt h = true then 0 else 1)
def meas (c : Cw) (st : Cs) : Nat := (c.hs.map (term c st)).sum
theorem sum_le {f g : Int → Nat} : ∀ {l : List Int}, (∀ x ∈ l, f x ≤ g x) → (l.map f).sum ≤ (l.map g).sum
  | [], _ => Nat.le_refl _
  | x :: r, h => by
    have h1 := h x List.mem_cons_self
    have h2 := sum_le (l := r) fun y hy => h y (List.mem_cons_of_mem _ hy)
    simp only [List.map_cons, List.sum_cons]
    omega
theorem sum_lt {f g : Int → Nat} {z : Int} : ∀ {l : List Int}, (∀ x ∈ l, f x ≤ g x) → z ∈ l → f z < g z → (l.map f).sum < (l.map g).sum
  | [], _, hz, _ => by simp at hz
  | x :: r, h, hz, hlt => by
    have h1 := h x List.mem_cons_self
    have h2 : ∀ y ∈ r, f y ≤ g y := fun y hy => h y (List.mem_cons_of_mem _ hy)
    simp only [List.map_cons, List.sum_cons]
    rcases List.mem_cons.mp hz with rfl | hz
    · have := sum_le h2
      omega
    · have := sum_lt h2 hz hlt
      omega
theorem filter_le {p q : Int → Bool} : ∀ (l : List Int), (∀ x ∈ l, p x = true → q x = true) → (l.filter p).length ≤ (l.filter q).length
  | [], _ => Nat.le_refl _
  | x :: r, h => by
    have h2 := filter_le r fun y hy => h y (List.mem_cons_of_mem _ hy)
    have h1 := h x List.mem_cons_self
    rw [List.filter_cons, List.filter_cons]
    by_cases hp : p x = true
    · rw [if_pos hp, if_pos (h1 hp)]
      simp only [List.length_cons]
      omega
    · rw [if_neg hp]
      split
      · simp only [List.length_cons]
        omega
      · exact h2
theorem filter_lt {p q : Int → Bool} {z : Int} : ∀ (l : List Int), (∀ x ∈ l, p x = true → q x = true) → z ∈ l → q z = true → p z = false → (l.filter p).length < (l.filter q).length
  | [], _, hz, _, _ => by simp at hz
  | x :: r, h, hz, hq, hp => by
    have h2 : ∀ y ∈ r, p y = true → q y = true := fun y hy => h y (List.mem_cons_of_mem _ hy)
    have h1 := h x List.mem_cons_self
    rw [List.filter_cons, List.filter_cons]
    rcases List.mem_cons.mp hz with rfl | hz
    · have := filter_le r h2
      rw [if_neg (by rw [hp]; simp), if_pos hq, List.length_cons]
      omega
    · have := filter_lt r h2 hz hq hp
      by_cases hpx : p x = true
      · rw [if_pos hpx, if_pos (h1 hpx)]
        simp only [List.length_cons]
        omega
      · rw [if_neg hpx]
        split
        · simp only [List.length_cons]
          omega
        · exact this

/-! ### the moves -/
def setHo (st : Cs) (h : Int) (o : Ho) : Cs := { st with ho := fun g => if g = h then o else st.ho g }
theorem setHo_same {st : Cs} {h : Int} {o : Ho} : (setHo st h o).ho h = o := if_pos rfl
theorem setHo_ne {st : Cs} {h g : Int} {o : Ho} (e : g ≠ h) : (setHo st h o).ho g = st.ho g := if_neg e
def sendS (st : Cs) (h : Int) (v : V) : Cs := { st with W := putK st.W [ki ((st.ho h).cnt : Nat), ki h] v }
def takeS (st : Cs) (h o : Int) (v : V) : Cs := setHo st h { st.ho h with D := putK (st.ho h).D (ki o) v }
def goS (st : Cs) (h : Int) (desk : Addr) (S : List (Key × V)) : Cs := setHo st h { st.ho h with cnt := (st.ho h).cnt + 1, D := [], desk := desk, S := S }
theorem inW_send {st : Cs} {h : Int} {v : V} {j : Nat} {g : Int} : inW (sendS st h v) j g = (decide (j = (st.ho h).cnt ∧ g = h) || inW st j g) := by
  unfold inW sendS
  rw [valV_put]
  by_cases e : j = (st.ho h).cnt ∧ g = h
  · obtain ⟨rfl, rfl⟩ := e
    rw [if_pos rfl]
    simp
  · rw [if_neg ?_, decide_eq_false e, Bool.false_or]
    intro q
    simp only [List.cons.injEq, Sum.inl.injEq, and_true] at q
    exact e ⟨by omega, q.2⟩
structure Inv (c : Cw) (st : Cs) : Prop where
  hung : ∀ g ∈ c.hs, ∀ j, j < (st.ho g).cnt → want c j g → inW st j g = true
  wl : st.W.length + meas c st ≤ 2000
  dl : ∀ h ∈ c.hs, (st.ho h).D.length + meas c st ≤ 2000
  dz : ∀ h ∈ c.hs, ¬ want c (st.ho h).cnt h → (st.ho h).D = []
theorem meas_send {c : Cw} {st : Cs} {h : Int} {v : V} (hh : h ∈ c.hs) (m : maySend c st h) : meas c (sendS st h v) < meas c st := by
  have key : ∀ g, term c (sendS st h v) g = (c.r.length - (st.ho g).cnt) * 8 + (c.hs.filter fun o => !inD (st.ho g) o).length + (if inW (sendS st h v) (st.ho g).cnt g = true then 0 else 1) := fun g => rfl
  refine sum_lt (z := h) (fun g _ => ?_) hh ?_
  · rw [key, term, inW_send]
    cases inW st (st.ho g).cnt g with
    | true => simp
    | false =>
      simp only [Bool.or_false, decide_eq_true_eq]
      split <;> simp
  · rw [key, term, inW_send, m.2.2]
    simp
theorem Inv.send {c : Cw} {st : Cs} {h : Int} {v : V} (hh : h ∈ c.hs) (m : maySend c st h) (i : Inv c st) : Inv c (sendS st h v) := by
  have hm := meas_send (v := v) hh m
  refine ⟨fun g hg j hj hw => ?_, ?_, fun g hg => ?_, i.dz⟩
  · rw [inW_send, i.hung g hg j hj hw, Bool.or_true]
  · have h1 := length_putK st.W [ki ((st.ho h).cnt : Nat), ki h] v
    have h2 := i.wl
    show (putK st.W [ki ((st.ho h).cnt : Nat), ki h] v).length + _ ≤ _
    omega
  · have h2 := i.dl g hg
    show (st.ho g).D.length + _ ≤ _
    omega
theorem inD_put {o : Ho} {D : List (Key × V)} {g z : Int} {v : V} (e : o.D = putK D (ki z) v) : inD o g = (decide (g = z) || (valV D (ki g)).isSome) := by
  unfold inD
  rw [e, valV_put]
  by_cases q : g = z
  · subst q
    rw [if_pos rfl]
    simp
  · rw [if_neg (fun y => q (Sum.inl.inj y)), decide_eq_false q, Bool.false_or]
theorem meas_take {c : Cw} {st : Cs} {h o : Int} {v : V} (hh : h ∈ c.hs) (ho : o ∈ c.hs) (m : mayTake c st h o) : meas c (takeS st h o v) < meas c st := by
  have k1 : ∀ x, (fun x => !inD ((takeS st h o v).ho h) x) x = true → (fun x => !inD (st.ho h) x) x = true := fun x => by
    dsimp only
    rw [takeS, setHo_same, inD_put rfl]
    unfold inD
    cases (valV (st.ho h).D (ki x)).isSome <;> simp
  refine sum_lt (z := h) (fun g _ => ?_) hh ?_
  · by_cases e : g = h
    · subst e
      unfold term
      have q := filter_le c.hs fun x _ => k1 x
      have e1 : ((takeS st g o v).ho g).cnt = (st.ho g).cnt := by rw [takeS, setHo_same]
      have e2 : ∀ j x, inW (takeS st g o v) j x = inW st j x := fun _ _ => rfl
      rw [e1, e2]
      omega
    · unfold term
      have e1 : (takeS st h o v).ho g = st.ho g := setHo_ne e
      have e2 : ∀ j x, inW (takeS st h o v) j x = inW st j x := fun _ _ => rfl
      rw [e1, e2]
      exact Nat.le_refl _
  · unfold term
    have q := filter_lt (z := o) c.hs (fun x _ => k1 x) ho (by show (!inD (st.ho h) o) = true; rw [m.2.2.1]; rfl) (by
      show (!inD ((takeS st h o v).ho h) o) = false
      rw [takeS, setHo_same, inD_put rfl]
      simp)
    have e1 : ((takeS st h o v).ho h).cnt = (st.ho h).cnt := by rw [takeS, setHo_same]
    have e2 : ∀ j x, inW (takeS st h o v) j x = inW st j x := fun _ _ => rfl
    rw [e1, e2]
    omega
theorem Inv.take {c : Cw} {st : Cs} {h o : Int} {v : V} (hh : h ∈ c.hs) (ho : o ∈ c.hs) (m : mayTake c st h o) (i : Inv c st) : Inv c (takeS st h o v) := by
  have hm := meas_take (v := v) hh ho m
  refine ⟨fun g hg j hj hw => ?_, ?_, fun g hg => ?_, fun g hg hw => ?_⟩
  · have e1 : ((takeS st h o v).ho g).cnt = (st.ho g).cnt := by
      by_cases e : g = h
      · subst e; rw [takeS, setHo_same]
      · rw [takeS, setHo_ne e]
    rw [e1] at hj
    exact i.hung g hg j hj hw
  · have h2 := i.wl
    show st.W.length + _ ≤ _
    omega
  · have h2 := i.dl g hg
    by_cases e : g = h
    · subst e
      have h1 := length_putK (st.ho g).D (ki o) v
      rw [show ((takeS st g o v).ho g).D = putK (st.ho g).D (ki o) v by rw [takeS, setHo_same]]
      omega
    · rw [show ((takeS st h o v).ho g).D = (st.ho g).D by rw [takeS, setHo_ne e]]
      omega
  · by_cases e : g = h
    · subst e
      rw [show ((takeS st g o v).ho g).cnt = (st.ho g).cnt by rw [takeS, setHo_same]] at hw
      exact absurd m.2.2.2.1 hw
    · rw [show (takeS st h o v).ho g = st.ho g from setHo_ne e] at hw ⊢
      exact i.dz g hg hw
theorem meas_go {c : Cw} {st : Cs} {h : Int} {dk : Addr} {S : List (Key × V)} (hl : c.hs.length ≤ 5) (hh : h ∈ c.hs) (m : mayGo c st h) : meas c (goS st h dk S) < meas c st := by
  refine sum_lt (z := h) (fun g _ => ?_) hh ?_
  · by_cases e : g = h
    · subst e
      unfold term
      have q := List.length_filter_le (fun o => !inD ((goS st g dk S).ho g) o) c.hs
      have e1 : ((goS st g dk S).ho g).cnt = (st.ho g).cnt + 1 := by rw [goS, setHo_same]
      have hlt := m.1
      rw [e1]
      split <;> split <;> omega
    · unfold term
      have e1 : (goS st h dk S).ho g = st.ho g := setHo_ne e
      have e2 : ∀ j x, inW (goS st h dk S) j x = inW st j x := fun _ _ => rfl
      rw [e1, e2]
      exact Nat.le_refl _
  · unfold term
    have q := List.length_filter_le (fun o => !inD ((goS st h dk S).ho h) o) c.hs
    have e1 : ((goS st h dk S).ho h).cnt = (st.ho h).cnt + 1 := by rw [goS, setHo_same]
    have hlt := m.1
    rw [e1]
    split <;> split <;> omega
theorem Inv.go {c : Cw} {st : Cs} {h : Int} {dk : Addr} {S : List (Key × V)} (hl : c.hs.length ≤ 5) (hh : h ∈ c.hs) (m : mayGo c st h) (i : Inv c st) : Inv c (goS st h dk S) := by
  have hm := meas_go (dk := dk) (S := S) hl hh m
  refine ⟨fun g hg j hj hw => ?_, ?_, fun g hg => ?_, fun g hg hw => ?_⟩
  · show inW st j g = true
    by_cases e : g = h
    · subst e
      rw [show ((goS st g dk S).ho g).cnt = (st.ho g).cnt + 1 by rw [goS, setHo_same]] at hj
      by_cases hz : j = (st.ho g).cnt
      · subst hz
        rcases m.2 with q | q
        · exact absurd hw q
        · exact q.1
      · exact i.hung g hg j (by omega) hw
    · rw [show (goS st h dk S).ho g = st.ho g from setHo_ne e] at hj
      exact i.hung g hg j hj hw
  · have h2 := i.wl
    show st.W.length + _ ≤ _
    omega
  · have h2 := i.dl g hg
    by_cases e : g = h
    · subst e
      rw [show ((goS st g dk S).ho g).D = [] by rw [goS, setHo_same]]
      have h3 := i.wl
      simp only [List.length_nil]
      omega
    · rw [show ((goS st h dk S).ho g).D = (st.ho g).D by rw [goS, setHo_ne e]]
      omega
  · by_cases e : g = h
    · subst e
      rw [show ((goS st g dk S).ho g).D = [] by rw [goS, setHo_same]]
    · rw [show (goS st h dk S).ho g = st.ho g from setHo_ne e] at hw ⊢
      exact i.dz g hg hw

/-! ### something may always be done, but at the end -/
theorem least {f : Int → Nat} : ∀ {l : List Int} {z : Int}, z ∈ l → ∃ h ∈ l, f h ≤ f z ∧ ∀ g ∈ l, f h ≤ f g
  | [], _, hz => by simp at hz
  | x :: r, z, hz => by
    by_cases hr : r = []
    · subst hr
      have : z = x := by simpa using hz
      subst this
      exact ⟨z, List.mem_cons_self, Nat.le_refl _, fun g hg => by
        have e : g = z := (by simpa using hg)
        subst e
        exact Nat.le_refl _⟩
    · obtain ⟨y, hy⟩ := List.exists_mem_of_ne_nil r hr
      obtain ⟨h, hh, h1, h2⟩ := least (f := f) hy
      by_cases q : f x ≤ f h
      · refine ⟨x, List.mem_cons_self, ?_, fun g hg => ?_⟩
        · rcases List.mem_cons.mp hz with rfl | hz
          · exact Nat.le_refl _
          · exact Nat.le_trans q (h2 z hz)
        · rcases List.mem_cons.mp hg with rfl | hg
          · exact Nat.le_refl _
          · exact Nat.le_trans q (h2 g hg)
      · refine ⟨h, List.mem_cons_of_mem _ hh, ?_, fun g hg => ?_⟩
        · rcases List.mem_cons.mp hz with rfl | hz
          · omega
          · exact h2 z hz
        · rcases List.mem_cons.mp hg with rfl | hg
          · omega
          · exact h2 g hg
theorem want_in {c : Cw} (ok : c.Ok) {j : Nat} {g : Int} (h : want c j g) : g ∈ c.hs := by
  obtain ⟨ws, hws, hg⟩ := h
  have hj : j < c.r.length := by rw [← ok.wl]; exact (List.getElem?_eq_some_iff.mp hws).1
  have hl : c.r[j]? = some c.r[j] := List.getElem?_eq_getElem hj
  obtain ⟨k, hk, e⟩ := ((ok.wi j _ ws hl hws).2 g).mp hg
  have hkk := ((ok.r.2 _ (List.getElem_mem hj)).2).2.2.1 k hk
  rw [ok.hi, ← e]
  unfold ow
  have hlt : k.toNat < c.os.length := by rw [ok.ol]; omega
  rw [List.getD_eq_getElem?_getD, List.getElem?_eq_getElem hlt]
  exact List.getElem_mem hlt
theorem stuck {c : Cw} {st : Cs} (ok : c.Ok) (i : Inv c st) (hc : ∀ h ∈ c.hs, (st.ho h).cnt ≤ c.r.length) (ng : ∀ h ∈ c.hs, ¬ mayGo c st h) (ns : ∀ h ∈ c.hs, ¬ maySend c st h) (nt : ∀ h ∈ c.hs, ∀ o ∈ c.hs, ¬ mayTake c st h o) : ∀ h ∈ c.hs, (st.ho h).cnt = c.r.length := by
  intro z hz
  apply Classical.byContradiction
  intro hne
  have hzl := hc z hz
  obtain ⟨h, hh, h1, h2⟩ := least (f := fun g => (st.ho g).cnt) hz
  have hlt : (st.ho h).cnt < c.r.length := by
    have : (st.ho h).cnt ≤ (st.ho z).cnt := h1
    omega
  by_cases hw : want c (st.ho h).cnt h
  · cases hin : inW st (st.ho h).cnt h with
    | false => exact ns h hh ⟨hlt, hw, hin⟩
    | true =>
      refine ng h hh ⟨hlt, .inr ⟨hin, fun g hg => ?_⟩⟩
      apply Classical.byContradiction
      intro hno
      have hgh : g ≠ h := fun e => hno (.inl e)
      have hgd : inD (st.ho h) g = false := by
        cases q : inD (st.ho h) g with
        | false => rfl
        | true => exact absurd (.inr q) hno
      have hgs := want_in ok hg
      cases hgw : inW st (st.ho h).cnt g with
      | true => exact nt h hh g hgs ⟨hlt, fun e => hgh e.symm, hgd, hw, hgw⟩
      | false =>
        have hle : (st.ho h).cnt ≤ (st.ho g).cnt := h2 g hgs
        by_cases heq : (st.ho h).cnt = (st.ho g).cnt
        · exact ns g hgs ⟨by omega, by rw [← heq]; exact hg, by rw [← heq]; exact hgw⟩
        · have := i.hung g hgs _ (by omega) hg
          rw [hgw] at this
          cases this
  · exact ng h hh ⟨hlt, .inl hw⟩
end RL

/-! crew.py: how a crew stands in the heap; what may be done. -/
namespace RL
open PySem L2 RlR

def hoF (own cnt said desk copy : V) : List (Str × V) := [("own", own), ("count", cnt), ("said", said), ("desk", desk), ("copy", copy)]
def crF (ow rw wl wa mb : V) : List (Str × V) := [("owners", ow), ("row", rw), ("wall", wl), ("wanted", wa), ("members", mb)]
def ksOf (os : List Int) (l : Laid) (h : Int) : List Int := l.2.filter fun k => decide (ow os k = h)
def lett (c : Cw) (l : Laid) (j : Nat) (h : Int) : List Int := (ksOf c.os l h).map fun k => (bat c.b c.r j).getD k.toNat 0
def LtAt (H : Hp) (c : Cw) (j : Nat) (h : Int) (v : V) : Prop := ∃ l, c.r[j]? = some l ∧ BAt H (lett c l j h) v
theorem LtAt.keep {H H' : Hp} (k : KT H H') {c : Cw} {j : Nat} {h : Int} {v : V} (a : LtAt H c j h v) : LtAt H' c j h v := let ⟨l, e, b⟩ := a; ⟨l, e, b.keep k⟩
def ownL (os bd : List Int) (h : Int) : List (Key × V) := ((List.range os.length).filter fun k => decide (os.getD k 0 = h)).map fun k => (ki (k : Nat), V.int (bd.getD k 0))
structure HoAt (CH : Addr) (H : Hp) (c : Cw) (h : Int) (o : Ho) : Prop where
  me : ∃ dx cp, H o.ma = some (.ins CH dx (hoF (.ref o.own) (.int (o.cnt : Nat)) (.ref o.said) (.ref o.desk) cp))
  own : H o.own = some (.dK (ownL c.os (bat c.b c.r o.cnt) h))
  said : H o.said = some (.dK o.S)
  desk : H o.desk = some (.dK o.D)
  dl : ∀ g v, valV o.D (ki g) = some v → LtAt H c o.cnt g v
  n1 : o.own ≠ o.said
  n2 : o.own ≠ o.desk
  n3 : o.said ≠ o.desk
  sl : o.S.length ≤ o.cnt
  cl : o.cnt ≤ c.r.length
def fp (o : Ho) : List Addr := [o.ma, o.own, o.said, o.desk]
structure CwAt (CC CH : Addr) (H : Hp) (c : Cw) (st : Cs) : Prop where
  me : ∃ dx, H c.x = some (.ins CC dx (crF c.vo c.vr (.ref c.wl) (.ref c.wa) (.ref c.mb)))
  os : BAt H c.os c.vo
  row : RAt H c.r c.vr
  wall : H c.wl = some (.dT st.W)
  wanted : ∃ us, H c.wa = some (.lst us) ∧ Paired (fun (ws : List Int) u => ∃ p, u = V.ref p ∧ H p = some (.lst (ws.map V.int))) c.wt us
  mem : Rd H c.mb (.dK (c.hs.map fun h => (ki h, V.ref (st.ho h).ma)))
  ho : ∀ h ∈ c.hs, HoAt CH H c h (st.ho h)
  wv : ∀ (j : Nat) h v, valV st.W [ki (j : Nat), ki h] = some v → LtAt H c j h v
  sep : ∀ g ∈ c.hs, ∀ h ∈ c.hs, g ≠ h → ∀ a ∈ fp (st.ho g), a ∉ fp (st.ho h)
  smb : ∀ h ∈ c.hs, c.mb ∉ fp (st.ho h) ∧ c.x ∉ fp (st.ho h)
theorem HoAt.keepL {CH : Addr} {H H' : Hp} {c : Cw} {h : Int} {o : Ho} {l : List Addr} (f : Fr l H H') (hl : ∀ a ∈ l, a ∉ fp o) (x : HoAt CH H c h o) : HoAt CH H' c h o := by
  have k : ∀ a ∈ fp o, a ∉ l := fun a ha hm => hl a hm ha
  obtain ⟨dx, cp, e⟩ := x.me
  exact ⟨⟨dx, cp, f.at_ _ _ e (k _ (by simp [fp]))⟩, f.at_ _ _ x.own (k _ (by simp [fp])), f.at_ _ _ x.said (k _ (by simp [fp])), f.at_ _ _ x.desk (k _ (by simp [fp])), fun g v q => (x.dl g v q).keep f.tup, x.n1, x.n2, x.n3, x.sl, x.cl⟩
theorem HoAt.keep {CH : Addr} {H H' : Hp} {c : Cw} {h : Int} {o : Ho} (f : Fr [] H H') (x : HoAt CH H c h o) : HoAt CH H' c h o := x.keepL f (by simp)
theorem rd_keep {H H' : Hp} {l : List Addr} (f : Fr l H H') {a : Addr} {u : HO} (h : Rd H a u) (hn : a ∉ l) : Rd H' a u := by
  rcases h with h | ⟨o, h⟩
  · exact .inl (f.at_ _ _ h hn)
  · exact .inr ⟨o, f.at_ _ _ h hn⟩
theorem CwAt.keep {CC CH : Addr} {H H' : Hp} {c : Cw} {st : Cs} (f : Fr [] H H') (x : CwAt CC CH H c st) : CwAt CC CH H' c st := by
  obtain ⟨dx, e⟩ := x.me
  obtain ⟨us, hu, hp⟩ := x.wanted
  exact ⟨⟨dx, f.at_ _ _ e (by simp)⟩, x.os.keep f.tup, x.row.keep f.tup, f.at_ _ _ x.wall (by simp), ⟨us, f.at_ _ _ hu (by simp), Paired.mapP hp fun ws u ⟨p, e, q⟩ => ⟨p, e, f.at_ _ _ q (by simp)⟩⟩, rd_keep f x.mem (by simp), fun h hh => (x.ho h hh).keep f, fun j h v q => (x.wv j h v q).keep f.tup, x.sep, x.smb⟩
theorem valV_mapK {f : Int → V} {h : Int} : ∀ {l : List Int}, valV (l.map fun h => (ki h, f h)) (ki h) = if h ∈ l then some (f h) else none
  | [] => rfl
  | x :: r => by
    rw [List.map_cons]
    by_cases e : x = h
    · subst e
      rw [valV_pos (p := (ki x, f x)) rfl, if_pos List.mem_cons_self]
    · rw [valV_neg (p := (ki x, f x)) (fun q => e (Sum.inl.inj q)), valV_mapK]
      by_cases m : h ∈ r
      · rw [if_pos m, if_pos (List.mem_cons_of_mem _ m)]
      · rw [if_neg m, if_neg (fun q => by rcases List.mem_cons.mp q with q | q; exact e q.symm; exact m q)]
section
variable {CC CH : Addr} {H : Hp} {c : Cw} {st : Cs}
theorem CwAt.get (x : CwAt CC CH H c st) {h : Int} (hh : h ∈ c.hs) : DGet H c.mb (.int h) (some (.ref (st.ho h).ma)) := .inl ⟨_, ki h, x.mem, rfl, by rw [valV_mapK, if_pos hh]⟩
theorem CwAt.wallD (x : CwAt CC CH H c st) {j : Nat} {h : Int} {t : Addr} (ht : H t = some (.tup [.int (j : Nat), .int h])) : DGet H c.wl (.ref t) (valV st.W [ki (j : Nat), ki h]) := DGet.t (k := [ki (j : Nat), ki h]) x.wall ht
theorem HoAt.deskD {o : Ho} {h : Int} (x : HoAt CH H c h o) (g : Int) : DGet H o.desk (.int g) (valV o.D (ki g)) := DGet.k (k := ki g) x.desk
theorem want_iff {j : Nat} {ws : List Int} (h : c.wt[j]? = some ws) (g : Int) : want c j g ↔ g ∈ ws := ⟨fun ⟨w', e, m⟩ => by rw [h] at e; cases e; exact m, fun m => ⟨ws, h, m⟩⟩
end
theorem inV_ints {g : Int} {ws : List Int} {Q : VK} {H : Hp} (q : Q (.bl (decide (g ∈ ws))) H) : Q (.bl (if false = true then !inV (.int g) (ws.map V.int) else inV (.int g) (ws.map V.int))) H := by
  rw [if_neg Bool.false_ne_true, inV_int]
  exact q

section
variable {P : Program} {w : World} {K : PySem.W.Frag} {mg : Str → Option Value} {base : Heap}

def spHouseNo : Sp := fun vs H Q _ => ∃ g : Int, vs = [.int g] ∧ 0 ≤ g ∧ g ≤ 4 ∧ Q (.bl true) H
theorem ok_is_house_number (T : Txt K w mg) : FnOk P w K mg base CX0 1 T.is_house_number.f T.is_house_number.fd ["thing"] spHouseNo := by
  refine T.is_house_number.F.ok sc_is_house_number (fun vs H Q E h => ?_) (fun cdv A outer s H vs Q E hr h => ?_)
  · obtain ⟨g, rfl, _⟩ := h
    rfl
  obtain ⟨g, rfl, h1, h2, q⟩ := h
  refine ⟨_, (pss_one (ps_ret (pe_and (pe_callB call_is2 (by rfl) T.z_isinstance bt_isinstance (pa_cons (pv 0) (pa_cons (pe_bltn (v := .ty "int") rfl T.z_int bt_int rfl) pa_nil))) (pe_and (pe_not (pe_callB call_is2 (by rfl) T.z_isinstance bt_isinstance (pa_cons (pv 0) (pa_cons (pe_bltn (v := .ty "bool") rfl T.z_bool bt_bool rfl) pa_nil)))) (pe_one (pe_chain op_le op_le pe_int (pv 0) (pe_gint rfl T.c_LAST_HOUSE))))))), ?_⟩
  refine ⟨_, rfl, _, _, _, rfl, .ii g, _, rfl, iteT ?_⟩
  refine ⟨_, rfl, _, _, _, rfl, .ib g, _, rfl, _, rfl, iteT ?_⟩
  exact ⟨_, rfl, _, _, rfl, rfl, _, rfl, ifD h1 ⟨_, _, rfl, rfl, qD (Q := Q) h2 q⟩⟩
def spNeedOw : Sp := fun vs H Q _ => ∃ (b os : List Int) (u v : V), vs = [u, v] ∧ BAt H b u ∧ BAt H os v ∧ os.length = b.length ∧ b.length ≤ 12 ∧ (∀ g ∈ os, 0 ≤ g ∧ g ≤ 4) ∧ Ret H Q .non
theorem ok_need_owners (T : Txt K w mg) : FnOk P w K mg base CX0 2 T.need_owners.f T.need_owners.fd ["board", "owners"] spNeedOw := by
  refine T.need_owners.F.ok sc_need_owners (fun vs H Q E h => ?_) (fun cdv A outer s H vs Q E hr h => ?_)
  · obtain ⟨b, os, u, v, rfl, _⟩ := h
    rfl
  obtain ⟨b, os, u, v, rfl, ⟨pb, rfl, hb⟩, ⟨po, rfl, ho⟩, hl, h12, hg, q⟩ := h
  refine ⟨_, (pss_cons (ps_if (PW.pt (pw_or (pt_not (pt_val (pe_callB call_is2 (by rfl) T.z_isinstance bt_isinstance (pa_cons (pv 1) (pa_cons (pe_bltn (v := .ty "tuple") rfl T.z_tuple bt_tuple rfl) pa_nil))))) (pw_or1 (pt_cmpR op_ne (pe_callB (lenK (K := K) rfl) (by rfl) T.z_len bt_len (pa_cons (pv 1) pa_nil)) (pe_callB (lenK (K := K) rfl) (by rfl) T.z_len bt_len (pa_cons (pv 0) pa_nil)) (nomark _))))) (pss_one ps_never) pss_nil)
    (pss_one (ps_if (pt_not (pt_val (pe_callB (allK (K := K) rfl rfl) (by rfl) T.z_all bt_all (pa_cons (pe_lc rfl sc_need_owners.nd (piT (K := K) rfl (pv 1)) (blkOk_by (own := [("house", 2)]) (N := ["board", "owners", "house"]) (sc := defScope s_need_owners) (by decide +kernel)) (fun _ _ _ _ _ => (pg_name (i := 2) sc_need_owners.nd rfl (by first | exact Or.inl rfl | exact Or.inr rfl))) (fun _ _ _ _ _ => pts_nil) (fun _ _ _ _ _ => (pe_call (ok_is_house_number T) (hr.mono (by omega)) rfl T.is_house_number.m T.is_house_number.F.kp T.is_house_number.b .nil pass0 (pa_cons (pv 2) pa_nil)))) pa_nil)))) (pss_one ps_never) pss_nil))), ?_⟩
  refine ⟨_, rfl, _, _, _, rfl, .tt ho, _, rfl, iteF ?_⟩
  refine ⟨_, rfl, po, _, rfl, .inr (SqT.of ho), _, rfl, pb, _, rfl, .inr (SqT.of hb), rfl, _, rfl, ifNeN (by rw [List.length_map, List.length_map, hl]) ?_⟩
  refine ⟨_, rfl, po, rfl, ⟨_, SqT.of ho⟩, fun D hD => lc_map walk_tup hD (fun _ => V.bl true) (by rw [List.length_map]; omega) (fun H' f => SqT.of (f.tup _ _ ho)) (fun _ => rfl) (fun x hx H1 f1 R r => ?_) (fun H' f hl' => ?_)⟩
  · obtain ⟨g, hgm, rfl⟩ := List.mem_map.mp hx
    exact ⟨_, rfl, g, rfl, (hg g hgm).1, (hg g hgm).2, r H1 (Fr.refl _ _)⟩
  · rw [all_true] at hl'
    refine ⟨D, _, rfl, SqL.of hl', ?_⟩
    rw [rep_all]
    exact ⟨_, rfl, iteF (q _ f)⟩

def spWanting (CC CH : Addr) : Sp := fun vs H Q _ => ∃ (c : Cw) (st : Cs) (j : Nat) (ws : List Int), vs = [.ref c.x, .int (j : Nat)] ∧ CwAt CC CH H c st ∧ c.wt[j]? = some ws ∧ ∀ p, (H p = some (.lst (ws.map V.int)) ∧ ∃ us, H c.wa = some (.lst us) ∧ us[j]? = some (.ref p)) → Q (.ref p) H
theorem ok_Crew_wanting (T : Txt K w mg) : FnOk P w K mg base CX0 1 T.Crew_wanting.f T.Crew_wanting.fd ["self", "number"] (spWanting T.k_Crew.C T.k_House.C) := by
  refine T.Crew_wanting.F.ok sc_Crew_wanting (fun vs H Q E h => ?_) (fun cdv A outer s H vs Q E hr h => ?_)
  · obtain ⟨c, st, j, ws, rfl, _⟩ := h
    rfl
  obtain ⟨c, st, j, ws, rfl, hc, hj, q⟩ := h
  obtain ⟨dx, hx⟩ := hc.me
  obtain ⟨us, hu, hp⟩ := hc.wanted
  refine ⟨_, (pss_one (ps_ret (pe_ix (ixL (K := K) rfl) (fldK (K := K) rfl (pv 0) rfl) (pv 1) (fun _ _ => rfl)))), ?_⟩
  have : ∃ u, us[j]? = some u ∧ ∃ p, u = V.ref p ∧ H p = some (.lst (ws.map V.int)) := by
    have hlt : j < us.length := by rw [← hp.length]; exact (List.getElem?_eq_some_iff.mp hj).1
    obtain ⟨ws', e, r⟩ := pair_right hp (List.getElem?_eq_getElem hlt)
    rw [hj] at e
    cases e
    exact ⟨_, List.getElem?_eq_getElem hlt, r⟩
  obtain ⟨u, hu', p, rfl, hpp⟩ := this
  exact ⟨_, rfl, c.x, _, dx, _, _, rfl, hx, T.k_Crew.cl, T.n_Crew_wanted, rfl, _, rfl, c.wa, _, _, _, rfl, rfl, SqL.of hu, atI_nat hu', q p ⟨hpp, us, hu, hu'⟩⟩

def spDue (CC CH : Addr) : Sp := fun vs H Q _ => ∃ (c : Cw) (st : Cs) (h : Int), vs = [.ref c.x, .int h] ∧ CwAt CC CH H c st ∧ h ∈ c.hs ∧ c.r.length ≤ 40 ∧ ((st.ho h).cnt = c.r.length → Q .non H) ∧ ((st.ho h).cnt < c.r.length → Q (.int ((st.ho h).cnt : Nat)) H)
theorem ok_Crew_due_of (T : Txt K w mg) : FnOk P w K mg base CX0 1 T.Crew_due_of.f T.Crew_due_of.fd ["self", "house"] (spDue T.k_Crew.C T.k_House.C) := by
  refine T.Crew_due_of.F.ok sc_Crew_due_of (fun vs H Q E h => ?_) (fun cdv A outer s H vs Q E hr h => ?_)
  · obtain ⟨c, st, h, rfl, _⟩ := h
    rfl
  obtain ⟨c, st, h, rfl, hc, hh, h40, q1, q2⟩ := h
  obtain ⟨dx, hx⟩ := hc.me
  obtain ⟨dh, cp, hm⟩ := (hc.ho h hh).me
  obtain ⟨ra, rs, er, hra, hrs⟩ := hc.row
  have hrl := hrs.length
  rw [er] at hx
  refine ⟨_, (pss_cons (ps_set (i := 2) sc_Crew_due_of.nd rfl (by first | exact Or.inl rfl | exact Or.inr rfl) (fldK (K := K) rfl (pe_dget (hu_of hr) (fldK (K := K) rfl (pv 0) rfl) (pv 1) (fun _ _ => rfl)) rfl))
    (pss_cons (ps_if (pt_cmpR op_eq (pv 2) (pe_callB (lenK (K := K) rfl) (by rfl) T.z_len bt_len (pa_cons (fldK (K := K) rfl (pv 0) rfl) pa_nil)) (nomark _)) (pss_one (ps_ret pe_non)) pss_nil)
    (pss_one (ps_ret (pv 2))))), ?_⟩
  refine ⟨_, rfl, c.x, _, dx, _, _, rfl, hx, T.k_Crew.cl, T.n_Crew_members, rfl, _, rfl, c.mb, _, rfl, hc.get hh, _, _, dh, _, _, rfl, hm, T.k_House.cl, T.n_House_count, rfl, ?_⟩
  refine ⟨_, rfl, _, rfl, c.x, _, dx, _, _, rfl, hx, T.k_Crew.cl, T.n_Crew_row, rfl, ra, _, rfl, .inr (SqT.of hra), rfl, _, rfl, ?_⟩
  by_cases e : (st.ho h).cnt = c.r.length
  · exact ifEq (by omega) (q1 e)
  · have := (hc.ho h hh).cl
    exact ifEqN (by omega) ⟨_, rfl, q2 (by omega)⟩

def spKeysOf (CC CH : Addr) : Sp := fun vs H Q _ => ∃ (c : Cw) (st : Cs) (j : Nat) (h : Int) (l : Laid), vs = [.ref c.x, .int (j : Nat), .int h] ∧ CwAt CC CH H c st ∧ c.Ok ∧ c.r[j]? = some l ∧
  ∀ p H', H p = none → Fr [] H H' → H' p = some (.lst ((ksOf c.os l h).map V.int)) → Q (.ref p) H'
theorem Cw.Ok.laid {c : Cw} (ok : c.Ok) {j : Nat} {l : Laid} (h : c.r[j]? = some l) : okL (c.b.length : Int) l := ok.r.2 l (List.mem_of_getElem? h)
theorem Cw.Ok.key {c : Cw} (ok : c.Ok) {j : Nat} {l : Laid} (h : c.r[j]? = some l) {k : Int} (hk : k ∈ l.2) : 0 ≤ k ∧ k < (c.os.length : Int) := by
  have := (ok.laid h).2.2.2.1 k hk
  rw [ok.ol]
  exact this
theorem ok_Crew_keys_of (T : Txt K w mg) : FnOk P w K mg base CX0 1 T.Crew_keys_of.f T.Crew_keys_of.fd ["self", "number", "house"] (spKeysOf T.k_Crew.C T.k_House.C) := by
  refine T.Crew_keys_of.F.ok sc_Crew_keys_of (fun vs H Q E h => ?_) (fun cdv A outer s H vs Q E hr h => ?_)
  · obtain ⟨c, st, j, h, l, rfl, _⟩ := h
    rfl
  obtain ⟨c, st, j, h, l, rfl, hc, ok, hj, q⟩ := h
  obtain ⟨dx, hx⟩ := hc.me
  obtain ⟨ra, rs, er, hra, hrs⟩ := hc.row
  obtain ⟨oa, eo, hoa⟩ := hc.os
  rw [er, eo] at hx
  have hjl : j < rs.length := by rw [← hrs.length]; exact (List.getElem?_eq_some_iff.mp hj).1
  obtain ⟨l', el, a, u, x2, eu, hla, hd, ⟨ka, rfl, hk⟩⟩ := pair_right hrs (List.getElem?_eq_getElem hjl)
  rw [hj] at el
  cases el
  have h12 := (ok.laid hj).2.2.1
  refine ⟨_, (pss_one (ps_ret (pe_lc rfl sc_Crew_keys_of.nd (piT (K := K) rfl (pe_ix (ixT (K := K) rfl) (pe_ix (ixT (K := K) rfl) (fldK (K := K) rfl (pv 0) rfl) (pv 1) (fun _ _ => rfl)) pe_int (fun _ _ => rfl))) (blkOk_by (own := [("key", 3)]) (N := ["self", "number", "house", "key"]) (sc := defScope s_Crew_keys_of) (by decide +kernel)) (fun _ _ _ _ _ => (pg_name (i := 3) sc_Crew_keys_of.nd rfl (by first | exact Or.inl rfl | exact Or.inr rfl))) (fun _ _ _ _ _ => (pts_one (pt_cmpR op_eq (pe_ix (ixT (K := K) rfl) (fldK (K := K) rfl (pv 0) rfl) (pv 3) (fun _ _ => rfl)) (pv 2) (nomark _)))) (fun _ _ _ _ _ => (pv 3))))), ?_⟩
  refine ⟨_, rfl, c.x, _, dx, _, _, rfl, hx, T.k_Crew.cl, T.n_Crew_row, rfl, _, rfl, ra, _, _, _, rfl, rfl, SqT.of hra, atI_nat (List.getElem?_eq_getElem hjl), a, _, _, _, eu, rfl, SqT.of hla, at1, ka, rfl, ⟨_, SqT.of hk⟩, fun D hD => ?_⟩
  refine lc_at walk_tup hD (fun y => match y with | .int k => decide (ow c.os k = h) | _ => false) (fun y => y) (by rw [List.length_map]; omega) (fun H' f => SqT.of (f.tup _ _ hk)) (fun _ => rfl) (fun y hy H1 f1 R r => ?_) (fun y hy _ H1 f1 R r => ⟨_, rfl, r H1 (Fr.refl _ _)⟩) (fun H' f hl => ?_)
  · obtain ⟨k, hkm, rfl⟩ := List.mem_map.mp hy
    have hx1 := f1.at_ _ _ hx (by simp)
    obtain ⟨k0, k1⟩ := ok.key hj hkm
    refine ⟨_, rfl, c.x, _, dx, _, _, rfl, hx1, T.k_Crew.cl, T.n_Crew_owners, rfl, _, rfl, oa, _, _, _, rfl, rfl, SqT.of (f1.tup _ _ hoa), atI_int k0 k1, _, rfl, rfl, _, rfl, ?_⟩
    have e : decide (V.int (c.os.getD k.toNat 0) = V.int h) = decide (ow c.os k = h) := by
      unfold ow
      by_cases z : c.os.getD k.toNat 0 = h
      · rw [decide_eq_true (by rw [z]), decide_eq_true z]
      · rw [decide_eq_false (fun y => z (V.int.inj y)), decide_eq_false z]
    rw [e]
    exact r H1 (Fr.refl _ _)
  · refine q D H' hD f ?_
    rw [hl, List.map_id', List.filter_map]
    rfl
end
end RL

/-! crew.py: what may be done now. -/
namespace RL
open PySem L2 RlR

section
variable {P : Program} {w : World} {K : PySem.W.Frag} {mg : Str → Option Value} {base : Heap}
theorem Cw.Ok.wants {c : Cw} (ok : c.Ok) {j : Nat} (h : j < c.r.length) : ∃ ws, c.wt[j]? = some ws ∧ ws.length ≤ 5 := by
  have hw : j < c.wt.length := by rw [ok.wl]; exact h
  exact ⟨_, List.getElem?_eq_getElem hw, (ok.wi j _ _ (List.getElem?_eq_getElem h) (List.getElem?_eq_getElem hw)).1⟩
theorem ifDec {p : Prop} [Decidable p] {A B : Prop} (h1 : p → A) (h2 : ¬ p → B) : if decide p = true then A else B := by
  by_cases h : p
  · exact ifD h (h1 h)
  · exact ifN h (h2 h)
theorem ifSome {o : Option V} {A B : Prop} (h1 : o.isSome = true → A) (h2 : o.isSome = false → B) : if o.isSome = true then A else B := by
  cases e : o.isSome with
  | true => exact iteT (h1 e)
  | false => exact iteF (h2 e)

def spMay (R : Cw → Cs → Int → Prop) (CC CH : Addr) : Sp := fun vs H Q _ => ∃ (c : Cw) (st : Cs) (h : Int), vs = [.ref c.x, .int h] ∧ CwAt CC CH H c st ∧ c.Ok ∧ h ∈ c.hs ∧ (R c st h → Ret H Q (.bl true)) ∧ (¬ R c st h → Ret H Q (.bl false))
theorem ok_Crew_may_send (T : Txt K w mg) : FnOk P w K mg base CX0 2 T.Crew_may_send.f T.Crew_may_send.fd ["self", "house"] (spMay maySend T.k_Crew.C T.k_House.C) := by
  refine T.Crew_may_send.F.ok sc_Crew_may_send (fun vs H Q E h => ?_) (fun cdv A outer s H vs Q E hr h => ?_)
  · obtain ⟨c, st, h, rfl, _⟩ := h
    rfl
  obtain ⟨c, st, h, rfl, hc, ok, hh, q1, q2⟩ := h
  obtain ⟨dx, hx⟩ := hc.me
  refine ⟨_, (pss_cons (ps_set (i := 2) sc_Crew_may_send.nd rfl (by first | exact Or.inl rfl | exact Or.inr rfl) (pe_meth (pv 0) T.k_Crew.cl T.Crew_due_of.me (ok_Crew_due_of T) (hr.mono (by omega)) T.Crew_due_of.b .nil pass0 (pa_cons (pv 1) pa_nil)))
    (pss_one (ps_ret (pe_and (pe_cmp (pc_notN (pv 2))) (pe_and (pe_cmpR (opIn (K := K) rfl) (pv 1) (pe_meth (pv 0) T.k_Crew.cl T.Crew_wanting.me (ok_Crew_wanting T) (hr.mono (by omega)) T.Crew_wanting.b .nil pass0 (pa_cons (pv 2) pa_nil)) (by rfl)) (pe_one (pe_cmp (pc_dnotin (hu_of hr) (pe_tup (pa_cons (pv 2) (pa_cons (pv 1) pa_nil))) (fldK (K := K) rfl (pv 0) rfl)) (by rfl)))))))), ?_⟩
  refine ⟨_, rfl, c.x, dx, _, rfl, hx, rfl, _, rfl, c, st, h, rfl, hc, hh, ok.r.1, fun e => ?_, fun e => ?_⟩
  · exact ⟨_, rfl, _, rfl, ifBN rfl (q2 (fun m => by have := m.1; omega) H (Fr.refl _ _))⟩
  · obtain ⟨ws, hws, hwl⟩ := ok.wants e
    refine ⟨_, rfl, _, rfl, ifB rfl ?_⟩
    refine ⟨_, rfl, _, rfl, c.x, dx, _, rfl, hx, rfl, _, rfl, c, st, _, ws, rfl, hc, hws, fun p ⟨hp, _⟩ => ⟨p, _, rfl, .inl (SqL.of hp), rfl, flat_ints _, ?_⟩⟩
    rw [if_neg Bool.false_ne_true, inV_int]
    refine ⟨_, rfl, ifDec (fun hin => ?_) (fun hin => ?_)⟩
    · refine ⟨_, rfl, _, rfl, line_of (by simp), fun t ht => ?_⟩
      have f1 := Fr.new (l := []) (o := .tup [.int ((st.ho h).cnt : Nat), .int h]) ht
      refine ⟨_, rfl, c.x, _, dx, _, _, rfl, f1.at_ _ _ hx (by simp), T.k_Crew.cl, T.n_Crew_wall, rfl, c.wl, _, rfl, (hc.keep f1).wallD upd_same, ?_⟩
      cases hs : inW st (st.ho h).cnt h with
      | true =>
        rw [show (valV st.W [ki ((st.ho h).cnt : Nat), ki h]).isSome = true from hs]
        exact q2 (fun m => by have := m.2.2; rw [hs] at this; cases this) _ f1
      | false =>
        rw [show (valV st.W [ki ((st.ho h).cnt : Nat), ki h]).isSome = false from hs]
        exact q1 ⟨e, (want_iff hws h).mpr hin, hs⟩ _ f1
    · exact q2 (fun m => hin ((want_iff hws h).mp m.2.1)) H (Fr.refl _ _)

def spTake (CC CH : Addr) : Sp := fun vs H Q _ => ∃ (c : Cw) (st : Cs) (h o : Int), vs = [.ref c.x, .int h, .int o] ∧ CwAt CC CH H c st ∧ c.Ok ∧ h ∈ c.hs ∧ (mayTake c st h o → Ret H Q (.bl true)) ∧ (¬ mayTake c st h o → Ret H Q (.bl false))
theorem ok_Crew_may_take (T : Txt K w mg) : FnOk P w K mg base CX0 2 T.Crew_may_take.f T.Crew_may_take.fd ["self", "house", "other"] (spTake T.k_Crew.C T.k_House.C) := by
  refine T.Crew_may_take.F.ok sc_Crew_may_take (fun vs H Q E h => ?_) (fun cdv A outer s H vs Q E hr h => ?_)
  · obtain ⟨c, st, h, o, rfl, _⟩ := h
    rfl
  obtain ⟨c, st, h, o, rfl, hc, ok, hh, q1, q2⟩ := h
  obtain ⟨dx, hx⟩ := hc.me
  obtain ⟨dh, cp, hm⟩ := (hc.ho h hh).me
  refine ⟨_, (pss_cons (ps_set (i := 3) sc_Crew_may_take.nd rfl (by first | exact Or.inl rfl | exact Or.inr rfl) (pe_meth (pv 0) T.k_Crew.cl T.Crew_due_of.me (ok_Crew_due_of T) (hr.mono (by omega)) T.Crew_due_of.b .nil pass0 (pa_cons (pv 1) pa_nil)))
    (pss_cons (ps_if (PW.pt (pw_or (pt_cmp (pc_isN (pv 3))) (pw_or (pt_cmpR op_eq (pv 1) (pv 2) (nomark _)) (pw_or1 (pt_cmp (pc_din (hu_of hr) (pv 2) (fldK (K := K) rfl (pe_dget (hu_of hr) (fldK (K := K) rfl (pv 0) rfl) (pv 1) (fun _ _ => rfl)) rfl)) (by rfl)))))) (pss_one (ps_ret pe_bl)) pss_nil)
    (pss_one (ps_ret (pe_and (pe_cmpR (opIn (K := K) rfl) (pv 1) (pe_meth (pv 0) T.k_Crew.cl T.Crew_wanting.me (ok_Crew_wanting T) (hr.mono (by omega)) T.Crew_wanting.b .nil pass0 (pa_cons (pv 3) pa_nil)) (by rfl)) (pe_one (pe_cmp (pc_din (hu_of hr) (pe_tup (pa_cons (pv 3) (pa_cons (pv 2) pa_nil))) (fldK (K := K) rfl (pv 0) rfl)) (by rfl)))))))), ?_⟩
  refine ⟨_, rfl, c.x, dx, _, rfl, hx, rfl, _, rfl, c, st, h, rfl, hc, hh, ok.r.1, fun e => ?_, fun e => ?_⟩
  · exact ⟨_, rfl, _, rfl, ifB rfl (q2 (fun m => by have := m.1; omega) H (Fr.refl _ _))⟩
  · obtain ⟨ws, hws, hwl⟩ := ok.wants e
    refine ⟨_, rfl, _, rfl, ifBN rfl ⟨_, rfl, _, rfl, rfl, _, rfl, ifDec (fun he => ?_) (fun he => ?_)⟩⟩
    · exact q2 (fun m => m.2.1 (V.int.inj he)) H (Fr.refl _ _)
    · have he' : h ≠ o := fun z => he (by rw [z])
      refine ⟨_, rfl, _, rfl, c.x, _, dx, _, _, rfl, hx, T.k_Crew.cl, T.n_Crew_members, rfl, _, rfl, c.mb, _, rfl, hc.get hh, _, _, dh, _, _, rfl, hm, T.k_House.cl, T.n_House_desk, rfl, (st.ho h).desk, _, rfl, (hc.ho h hh).deskD o, _, rfl, ifSome (fun hd => ?_) (fun hd => ?_)⟩
      · exact q2 (fun m => by have := m.2.2.1; rw [show inD (st.ho h) o = true from hd] at this; cases this) H (Fr.refl _ _)
      · refine ⟨_, rfl, _, rfl, c.x, dx, _, rfl, hx, rfl, _, rfl, c, st, _, ws, rfl, hc, hws, fun p ⟨hp, _⟩ => ⟨p, _, rfl, .inl (SqL.of hp), rfl, flat_ints _, ?_⟩⟩
        rw [if_neg Bool.false_ne_true, inV_int]
        refine ⟨_, rfl, ifDec (fun hin => ?_) (fun hin => ?_)⟩
        · refine ⟨_, rfl, _, rfl, line_of (by simp), fun t ht => ?_⟩
          have f1 := Fr.new (l := []) (o := .tup [.int ((st.ho h).cnt : Nat), .int o]) ht
          refine ⟨_, rfl, c.x, _, dx, _, _, rfl, f1.at_ _ _ hx (by simp), T.k_Crew.cl, T.n_Crew_wall, rfl, c.wl, _, rfl, (hc.keep f1).wallD upd_same, ?_⟩
          cases hs : inW st (st.ho h).cnt o with
          | true =>
            rw [show (valV st.W [ki ((st.ho h).cnt : Nat), ki o]).isSome = true from hs]
            exact q1 ⟨e, he', hd, (want_iff hws h).mpr hin, hs⟩ _ f1
          | false =>
            rw [show (valV st.W [ki ((st.ho h).cnt : Nat), ki o]).isSome = false from hs]
            exact q2 (fun m => by have := m.2.2.2.2; rw [hs] at this; cases this) _ f1
        · exact q2 (fun m => hin ((want_iff hws h).mp m.2.2.2.1)) H (Fr.refl _ _)

theorem ok_Crew_may_go (T : Txt K w mg) : FnOk P w K mg base CX0 2 T.Crew_may_go.f T.Crew_may_go.fd ["self", "house"] (spMay mayGo T.k_Crew.C T.k_House.C) := by
  refine T.Crew_may_go.F.ok sc_Crew_may_go (fun vs H Q E h => ?_) (fun cdv A outer s H vs Q E hr h => ?_)
  · obtain ⟨c, st, h, rfl, _⟩ := h
    rfl
  obtain ⟨c, st, h, rfl, hc, ok, hh, q1, q2⟩ := h
  obtain ⟨dx, hx⟩ := hc.me
  obtain ⟨dh, cp, hm⟩ := (hc.ho h hh).me
  refine ⟨_, (pss_cons (ps_set (i := 2) sc_Crew_may_go.nd rfl (by first | exact Or.inl rfl | exact Or.inr rfl) (pe_meth (pv 0) T.k_Crew.cl T.Crew_due_of.me (ok_Crew_due_of T) (hr.mono (by omega)) T.Crew_due_of.b .nil pass0 (pa_cons (pv 1) pa_nil)))
    (pss_cons (ps_if (pt_cmp (pc_isN (pv 2))) (pss_one (ps_ret pe_bl)) pss_nil)
    (pss_cons (ps_set (i := 3) sc_Crew_may_go.nd rfl (by first | exact Or.inl rfl | exact Or.inr rfl) (pe_meth (pv 0) T.k_Crew.cl T.Crew_wanting.me (ok_Crew_wanting T) (hr.mono (by omega)) T.Crew_wanting.b .nil pass0 (pa_cons (pv 2) pa_nil)))
    (pss_cons (ps_if (pt_cmpR (opNotIn (K := K) rfl) (pv 1) (pv 3) (by rfl)) (pss_one (ps_ret pe_bl)) pss_nil)
    (pss_cons (ps_set (i := 4) sc_Crew_may_go.nd rfl (by first | exact Or.inl rfl | exact Or.inr rfl) (fldK (K := K) rfl (pe_dget (hu_of hr) (fldK (K := K) rfl (pv 0) rfl) (pv 1) (fun _ _ => rfl)) rfl))
    (pss_one (ps_ret (pe_and (pe_cmp (pc_din (hu_of hr) (pe_tup (pa_cons (pv 2) (pa_cons (pv 1) pa_nil))) (fldK (K := K) rfl (pv 0) rfl)) (by rfl)) (pe_one (pe_callB (allK (K := K) rfl rfl) (by rfl) T.z_all bt_all (pa_cons (pe_lc rfl sc_Crew_may_go.nd (piL (K := K) rfl (pv 3)) (blkOk_by (own := [("other", 5)]) (N := ["self", "house", "number", "some", "desk", "other"]) (sc := defScope s_Crew_may_go) (by decide +kernel)) (fun _ _ _ _ _ => (pg_name (i := 5) sc_Crew_may_go.nd rfl (by first | exact Or.inl rfl | exact Or.inr rfl))) (fun _ _ _ _ _ => pts_nil) (fun _ _ _ _ _ => (pe_or (pe_cmpR op_eq (pv 5) (pv 1) (nomark _)) (pe_one (pe_cmp (pc_din (hu_of hr) (pv 5) (pv 4)) (by rfl)))))) pa_nil))))))))))), ?_⟩
  refine ⟨_, rfl, c.x, dx, _, rfl, hx, rfl, _, rfl, c, st, h, rfl, hc, hh, ok.r.1, fun e => ?_, fun e => ?_⟩
  · exact ⟨_, rfl, _, rfl, ifB rfl (q2 (fun m => by have := m.1; omega) H (Fr.refl _ _))⟩
  · obtain ⟨ws, hws, hwl⟩ := ok.wants e
    refine ⟨_, rfl, _, rfl, ifBN rfl ⟨_, rfl, c.x, dx, _, rfl, hx, rfl, _, rfl, c, st, _, ws, rfl, hc, hws, fun p ⟨hp, _⟩ => ?_⟩⟩
    refine ⟨_, rfl, _, rfl, p, _, rfl, .inl (SqL.of hp), rfl, flat_ints _, _, rfl, ?_⟩
    rw [if_pos rfl, inV_int]
    by_cases hin : h ∈ ws
    · rw [decide_eq_true hin]
      refine iteF ?_
      refine ⟨_, rfl, c.x, _, dx, _, _, rfl, hx, T.k_Crew.cl, T.n_Crew_members, rfl, _, rfl, c.mb, _, rfl, hc.get hh, _, _, dh, _, _, rfl, hm, T.k_House.cl, T.n_House_desk, rfl, ?_⟩
      refine ⟨_, rfl, _, rfl, line_of (by simp), fun t ht => ?_⟩
      have f1 := Fr.new (l := []) (o := .tup [.int ((st.ho h).cnt : Nat), .int h]) ht
      refine ⟨_, rfl, c.x, _, dx, _, _, rfl, f1.at_ _ _ hx (by simp), T.k_Crew.cl, T.n_Crew_wall, rfl, c.wl, _, rfl, (hc.keep f1).wallD upd_same, _, rfl, ifSome (fun hs => ?_) (fun hs => ?_)⟩
      · have hp1 := f1.at_ _ _ hp (by simp)
        have hd1 := f1.at_ _ _ (hc.ho h hh).desk (by simp)
        refine ⟨_, rfl, p, rfl, ⟨_, SqL.of hp1⟩, fun D hD => lc_map (xs := ws.map V.int) walk_list hD (fun y => match y with | .int g => V.bl (decide (g = h) || inD (st.ho h) g) | _ => .non) (by rw [List.length_map]; omega) (fun H' f => SqL.of (f.at_ _ _ hp1 (by simp))) (fun _ => rfl) (fun y hy H2 f2 R r => ?_) (fun H2 f2 hl => ?_)⟩
        · obtain ⟨g, hg, rfl⟩ := List.mem_map.mp hy
          refine ⟨_, rfl, _, rfl, rfl, _, rfl, ifDec (fun ge => ?_) (fun ge => ?_)⟩
          · have r' := r H2 (Fr.refl _ _)
            dsimp only at r'
            rw [decide_eq_true (V.int.inj ge), Bool.true_or] at r'
            exact r'
          · have r' := r H2 (Fr.refl _ _)
            dsimp only at r'
            rw [decide_eq_false (fun z => ge (by rw [z])), Bool.false_or] at r'
            exact ⟨_, rfl, _, rfl, (st.ho h).desk, _, rfl, DGet.k (k := ki g) (f2.at_ _ _ hd1 (by simp)), r'⟩
        · have e1 : List.map (fun y => match y with | V.int g => V.bl (decide (g = h) || inD (st.ho h) g) | _ => .non) (ws.map V.int) = (ws.map fun g => decide (g = h) || inD (st.ho h) g).map V.bl := by
            rw [List.map_map, List.map_map]
            rfl
          rw [e1] at hl
          refine ⟨D, _, rfl, SqL.of hl, ?_⟩
          have iff : (ws.map fun g => decide (g = h) || inD (st.ho h) g).all id = true ↔ ∀ g, want c (st.ho h).cnt g → g = h ∨ inD (st.ho h) g = true := by
            rw [List.all_map, List.all_eq_true]
            constructor
            · intro a g hg
              have := a g ((want_iff hws g).mp hg)
              simpa using this
            · intro a g hg
              have := a g ((want_iff hws g).mpr hg)
              simpa using this
          cases ha : (ws.map fun g => decide (g = h) || inD (st.ho h) g).all id with
          | true => exact q1 ⟨e, .inr ⟨hs, iff.mp ha⟩⟩ _ (f1.trans f2)
          | false => exact q2 (fun m => by
              rcases m.2 with m | m
              · exact m ((want_iff hws h).mpr hin)
              · rw [iff.mpr m.2] at ha; cases ha) _ (f1.trans f2)
      · exact q2 (fun m => by
          rcases m.2 with m | m
          · exact m ((want_iff hws h).mpr hin)
          · have := m.1; rw [show inW st (st.ho h).cnt h = false from hs] at this; cases this) _ f1
    · rw [decide_eq_false hin]
      exact iteT (q1 ⟨e, .inl fun m => hin ((want_iff hws h).mp m)⟩ H (Fr.refl _ _))

/-! ### deeds -/
inductive Dd where | go (h : Int) | send (h : Int) | take (h o : Int)
def Dd.vs : Dd → List V
  | .go h => [.str "go", .int h]
  | .send h => [.str "send", .int h]
  | .take h o => [.str "take", .int h, .int o]
def Dd.may (c : Cw) (st : Cs) : Dd → Prop
  | .go h => h ∈ c.hs ∧ mayGo c st h
  | .send h => h ∈ c.hs ∧ maySend c st h
  | .take h o => h ∈ c.hs ∧ o ∈ c.hs ∧ mayTake c st h o
def DdAt (H : Hp) (d : Dd) (v : V) : Prop := ∃ p, v = .ref p ∧ H p = some (.tup d.vs)
theorem DdAt.keep {H H' : Hp} (k : KT H H') {d : Dd} {v : V} (a : DdAt H d v) : DdAt H' d v := let ⟨p, e, q⟩ := a; ⟨p, e, k _ _ q⟩
def Dd.pd : Dd → PyData
  | .go h => .tuple [.str "go", .int h]
  | .send h => .tuple [.str "send", .int h]
  | .take h o => .tuple [.str "take", .int h, .int o]
theorem DdAt.dp {K : PySem.W.Frag} {H : Hp} {d : Dd} {v : V} (a : DdAt H d v) : Dp K H v d.pd := by
  obtain ⟨p, rfl, h⟩ := a
  cases d with
  | go h' => exact .tup (SqT.of h) (.cons (.str _) (.cons (.int _) .nil))
  | send h' => exact .tup (SqT.of h) (.cons (.str _) (.cons (.int _) .nil))
  | take h' o => exact .tup (SqT.of h) (.cons (.str _) (.cons (.int _) (.cons (.int _) .nil)))
end
end RL

/-! crew.py: the deeds that may be done. -/
namespace RL
open PySem L2 RlR

theorem useK {G F : Hp → Prop} {A : Prop} (use : (∀ H2, G H2 → F H2) → A) (key : ∀ H2, G H2 → F H2) : A := use key
theorem lock_new {H : Hp} {d D : Addr} {u z o : HO} (hd : H d = some u) (hD : H D = none) : Fr [] (upd H d z) (upd (upd H D o) d z) := by
  have ne : d ≠ D := ne_of_none hd hD
  have at_ : ∀ a y, (upd H d z) a = some y → (upd (upd H D o) d z) a = some y := fun a y e => by
    by_cases ha : a = d
    · subst ha
      rw [upd_same] at e ⊢
      exact e
    · rw [upd_ne ha] at e ⊢
      rw [upd_ne (ne_of_none e hD)]
      exact e
  exact ⟨fun a y e _ => at_ a y e, fun a y e => at_ a _ e, fun a y e => ⟨y, at_ a y e⟩⟩
theorem unlock {H H' : Hp} {d : Addr} {u z : HO} (hd : H d = some u) (hn : noTup u) (f : Fr [] (upd H d z) H') : Fr [] H (upd H' d u) := by
  have at_ : ∀ a y, H a = some y → (upd H' d u) a = some y := fun a y e => by
    by_cases ha : a = d
    · subst ha
      rw [hd] at e
      rw [upd_same]
      exact e
    · rw [upd_ne ha]
      exact f.at_ _ _ (by rw [upd_ne ha]; exact e) (by simp)
  exact ⟨fun a y e _ => at_ a y e, fun a y e => at_ a _ e, fun a y e => ⟨y, at_ a y e⟩⟩
section
variable {CC CH : Addr} {H H' : Hp} {c : Cw} {st : Cs}
theorem CwAt.keepL {l : List Addr} (x : CwAt CC CH H c st) (f : Fr l H H') (hx : c.x ∉ l) (hw : c.wl ∉ l) (hl : ∀ a xs, H a = some (.lst xs) → a ∉ l) (hm : Rd H' c.mb (.dK (c.hs.map fun h => (ki h, V.ref (st.ho h).ma)))) (hf : ∀ h ∈ c.hs, ∀ a ∈ l, a ∉ fp (st.ho h)) : CwAt CC CH H' c st := by
  obtain ⟨dx, e⟩ := x.me
  obtain ⟨us, hu, hp⟩ := x.wanted
  exact ⟨⟨dx, f.at_ _ _ e hx⟩, x.os.keep f.tup, x.row.keep f.tup, f.at_ _ _ x.wall hw, ⟨us, f.at_ _ _ hu (hl _ _ hu), Paired.mapP hp fun ws u ⟨p, e, q⟩ => ⟨p, e, f.at_ _ _ q (hl _ _ q)⟩⟩, hm, fun h hh => (x.ho h hh).keepL f (hf h hh), fun j h v q => (x.wv j h v q).keep f.tup, x.sep, x.smb⟩
theorem CwAt.locked (x : CwAt CC CH H c st) (h : H c.mb = some (.dK (c.hs.map fun h => (ki h, V.ref (st.ho h).ma)))) (od : Obj) : CwAt CC CH (upd H c.mb (.frz od (.dK (c.hs.map fun h => (ki h, V.ref (st.ho h).ma))))) c st := by
  obtain ⟨dx, e⟩ := x.me
  refine x.keepL (l := [c.mb]) (Fr.set h trivial (by simp)) ?_ ?_ ?_ (.inr ⟨od, upd_same⟩) (fun g hg a ha => by rw [List.mem_singleton.mp ha]; exact (x.smb g hg).1)
  · intro q
    rw [List.mem_singleton.mp q, h] at e
    cases e
  · intro q
    have w := x.wall
    rw [List.mem_singleton.mp q, h] at w
    cases w
  · intro a xs ha q
    rw [List.mem_singleton.mp q, h] at ha
    cases ha
end
def Dd.hs : Dd → Int
  | .go h => h
  | .send h => h
  | .take h _ => h
theorem Dd.may_hs {c : Cw} {st : Cs} : ∀ {d : Dd}, d.may c st → d.hs ∈ c.hs
  | .go _, m => m.1
  | .send _, m => m.1
  | .take _ _, m => m.1
section
variable {P : Program} {w : World} {K : PySem.W.Frag} {mg : Str → Option Value} {base : Heap}
def spMayAll (CC CH : Addr) : Sp := fun vs H Q _ => ∃ (c : Cw) (st : Cs), vs = [.ref c.x] ∧ CwAt CC CH H c st ∧ c.Ok ∧ H c.mb = some (.dK (c.hs.map fun h => (ki h, V.ref (st.ho h).ma))) ∧
  ∀ p H' us, H p = none → Fr [] H H' → H' p = some (.lst us) → us.length ≤ 60 → (∀ u ∈ us, ∃ d : Dd, DdAt H' d u ∧ d.may c st) → (us = [] → ∀ d : Dd, ¬ d.may c st) → Q (.ref p) H'
theorem alikes (d e : Dd) : PySem.W.alike d.pd e.pd = true := by cases d <;> cases e <;> rfl
theorem ok_Crew_may (T : Txt K w mg) : FnOk P w K mg base CX0 3 T.Crew_may.f T.Crew_may.fd ["self"] (spMayAll T.k_Crew.C T.k_House.C) := by
  refine T.Crew_may.F.ok sc_Crew_may (fun vs H Q E h => ?_) (fun cdv A outer s H vs Q E hr h => ?_)
  · obtain ⟨c, st, rfl, _⟩ := h
    rfl
  obtain ⟨c, st, rfl, hc, ok, hmb, q⟩ := h
  obtain ⟨dx, hx⟩ := hc.me
  have h5 := ok.hl
  refine ⟨_, (pss_cons (ps_set (i := 1) sc_Crew_may.nd rfl (by first | exact Or.inl rfl | exact Or.inr rfl) (pe_lst pa_nil))
    (pss_cons (ps_lock (ps_for PassesOwn.never rfl (pi_keys (fldK (K := K) rfl (pv 0) rfl)) (pg_name (i := 2) sc_Crew_may.nd rfl (by first | exact Or.inl rfl | exact Or.inr rfl)) (pss_cons (ps_if (pt_val (pe_meth (pv 0) T.k_Crew.cl T.Crew_may_go.me (ok_Crew_may_go T) (hr.mono (by omega)) T.Crew_may_go.b .nil pass0 (pa_cons (pv 2) pa_nil))) (pss_one (ps_expr (pe_bm PySem.F.plainAttrs_list PySem.F.slot_list_append PySem.F.type_list_append mt_append (pv 1) (pa_cons (pe_tup (pa_cons pe_str (pa_cons (pv 2) pa_nil))) pa_nil)))) pss_nil)
    (pss_cons (ps_if (pt_val (pe_meth (pv 0) T.k_Crew.cl T.Crew_may_send.me (ok_Crew_may_send T) (hr.mono (by omega)) T.Crew_may_send.b .nil pass0 (pa_cons (pv 2) pa_nil))) (pss_one (ps_expr (pe_bm PySem.F.plainAttrs_list PySem.F.slot_list_append PySem.F.type_list_append mt_append (pv 1) (pa_cons (pe_tup (pa_cons pe_str (pa_cons (pv 2) pa_nil))) pa_nil)))) pss_nil)
    (pss_one (ps_expr (pe_bm PySem.F.plainAttrs_list PySem.F.slot_list_extend PySem.F.type_list_extend mt_extend (pv 1) (pa_cons (pe_lc rfl sc_Crew_may.nd (pi_keys (fldK (K := K) rfl (pv 0) rfl)) (blkOk_by (own := [("other", 3)]) (N := ["self", "found", "house", "other"]) (sc := defScope s_Crew_may) (by decide +kernel)) (fun _ _ _ _ _ => (pg_name (i := 3) sc_Crew_may.nd rfl (by first | exact Or.inl rfl | exact Or.inr rfl))) (fun _ _ _ _ _ => (pts_one (pt_val (pe_meth (pv 0) T.k_Crew.cl T.Crew_may_take.me (ok_Crew_may_take T) (hr.mono (by omega)) T.Crew_may_take.b .nil pass0 (pa_cons (pv 2) (pa_cons (pv 3) pa_nil)))))) (fun _ _ _ _ _ => (pe_tup (pa_cons pe_str (pa_cons (pv 2) (pa_cons (pv 3) pa_nil)))))) pa_nil))))))))
    (pss_one (ps_ret (pe_callB (sortedDK (K := K) rfl hr.units) (by rfl) T.z_sorted bt_sorted (pa_cons (pv 1) pa_nil)))))), ?_⟩
  refine ⟨Nat.zero_le _, fun D hD => ?_⟩
  have neD : c.mb ≠ D := ne_of_none hmb hD
  refine ⟨c.mb, .dK (c.hs.map fun h => (ki h, V.ref (st.ho h).ma)), by rw [upd_ne neD]; exact hmb, trivial, fun od => ?_⟩
  have fL := lock_new (z := .frz od (.dK (c.hs.map fun h => (ki h, V.ref (st.ho h).ma)))) (o := .lst []) hmb hD
  have hcL := hc.locked hmb od
  have hDL : (upd H c.mb (.frz od (.dK (c.hs.map fun h => (ki h, V.ref (st.ho h).ma))))) D = none := by rw [upd_ne neD.symm]; exact hD
  have hmbL : (upd H c.mb (.frz od (.dK (c.hs.map fun h => (ki h, V.ref (st.ho h).ma))))) c.mb = some (.frz od (.dK (c.hs.map fun h => (ki h, V.ref (st.ho h).ma)))) := upd_same
  obtain ⟨dxL, hxL⟩ := hcL.me
  generalize hHL : upd H c.mb (.frz od (.dK (c.hs.map fun h => (ki h, V.ref (st.ho h).ma)))) = HL at fL hcL hDL hmbL hxL
  have hDs : (upd (upd H D (.lst [])) c.mb (.frz od (.dK (c.hs.map fun h => (ki h, V.ref (st.ho h).ma))))) D = some (.lst []) := by rw [upd_ne neD.symm, upd_same]
  refine ⟨_, rfl, c.x, _, dxL, _, _, rfl, fL.at_ _ _ hxL (by simp), T.k_Crew.cl, T.n_Crew_members, rfl, c.mb, od, rfl, .inl ⟨_, fL.at_ _ _ hmbL (by simp), ?_⟩⟩
  refine for_it (walk_keys (d := c.mb) (o := od) (kvs := c.hs.map fun h => (ki h, V.ref (st.ho h).ma))) (fun i σ H' => ∃ o us, σ = [some (.ref c.x), some (.ref D), o, none] ∧ Fr [] HL H' ∧ H' D = some (.lst us) ∧ us.length ≤ 7 * i ∧ (∀ u ∈ us, ∃ d : Dd, DdAt H' d u ∧ d.may c st) ∧ (us = [] → ∀ d : Dd, d.may c st → d.hs ∉ c.hs.take i))
    ⟨none, [], rfl, fL, hDs, Nat.zero_le _, by simp, by simp⟩ (fun i σ H' _ ⟨_, _, _, f, _⟩ => f.at_ _ _ hmbL (by simp)) ?_ ?_
  · rintro i x σ H1 H1' hi ⟨o, us, rfl, f1, hus, hln, hall, hno⟩ ⟨rfl, k, v, hkv, rfl⟩
    rw [List.length_map] at hi
    rw [List.getElem?_map, Option.map_eq_some_iff] at hkv
    obtain ⟨h, hhi, ekv⟩ := hkv
    cases ekv
    have hh : h ∈ c.hs := List.mem_of_getElem? hhi
    refine useK (G := fun H2 => ∃ us1, Fr [] HL H2 ∧ H2 D = some (.lst us1) ∧ us1.length ≤ 7 * i + 1 ∧ (∀ u ∈ us1, ∃ d : Dd, DdAt H2 d u ∧ d.may c st) ∧ (us1 = [] → (∀ d : Dd, d.may c st → d.hs ∉ c.hs.take i) ∧ ¬ mayGo c st h)) (fun key => ⟨_, rfl, c.x, dxL, _, rfl, f1.at_ _ _ hxL (by simp), rfl, _, rfl, c, st, h, rfl, hcL.keep f1, ok, hh, fun m H2 f2 => ⟨_, rfl, iteT ?_⟩, fun m H2 f2 => ⟨_, rfl, iteF (key H2 ⟨us, f1.trans f2, f2.at_ _ _ hus (by simp), by omega, fun u hu => let ⟨d, a, b⟩ := hall u hu; ⟨d, a.keep f2.tup, b⟩, fun e => ⟨hno e, m⟩⟩)⟩⟩) ?_
    · have h2 := f2.at_ _ _ hus (by simp)
      refine ⟨_, rfl, .inl ⟨rfl, _, SqL.of h2⟩, _, rfl, line_of (by simp), fun t ht => ⟨D, _, _, rfl, rfl, (Fr.new (l := []) ht).at_ _ _ h2 (by simp), line_lt (by omega), key _ ⟨us ++ [.ref t], ?_, upd_same, by rw [List.length_append, List.length_singleton]; omega, fun u hu => ?_, fun e => by simp at e⟩⟩⟩
      · exact ((f1.trans f2).trans (Fr.new ht)).set1 ((Fr.new (l := []) ht).at_ _ _ h2 (by simp)) trivial hDL
      · have f3 : KT H2 (upd (upd H2 t (.tup [.str "go", .int h])) D (.lst (us ++ [.ref t]))) := (Fr.new (l := []) ht).tup.trans (Fr.set (l := [D]) ((Fr.new (l := []) ht).at_ _ _ h2 (by simp)) trivial (by simp)).tup
        rcases List.mem_append.mp hu with hu | hu
        · obtain ⟨d, a, b⟩ := hall u hu
          exact ⟨d, a.keep (f2.tup.trans f3), b⟩
        · rw [List.mem_singleton.mp hu]
          exact ⟨.go h, ⟨t, rfl, (Fr.set (l := [D]) ((Fr.new (l := []) ht).at_ _ _ h2 (by simp)) trivial (by simp)).tup _ _ upd_same⟩, hh, m⟩
    rintro H2 ⟨us1, f2, hus1, hl1, hall1, hno1⟩
    refine useK (G := fun H3 => ∃ us1, Fr [] HL H3 ∧ H3 D = some (.lst us1) ∧ us1.length ≤ 7 * i + 2 ∧ (∀ u ∈ us1, ∃ d : Dd, DdAt H3 d u ∧ d.may c st) ∧ (us1 = [] → (∀ d : Dd, d.may c st → d.hs ∉ c.hs.take i) ∧ ¬ mayGo c st h ∧ ¬ maySend c st h)) (fun key => ⟨_, rfl, c.x, dxL, _, rfl, f2.at_ _ _ hxL (by simp), rfl, _, rfl, c, st, h, rfl, hcL.keep f2, ok, hh, fun m H3 f3 => ⟨_, rfl, iteT ?_⟩, fun m H3 f3 => ⟨_, rfl, iteF (key H3 ⟨us1, f2.trans f3, f3.at_ _ _ hus1 (by simp), by omega, fun u hu => let ⟨d, a, b⟩ := hall1 u hu; ⟨d, a.keep f3.tup, b⟩, fun e => ⟨(hno1 e).1, (hno1 e).2, m⟩⟩)⟩⟩) ?_
    · have h2 := f3.at_ _ _ hus1 (by simp)
      refine ⟨_, rfl, .inl ⟨rfl, _, SqL.of h2⟩, _, rfl, line_of (by simp), fun t ht => ⟨D, _, _, rfl, rfl, (Fr.new (l := []) ht).at_ _ _ h2 (by simp), line_lt (by omega), key _ ⟨us1 ++ [.ref t], ?_, upd_same, by rw [List.length_append, List.length_singleton]; omega, fun u hu => ?_, fun e => by simp at e⟩⟩⟩
      · exact ((f2.trans f3).trans (Fr.new ht)).set1 ((Fr.new (l := []) ht).at_ _ _ h2 (by simp)) trivial hDL
      · have f4 : KT H3 (upd (upd H3 t (.tup [.str "send", .int h])) D (.lst (us1 ++ [.ref t]))) := (Fr.new (l := []) ht).tup.trans (Fr.set (l := [D]) ((Fr.new (l := []) ht).at_ _ _ h2 (by simp)) trivial (by simp)).tup
        rcases List.mem_append.mp hu with hu | hu
        · obtain ⟨d, a, b⟩ := hall1 u hu
          exact ⟨d, a.keep (f3.tup.trans f4), b⟩
        · rw [List.mem_singleton.mp hu]
          exact ⟨.send h, ⟨t, rfl, (Fr.set (l := [D]) ((Fr.new (l := []) ht).at_ _ _ h2 (by simp)) trivial (by simp)).tup _ _ upd_same⟩, hh, m⟩
    rintro H3 ⟨us2, f3, hus2, hl2, hall2, hno2⟩
    refine ⟨_, rfl, .inl ⟨rfl, _, SqL.of hus2⟩, _, rfl, c.x, _, dxL, _, _, rfl, f3.at_ _ _ hxL (by simp), T.k_Crew.cl, T.n_Crew_members, rfl, c.mb, od, rfl, .inl ⟨_, f3.at_ _ _ hmbL (by simp), fun L hL => ?_⟩⟩
    have neDL : D ≠ L := ne_of_none hus2 hL
    refine lc_it (walk_keys (d := c.mb) (o := od) (kvs := c.hs.map fun h => (ki h, V.ref (st.ho h).ma))) (fun n H' => ∃ zs, Fr [] H3 H' ∧ H' L = some (.lst zs) ∧ zs.length ≤ n ∧ (∀ u ∈ zs, ∃ d : Dd, DdAt H' d u ∧ d.may c st) ∧ (zs = [] → ∀ o ∈ c.hs.take n, ¬ mayTake c st h o))
      ⟨[], Fr.new hL, upd_same, Nat.le_refl _, by simp, by simp⟩ (fun n H' _ ⟨_, f, _⟩ => (f3.trans f).at_ _ _ hmbL (by simp)) ?_ ?_
    · rintro n x H4 H4' hn ⟨zs, f4, hzs, hzl, hza, hzn⟩ ⟨rfl, k, v, hkv, rfl⟩
      rw [List.length_map] at hn
      rw [List.getElem?_map, Option.map_eq_some_iff] at hkv
      obtain ⟨oo, hoi, ekv⟩ := hkv
      cases ekv
      have ho : oo ∈ c.hs := List.mem_of_getElem? hoi
      have f04 := f3.trans f4
      refine ⟨rfl, _, rfl, c.x, dxL, _, rfl, f04.at_ _ _ hxL (by simp), rfl, _, rfl, _, rfl, c, st, h, oo, rfl, hcL.keep f04, ok, hh, fun m H5 f5 => ⟨_, rfl, iteT ?_⟩, fun m H5 f5 => ⟨_, rfl, iteF ⟨zs, f4.trans f5, f5.at_ _ _ hzs (by simp), by omega, fun u hu => let ⟨d, a, b⟩ := hza u hu; ⟨d, a.keep f5.tup, b⟩, fun e z hz => ?_⟩⟩⟩
      · have h2 := f5.at_ _ _ hzs (by simp)
        refine ⟨_, rfl, _, rfl, line_of (by simp), fun t ht => ⟨_, (Fr.new (l := []) ht).at_ _ _ h2 (by simp), line_lt (by omega), zs ++ [.ref t], ?_, upd_same, by rw [List.length_append, List.length_singleton]; omega, fun u hu => ?_, fun e => by simp at e⟩⟩
        · exact ((f4.trans f5).trans (Fr.new ht)).set1 ((Fr.new (l := []) ht).at_ _ _ h2 (by simp)) trivial hL
        · have f6 : KT H5 (upd (upd H5 t (.tup [.str "take", .int h, .int oo])) L (.lst (zs ++ [.ref t]))) := (Fr.new (l := []) ht).tup.trans (Fr.set (l := [L]) ((Fr.new (l := []) ht).at_ _ _ h2 (by simp)) trivial (by simp)).tup
          rcases List.mem_append.mp hu with hu | hu
          · obtain ⟨d, a, b⟩ := hza u hu
            exact ⟨d, a.keep (f5.tup.trans f6), b⟩
          · rw [List.mem_singleton.mp hu]
            exact ⟨.take h oo, ⟨t, rfl, (Fr.set (l := [L]) ((Fr.new (l := []) ht).at_ _ _ h2 (by simp)) trivial (by simp)).tup _ _ upd_same⟩, hh, ho, m⟩
      · rw [List.take_add_one, hoi, List.mem_append] at hz
        rcases hz with hz | hz
        · exact hzn e z hz
        · have : z = oo := by simpa using hz
          rw [this]
          exact m
    · rintro H4 ⟨zs, f4, hzs, hzl, hza, hzn⟩
      rw [List.length_map] at hzl hzn
      have hD4 := f4.at_ _ _ hus2 (by simp)
      refine ⟨D, L, _, _, rfl, rfl, hD4, hzs, line_of (by omega), ?_⟩
      have f5 : Fr [D] H4 (upd H4 D (.lst (us2 ++ zs))) := Fr.set hD4 trivial (by simp)
      refine ⟨_, us2 ++ zs, rfl, (f3.trans f4).own f5 hDL, upd_same, by rw [List.length_append]; omega, fun u hu => ?_, fun e => ?_⟩
      · rcases List.mem_append.mp hu with hu | hu
        · obtain ⟨d, a, b⟩ := hall2 u hu
          exact ⟨d, a.keep (f4.tup.trans f5.tup), b⟩
        · obtain ⟨d, a, b⟩ := hza u hu
          exact ⟨d, a.keep f5.tup, b⟩
      · obtain ⟨e1, e2⟩ := List.append_eq_nil_iff.mp e
        obtain ⟨n1, n2, n3⟩ := hno2 e1
        intro d md hd
        rw [List.take_add_one, hhi, List.mem_append] at hd
        rcases hd with hd | hd
        · exact n1 d md hd
        · have hdh : d.hs = h := by simpa using hd
          cases d with
          | go g => cases (show g = h from hdh); exact n2 md.2
          | send g => cases (show g = h from hdh); exact n3 md.2
          | take g o' =>
            cases (show g = h from hdh)
            exact hzn e2 o' (by rw [List.take_length]; exact md.2.1) md.2.2
  · rintro σ H1 ⟨o, us, rfl, f1, hus, hln, hall, hno⟩
    rw [List.length_map] at hln hno
    rw [List.take_length] at hno
    have hmb1 := f1.at_ _ _ hmbL (by simp)
    refine ⟨hmb1, ?_⟩
    have fU : Fr [c.mb] H1 (upd H1 c.mb (.dK (c.hs.map fun h => (ki h, V.ref (st.ho h).ma)))) := Fr.set hmb1 trivial (by simp)
    have hus' := fU.at_ _ _ hus (by simpa using neD.symm)
    have f0 : Fr [] H (upd H1 c.mb (.dK (c.hs.map fun h => (ki h, V.ref (st.ho h).ma)))) := unlock hmb trivial (by rw [hHL]; exact f1)
    have hdd : ∀ u ∈ us, ∃ d : Dd, DdAt (upd H1 c.mb (.dK (c.hs.map fun h => (ki h, V.ref (st.ho h).ma)))) d u ∧ d.may c st := fun u hu => let ⟨d, a, b⟩ := hall u hu; ⟨d, a.keep fU.tup, b⟩
    have ch : ∃ en : V → PyData, ∀ u ∈ us, ∃ d : Dd, DdAt (upd H1 c.mb (.dK (c.hs.map fun h => (ki h, V.ref (st.ho h).ma)))) d u ∧ en u = d.pd := by
      refine ⟨fun u => open Classical in if z : ∃ d : Dd, DdAt (upd H1 c.mb (.dK (c.hs.map fun h => (ki h, V.ref (st.ho h).ma)))) d u then z.choose.pd else .none, fun u hu => ?_⟩
      obtain ⟨d, a, b⟩ := hdd u hu
      have z : ∃ d : Dd, DdAt (upd H1 c.mb (.dK (c.hs.map fun h => (ki h, V.ref (st.ho h).ma)))) d u := ⟨d, a⟩
      exact ⟨z.choose, z.choose_spec, dif_pos z⟩
    obtain ⟨en, hen⟩ := ch
    refine ⟨_, rfl, D, us, en, rfl, SqL.of hus', fun u hu => ?_, fun a ha b hb => ?_, .inl fun a ha => ?_, fun u hu => ?_, fun ys p hperm hp => ?_⟩
    · obtain ⟨d, a, e⟩ := hen u hu
      rw [e]
      exact a.dp
    · obtain ⟨u1, h1, rfl⟩ := List.mem_map.mp ha
      obtain ⟨u2, h2, rfl⟩ := List.mem_map.mp hb
      obtain ⟨d1, _, e1⟩ := hen u1 h1
      obtain ⟨d2, _, e2⟩ := hen u2 h2
      rw [e1, e2]
      exact alikes d1 d2
    · obtain ⟨u1, h1, rfl⟩ := List.mem_map.mp ha
      obtain ⟨d1, _, e1⟩ := hen u1 h1
      rw [e1]
      cases d1 <;> exact ⟨_, _, rfl⟩
    · obtain ⟨d1, _, e1⟩ := hen u hu
      rw [e1]
      cases d1 <;> exact Nat.le_of_ble_eq_true rfl
    · have f9 := Fr.new (l := []) (o := .lst ys) hp
      refine q p _ ys (f0.fresh hp) (f0.trans f9) upd_same (by rw [hperm.length_eq]; omega) (fun u hu => ?_) (fun e d md => ?_)
      · obtain ⟨d, a, b⟩ := hdd u (hperm.mem_iff.mp hu)
        exact ⟨d, a.keep f9.tup, b⟩
      · subst e
        exact hno (List.Perm.nil_eq hperm).symm d md (Dd.may_hs md)
end
end RL

/-! crew.py: letters sent, boards put together. -/
namespace RL
open PySem L2 RlR

theorem use0 {F A : Prop} (use : F → A) (key : F) : A := use key
theorem use2 {α β : Type} {G F : α → β → Prop} {A : Prop} (use : (∀ a b, G a b → F a b) → A) (key : ∀ a b, G a b → F a b) : A := use key
section
variable {CC CH : Addr} {H H' : Hp} {c : Cw} {st : Cs} {h : Int} {o : Ho}
theorem HoAt.kind (x : HoAt CH H c h o) {a : Addr} (ha : a ∈ fp o) : (∃ C dx fs, H a = some (.ins C dx fs)) ∨ ∃ kvs, H a = some (.dK kvs) := by
  simp only [fp, List.mem_cons, List.not_mem_nil, or_false] at ha
  rcases ha with rfl | rfl | rfl | rfl
  · obtain ⟨dx, cp, e⟩ := x.me
    exact .inl ⟨_, _, _, e⟩
  · exact .inr ⟨_, x.own⟩
  · exact .inr ⟨_, x.said⟩
  · exact .inr ⟨_, x.desk⟩
theorem HoAt.some (x : HoAt CH H c h o) {a : Addr} (ha : a ∈ fp o) : H a ≠ none := by
  rcases x.kind ha with ⟨_, _, _, e⟩ | ⟨_, e⟩ <;> rw [e] <;> simp
theorem HoAt.noLst (x : HoAt CH H c h o) {a : Addr} {xs : List V} (ha : H a = .some (.lst xs)) : a ∉ fp o := fun m => by
  rcases x.kind m with ⟨_, _, _, e⟩ | ⟨_, e⟩ <;> rw [ha] at e <;> cases e
theorem HoAt.noT (x : HoAt CH H c h o) {a : Addr} {xs : List (List Key × V)} (ha : H a = .some (.dT xs)) : a ∉ fp o := fun m => by
  rcases x.kind m with ⟨_, _, _, e⟩ | ⟨_, e⟩ <;> rw [ha] at e <;> cases e
theorem CwAt.mb_wl (x : CwAt CC CH H c st) : c.mb ≠ c.wl := fun e => by
  have w := x.wall
  have m := x.mem
  rw [e] at m
  rcases m with m | ⟨_, m⟩ <;> rw [w] at m <;> cases m
theorem CwAt.send (x : CwAt CC CH H c st) {v : V} (f : Fr [c.wl] H H') (hw : H' c.wl = some (.dT (sendS st h v).W)) (hv : LtAt H' c (st.ho h).cnt h v) : CwAt CC CH H' c (sendS st h v) := by
  obtain ⟨dx, e⟩ := x.me
  obtain ⟨us, hu, hp⟩ := x.wanted
  have w := x.wall
  have nl : ∀ a xs, H a = some (.lst xs) → a ∉ [c.wl] := fun a xs ha m => by
    rw [List.mem_singleton.mp m, w] at ha
    cases ha
  refine ⟨⟨dx, f.at_ _ _ e fun m => ?_⟩, x.os.keep f.tup, x.row.keep f.tup, hw, ⟨us, f.at_ _ _ hu (nl _ _ hu), Paired.mapP hp fun ws u ⟨p, e, q⟩ => ⟨p, e, f.at_ _ _ q (nl _ _ q)⟩⟩, rd_keep f x.mem (by simpa using x.mb_wl), fun g hg => (x.ho g hg).keepL f fun a ha => ?_, fun j g u q => ?_, x.sep, x.smb⟩
  · rw [List.mem_singleton.mp m, w] at e
    cases e
  · rw [List.mem_singleton.mp ha]
    exact (x.ho g hg).noT w
  · unfold sendS at q
    dsimp only at q
    rw [valV_put] at q
    split at q
    · rename_i z
      simp only [List.cons.injEq, Sum.inl.injEq, and_true] at z
      obtain ⟨z1, z2⟩ := z
      have : j = (st.ho h).cnt := by omega
      subst this
      subst z2
      cases q
      exact hv
    · exact (x.wv j g u q).keep f.tup
theorem CwAt.house (x : CwAt CC CH H c st) (hh : h ∈ c.hs) {l : List Addr} (f : Fr l H H') (hl : ∀ a ∈ l, a ∈ fp (st.ho h)) {o' : Ho} (hm : o'.ma = (st.ho h).ma) (hf : ∀ a ∈ fp o', a ∈ fp (st.ho h) ∨ H a = none) (ho : HoAt CH H' c h o') : CwAt CC CH H' c (setHo st h o') := by
  obtain ⟨dx, e⟩ := x.me
  obtain ⟨us, hu, hp⟩ := x.wanted
  have xh := x.ho h hh
  have w := x.wall
  have nl : ∀ a xs, H a = some (.lst xs) → a ∉ l := fun a xs ha m => xh.noLst ha (hl a m)
  have mn : H c.mb ≠ none := by rcases x.mem with m | ⟨_, m⟩ <;> rw [m] <;> simp
  have ema : ∀ g, ((setHo st h o').ho g).ma = (st.ho g).ma := fun g => by
    by_cases z : g = h
    · subst z
      rw [setHo_same, hm]
    · rw [setHo_ne z]
  refine ⟨⟨dx, f.at_ _ _ e fun m => (x.smb h hh).2 (hl _ m)⟩, x.os.keep f.tup, x.row.keep f.tup, f.at_ _ _ w fun m => xh.noT w (hl _ m), ⟨us, f.at_ _ _ hu (nl _ _ hu), Paired.mapP hp fun ws u ⟨p, e, q⟩ => ⟨p, e, f.at_ _ _ q (nl _ _ q)⟩⟩, ?_, fun g hg => ?_, fun j g u q => (x.wv j g u q).keep f.tup, fun g hg g' hg' ne a ha => ?_, fun g hg => ?_⟩
  · have q := rd_keep f x.mem fun m => (x.smb h hh).1 (hl _ m)
    rw [show (fun g => (ki g, V.ref ((setHo st h o').ho g).ma)) = fun g => (ki g, V.ref (st.ho g).ma) from funext fun g => by rw [ema]]
    exact q
  · by_cases z : g = h
    · subst z
      rw [setHo_same]
      exact ho
    · rw [setHo_ne z]
      exact (x.ho g hg).keepL f fun a ha m => x.sep g hg h hh z a m (hl a ha)
  · by_cases z : g = h
    · subst z
      rw [setHo_same] at ha
      rw [setHo_ne ne.symm]
      rcases hf a ha with q | q
      · exact x.sep g hg g' hg' ne a q
      · exact fun m => (x.ho g' hg').some m q
    · rw [setHo_ne z] at ha
      by_cases z' : g' = h
      · subst z'
        rw [setHo_same]
        intro m
        rcases hf a m with q | q
        · exact x.sep g hg g' hg' ne a ha q
        · exact (x.ho g hg).some ha q
      · rw [setHo_ne z']
        exact x.sep g hg g' hg' ne a ha
  · by_cases z : g = h
    · subst z
      rw [setHo_same]
      refine ⟨fun m => ?_, fun m => ?_⟩
      · rcases hf _ m with q | q
        · exact (x.smb g hg).1 q
        · exact mn q
      · rcases hf _ m with q | q
        · exact (x.smb g hg).2 q
        · rw [e] at q
          cases q
    · rw [setHo_ne z]
      exact x.smb g hg
end
theorem valV_mapN {f : Nat → V} {k : Nat} : ∀ {l : List Nat}, k ∈ l → valV (l.map fun k => (ki (k : Nat), f k)) (ki (k : Nat)) = some (f k)
  | [], h => by simp at h
  | x :: r, h => by
    rw [List.map_cons]
    by_cases e : x = k
    · subst e
      rw [valV_pos (p := (ki (x : Nat), f x)) rfl]
    · rw [valV_neg (p := (ki (x : Nat), f x)) (fun q => e (by have := Sum.inl.inj q; omega))]
      exact valV_mapN ((List.mem_cons.mp h).resolve_left fun z => e z.symm)
theorem own_get {os bd : List Int} {h k : Int} (h0 : 0 ≤ k) (h1 : k < (os.length : Int)) (e : ow os k = h) : valV (ownL os bd h) (ki k) = some (.int (bd.getD k.toNat 0)) := by
  have q := valV_mapN (f := fun k => V.int (bd.getD k 0)) (k := k.toNat) (l := (List.range os.length).filter fun k => decide (os.getD k 0 = h)) (by
    rw [List.mem_filter, List.mem_range]
    exact ⟨by omega, decide_eq_true e⟩)
  rw [show ((k.toNat : Nat) : Int) = k by omega] at q
  exact q
theorem ks_mem {os : List Int} {l : Laid} {h k : Int} : k ∈ ksOf os l h ↔ k ∈ l.2 ∧ ow os k = h := by
  unfold ksOf
  rw [List.mem_filter, decide_eq_true_iff]

section
variable {P : Program} {w : World} {K : PySem.W.Frag} {mg : Str → Option Value} {base : Heap}
def spSend (CC CH : Addr) : Sp := fun vs H Q _ => ∃ (c : Cw) (st : Cs) (h : Int), vs = [.ref c.x, .int h] ∧ CwAt CC CH H c st ∧ c.Ok ∧ h ∈ c.hs ∧ (st.ho h).cnt < c.r.length ∧ st.W.length ≤ 90000 ∧
  ∀ H' v, Fr [c.wl] H H' → CwAt CC CH H' c (sendS st h v) → Q .non H'
theorem ok_Crew_send (T : Txt K w mg) : FnOk P w K mg base CX0 2 T.Crew_send.f T.Crew_send.fd ["self", "house"] (spSend T.k_Crew.C T.k_House.C) := by
  refine T.Crew_send.F.ok sc_Crew_send (fun vs H Q E h => ?_) (fun cdv A outer s H vs Q E hr h => ?_)
  · obtain ⟨c, st, h, rfl, _⟩ := h
    rfl
  obtain ⟨c, st, h, rfl, hc, ok, hh, hlt, hwl, q⟩ := h
  obtain ⟨dx, hx⟩ := hc.me
  have xh := hc.ho h hh
  obtain ⟨dh, cp, hm⟩ := xh.me
  obtain ⟨l, hl⟩ : ∃ l, c.r[(st.ho h).cnt]? = some l := ⟨_, List.getElem?_eq_getElem hlt⟩
  refine ⟨_, (pss_cons (ps_set (i := 2) sc_Crew_send.nd rfl (by first | exact Or.inl rfl | exact Or.inr rfl) (pe_meth (pv 0) T.k_Crew.cl T.Crew_due_of.me (ok_Crew_due_of T) (hr.mono (by omega)) T.Crew_due_of.b .nil pass0 (pa_cons (pv 1) pa_nil)))
    (pss_cons (ps_set (i := 3) sc_Crew_send.nd rfl (by first | exact Or.inl rfl | exact Or.inr rfl) (fldK (K := K) rfl (pe_dget (hu_of hr) (fldK (K := K) rfl (pv 0) rfl) (pv 1) (fun _ _ => rfl)) rfl))
    (pss_one (ps_dput (hu_of hr) (fldK (K := K) rfl (pv 0) rfl) (pe_tup (pa_cons (pv 2) (pa_cons (pv 1) pa_nil))) (pe_callTy (tupK (K := K) rfl) (by rfl) T.z_tuple bt_tuple (pa_cons (pe_lc rfl sc_Crew_send.nd (piL (K := K) rfl (pe_meth (pv 0) T.k_Crew.cl T.Crew_keys_of.me (ok_Crew_keys_of T) (hr.mono (by omega)) T.Crew_keys_of.b .nil pass0 (pa_cons (pv 2) (pa_cons (pv 1) pa_nil)))) (blkOk_by (own := [("key", 4)]) (N := ["self", "house", "number", "own", "key"]) (sc := defScope s_Crew_send) (by decide +kernel)) (fun _ _ _ _ _ => (pg_name (i := 4) sc_Crew_send.nd rfl (by first | exact Or.inl rfl | exact Or.inr rfl))) (fun _ _ _ _ _ => pts_nil) (fun _ _ _ _ _ => (pe_dget (hu_of hr) (pv 3) (pv 4) (fun _ _ => rfl)))) pa_nil)) rfl)))), ?_⟩
  refine ⟨_, rfl, c.x, dx, _, rfl, hx, rfl, _, rfl, c, st, h, rfl, hc, hh, ok.r.1, fun e => absurd e (by omega), fun _ => ?_⟩
  refine ⟨_, rfl, c.x, _, dx, _, _, rfl, hx, T.k_Crew.cl, T.n_Crew_members, rfl, _, rfl, c.mb, _, rfl, hc.get hh, _, _, dh, _, _, rfl, hm, T.k_House.cl, T.n_House_own, rfl, ?_⟩
  refine ⟨_, rfl, c.x, dx, _, rfl, hx, rfl, _, rfl, _, rfl, c, st, _, h, l, rfl, hc, ok, hl, fun p H1 hp f1 hpl => ⟨p, rfl, ⟨_, SqL.of hpl⟩, fun D hD => ?_⟩⟩
  have hown1 := f1.at_ _ _ xh.own (by simp)
  have h12 := (ok.laid hl).2.2.1
  have hkl : (ksOf c.os l h).length ≤ 12 := Nat.le_trans (List.length_filter_le _ _) h12
  refine lc_map (xs := (ksOf c.os l h).map V.int) walk_list hD (fun y => match y with | .int k => V.int ((bat c.b c.r (st.ho h).cnt).getD k.toNat 0) | _ => .non) (by rw [List.length_map]; omega) (fun H' f => SqL.of (f.at_ _ _ hpl (by simp))) (fun _ => rfl) (fun y hy H2 f2 R r => ?_) (fun H2 f2 hl2 => ?_)
  · obtain ⟨k, hk, rfl⟩ := List.mem_map.mp hy
    obtain ⟨hk1, hk2⟩ := ks_mem.mp hk
    obtain ⟨k0, k1⟩ := ok.key hl hk1
    exact ⟨_, rfl, _, rfl, (st.ho h).own, _, rfl, by rw [← own_get (bd := bat c.b c.r (st.ho h).cnt) k0 k1 hk2]; exact DGet.k (k := ki k) (f2.at_ _ _ hown1 (by simp)), r H2 (Fr.refl _ _)⟩
  · rw [show List.map (fun y => match y with | .int k => V.int ((bat c.b c.r (st.ho h).cnt).getD k.toNat 0) | _ => .non) ((ksOf c.os l h).map V.int) = (lett c l (st.ho h).cnt h).map V.int by unfold lett; rw [List.map_map, List.map_map]; rfl] at hl2
    refine ⟨D, _, rfl, .inl ⟨SqL.of hl2, fun t ht => ?_⟩⟩
    have f3 := Fr.new (l := []) (o := .tup ((lett c l (st.ho h).cnt h).map V.int)) ht
    have f03 := (f1.trans f2).trans f3
    refine ⟨_, rfl, c.x, _, dx, _, _, rfl, f03.at_ _ _ hx (by simp), T.k_Crew.cl, T.n_Crew_wall, rfl, _, rfl, _, rfl, line_of (by simp), fun t2 ht2 => ?_⟩
    have f4 := Fr.new (l := []) (o := .tup [.int ((st.ho h).cnt : Nat), .int h]) ht2
    have hw4 := (f03.trans f4).at_ _ _ hc.wall (by simp)
    refine ⟨c.wl, _, rfl, DPut.t (k := [ki ((st.ho h).cnt : Nat), ki h]) hw4 upd_same (line_lt (by omega)), ?_⟩
    have f5 := Fr.set (l := [c.wl]) (o' := .dT (sendS st h (.ref t)).W) hw4 trivial (by simp)
    have f05 := (f03.trans f4).lift.trans f5
    exact q _ (.ref t) f05 (hc.send f05 upd_same ⟨l, hl, t, rfl, f5.tup _ _ (f4.tup _ _ upd_same)⟩)

def spBoardOf (CC CH : Addr) : Sp := fun vs H Q _ => ∃ (c : Cw) (st : Cs) (h : Int) (l : Laid), vs = [.ref c.x, .int h, .int ((st.ho h).cnt : Nat)] ∧ CwAt CC CH H c st ∧ c.Ok ∧ h ∈ c.hs ∧ c.r[(st.ho h).cnt]? = some l ∧ inW st (st.ho h).cnt h = true ∧ (∀ g, want c (st.ho h).cnt g → g = h ∨ inD (st.ho h) g = true) ∧
  ∀ H' v bd, Fr [] H H' → BAt H' bd v → bd.length = c.b.length → Agree l.2 bd (bat c.b c.r (st.ho h).cnt) → Q v H'
theorem ok_Crew_board_of (T : Txt K w mg) : FnOk P w K mg base CX0 2 T.Crew_board_of.f T.Crew_board_of.fd ["self", "house", "number"] (spBoardOf T.k_Crew.C T.k_House.C) := by
  refine T.Crew_board_of.F.ok sc_Crew_board_of (fun vs H Q E h => ?_) (fun cdv A outer s H vs Q E hr h => ?_)
  · obtain ⟨c, st, h, l, rfl, _⟩ := h
    rfl
  obtain ⟨c, st, h, l, rfl, hc, ok, hh, hl, hin, hall, q⟩ := h
  obtain ⟨dx, hx⟩ := hc.me
  have xh := hc.ho h hh
  obtain ⟨dh, cp, hm⟩ := xh.me
  obtain ⟨oa, eo, hoa⟩ := hc.os
  have hlt : (st.ho h).cnt < c.r.length := (List.getElem?_eq_some_iff.mp hl).1
  obtain ⟨ws, hws, hwl⟩ := ok.wants hlt
  have hwi := (ok.wi _ l ws hl hws).2
  have h12 := (ok.laid hl).2.2.1
  have hol := ok.ol
  have hbl := bat_len c.r c.b (st.ho h).cnt (by omega)
  obtain ⟨hb1, hb2, _⟩ := ok.b
  rw [eo] at hx
  refine ⟨_, (pss_cons (ps_setLc (i := 3) rfl sc_Crew_board_of.nd rfl rfl (sw_true rfl rfl rfl (by decide +kernel)) (piT (K := K) rfl (fldK (K := K) rfl (pv 0) rfl)) (blkOk_by (own := [("key", 6)]) (N := ["self", "house", "number", "board", "other", "letter", "key", "worth"]) (sc := defScope s_Crew_board_of) (by decide +kernel)) (fun _ _ _ _ _ => (pg_name (i := 6) sc_Crew_board_of.nd rfl (by first | exact Or.inl rfl | exact Or.inr rfl))) (fun _ _ _ _ _ => pts_nil) (fun _ _ _ _ _ => pe_int))
    (pss_cons (ps_for PassesOwn.never rfl (piL (K := K) rfl (pe_meth (pv 0) T.k_Crew.cl T.Crew_wanting.me (ok_Crew_wanting T) (hr.mono (by omega)) T.Crew_wanting.b .nil pass0 (pa_cons (pv 2) pa_nil))) (pg_name (i := 4) sc_Crew_board_of.nd rfl (by first | exact Or.inl rfl | exact Or.inr rfl)) (pss_cons (ps_set (i := 5) sc_Crew_board_of.nd rfl (by first | exact Or.inl rfl | exact Or.inr rfl) (pe_dget (hu_of hr) (fldK (K := K) rfl (pv 0) rfl) (pe_tup (pa_cons (pv 2) (pa_cons (pv 1) pa_nil))) (fun _ _ => rfl)))
    (pss_cons (ps_if (pt_cmpR op_ne (pv 4) (pv 1) (nomark _)) (pss_one (ps_set (i := 5) sc_Crew_board_of.nd rfl (by first | exact Or.inl rfl | exact Or.inr rfl) (pe_dget (hu_of hr) (fldK (K := K) rfl (pe_dget (hu_of hr) (fldK (K := K) rfl (pv 0) rfl) (pv 1) (fun _ _ => rfl)) rfl) (pv 4) (fun _ _ => rfl)))) pss_nil)
    (pss_one (ps_for PassesOwn.never rfl (piZ (K := K) rfl rfl T.z_zip (pa_cons (pe_meth (pv 0) T.k_Crew.cl T.Crew_keys_of.me (ok_Crew_keys_of T) (hr.mono (by omega)) T.Crew_keys_of.b .nil pass0 (pa_cons (pv 2) (pa_cons (pv 4) pa_nil))) (pa_cons (pv 5) pa_nil))) (pgT (K := K) (n := 2) rfl rfl (pgs_cons (pg_name (i := 6) sc_Crew_board_of.nd rfl (by first | exact Or.inl rfl | exact Or.inr rfl)) (pgs_cons (pg_name (i := 7) sc_Crew_board_of.nd rfl (by first | exact Or.inl rfl | exact Or.inr rfl)) pgs_nil)) (by rfl) (by rfl)) (pss_one (ps_asg (pv 7) (pg_sub (pv 3) (pv 6) set_list))))))))
    (pss_one (ps_ret (pe_callTy (tupK (K := K) rfl) (by rfl) T.z_tuple bt_tuple (pa_cons (pv 3) pa_nil)))))), ?_⟩
  refine ⟨_, rfl, c.x, _, dx, _, _, rfl, hx, T.k_Crew.cl, T.n_Crew_owners, rfl, oa, rfl, ⟨_, SqT.of hoa⟩, fun D hD => ?_⟩
  refine lc_map (xs := c.os.map V.int) walk_tup hD (fun _ => V.int 0) (by rw [List.length_map]; omega) (fun H' f => SqT.of (f.tup _ _ hoa)) (fun _ => rfl) (fun y hy H2 f2 R r => r H2 (Fr.refl _ _)) (fun H1 f1 hD1 => ?_)
  rw [List.map_map, show (List.map ((fun _ => V.int 0) ∘ V.int) c.os) = (List.replicate c.b.length (0 : Int)).map V.int by rw [List.map_replicate, ← hol]; exact List.map_eq_replicate_iff.mpr fun _ _ => rfl] at hD1
  have hx1 := f1.at_ _ _ hx (by simp)
  have hc1 := hc.keep f1
  refine ⟨_, rfl, c.x, dx, _, rfl, hx1, rfl, _, rfl, c, st, _, ws, rfl, hc1, hws, fun p ⟨hp, us, hus, hup⟩ => ⟨p, rfl, ⟨_, SqL.of hp⟩, ?_⟩⟩
  have nDp : D ≠ p := fun e => by
    obtain ⟨us', hu', hpw⟩ := hc.wanted
    have e1 := f1.at_ _ _ hu' (by simp)
    rw [hus] at e1
    cases e1
    obtain ⟨ws2, _, p2, e3, hp2⟩ := pair_right hpw hup
    cases e3
    rw [← e, hD] at hp2
    cases hp2
  have hlet : ∀ g, g ∈ ws → ∃ v, (g = h → valV st.W [ki ((st.ho h).cnt : Nat), ki h] = some v) ∧ (g ≠ h → valV (st.ho h).D (ki g) = some v) ∧ LtAt H c (st.ho h).cnt g v := fun g hg => by
    rcases hall g ((want_iff hws g).mpr hg) with e | e
    · subst e
      obtain ⟨v, hv⟩ := Option.isSome_iff_exists.mp hin
      exact ⟨v, fun _ => hv, fun z => absurd rfl z, hc.wv _ _ _ hv⟩
    · by_cases z : g = h
      · subst z
        obtain ⟨v, hv⟩ := Option.isSome_iff_exists.mp hin
        exact ⟨v, fun _ => hv, fun z => absurd rfl z, hc.wv _ _ _ hv⟩
      · obtain ⟨v, hv⟩ := Option.isSome_iff_exists.mp e
        exact ⟨v, fun y => absurd y z, fun _ => hv, xh.dl _ _ hv⟩
  obtain ⟨v0, hv0⟩ := Option.isSome_iff_exists.mp hin
  refine for_list (xs := ws.map V.int) (fun i σ H' => ∃ (bd : List Int) (o1 o2 o3 o4 : Option V), σ = [some (.ref c.x), some (.int h), some (.int ((st.ho h).cnt : Nat)), some (.ref D), o1, o2, o3, o4] ∧ Fr [] H H' ∧ Fr [D] H1 H' ∧ H' D = some (.lst (bd.map V.int)) ∧ bd.length = c.b.length ∧ ∀ k ∈ l.2, ow c.os k ∈ ws.take i → bd.getD k.toNat 0 = (bat c.b c.r (st.ho h).cnt).getD k.toNat 0)
    ⟨_, none, none, none, none, rfl, f1.trans (Fr.refl _ _) |>.app (Fr.refl [] _) (by simp), Fr.refl _ _, hD1, by simp, by simp⟩ (fun i σ H' _ ⟨_, _, _, _, _, _, _, f, _⟩ => SqL.of (f.at_ _ _ hp (by simpa using nDp.symm))) ?_ ?_
  · rintro i y σ H2 hy ⟨bd, o1, o2, o3, o4, rfl, f2, f12, hbd, hbdl, hag⟩
    rw [List.getElem?_map, Option.map_eq_some_iff] at hy
    obtain ⟨g, hgi, rfl⟩ := hy
    have hg : g ∈ ws := List.mem_of_getElem? hgi
    obtain ⟨v, hv1, hv2, l', hl', va, rfl, hva⟩ := hlet g hg
    rw [hl] at hl'
    cases hl'
    have hx2 := f2.at_ _ _ hx (by simp)
    have hc2 := hc.keep f2
    refine ⟨_, rfl, c.x, _, dx, _, _, rfl, hx2, T.k_Crew.cl, T.n_Crew_wall, rfl, _, rfl, _, rfl, line_of (by simp), fun t ht => ⟨c.wl, v0, rfl, ?_, ?_⟩⟩
    · rw [← hv0]
      exact (hc2.keep (Fr.new (l := []) ht)).wallD upd_same
    have f23 := Fr.new (l := []) (o := .tup [.int ((st.ho h).cnt : Nat), .int h]) ht
    have f3 := f2.trans f23
    have hx3 := f3.at_ _ _ hx (by simp)
    have hc3 := hc.keep f3
    have hbd3 := f23.at_ _ _ hbd (by simp)
    have f13 := f12.trans f23.lift
    apply use0
    case use =>
      intro key
      refine ⟨_, rfl, _, rfl, rfl, _, rfl, ?_⟩
      rcases Classical.em (g ≠ h) with z | z
      · refine ifNe z ⟨_, rfl, c.x, _, dx, _, _, rfl, hx3, T.k_Crew.cl, T.n_Crew_members, rfl, _, rfl, c.mb, _, rfl, hc3.get hh, _, _, dh, _, _, rfl, f3.at_ _ _ hm (by simp), T.k_House.cl, T.n_House_desk, rfl, _, rfl, (st.ho h).desk, .ref va, rfl, ?_, key⟩
        rw [← hv2 z]
        exact (xh.keep f3).deskD g
      · have z' : g = h := Classical.byContradiction z
        have e := hv1 z'
        rw [hv0] at e
        have e2 : v0 = .ref va := Option.some.inj e
        subst e2
        exact ifNeN z' key
    case key =>
      refine ⟨_, rfl, c.x, dx, _, rfl, hx3, rfl, _, rfl, _, rfl, c, st, _, g, l, rfl, hc3, ok, hl, fun q2 H4 hq2 f4 hql => ⟨_, rfl, .l q2, .t va, _, _, rfl, SqL.of hql, SqT.of ((f3.trans f4).tup _ _ hva), ?_⟩⟩
      have nDq : D ≠ q2 := ne_of_none hbd3 hq2
      have hva4 := (f3.trans f4).tup _ _ hva
      have hbd4 := f4.at_ _ _ hbd3 (by simp)
      refine for_it (walk_zs (n := (ksOf c.os l g).length) (s1 := .l q2) (s2 := .t va) (xs := (ksOf c.os l g).map V.int) (ys := (lett c l (st.ho h).cnt g).map V.int) (by unfold lett; rw [List.length_map, List.length_map, List.length_map, Nat.min_self])) (fun m σ H' => ∃ (bd' : List Int) (o3 o4 : Option V), σ = [some (.ref c.x), some (.int h), some (.int ((st.ho h).cnt : Nat)), some (.ref D), some (.int g), some (.ref va), o3, o4] ∧ Fr [] H H' ∧ Fr [D] H4 H' ∧ H' D = some (.lst (bd'.map V.int)) ∧ bd'.length = c.b.length ∧ ∀ k ∈ l.2, (ow c.os k ∈ ws.take i ∨ k ∈ (ksOf c.os l g).take m) → bd'.getD k.toNat 0 = (bat c.b c.r (st.ho h).cnt).getD k.toNat 0)
        ⟨bd, _, _, rfl, f3.trans f4, Fr.refl _ _, hbd4, hbdl, fun k hk hz => by
          rcases hz with hz | hz
          · exact hag k hk hz
          · simp at hz⟩ (fun m σ H' _ ⟨_, _, _, _, _, f, _⟩ => ⟨SqL.of (f.at_ _ _ hql (by simpa using nDq.symm)), SqT.of (f.tup _ _ hva4)⟩) ?_ ?_
      · rintro m x σ H5 H5' hm' ⟨bd', o3', o4', rfl, f5, f45, hbd5, hbdl5, hag5⟩ ⟨U, x1, y1, rfl, hU, rfl, ex, ey⟩
        dsimp only at ex ey
        rw [List.getElem?_map, Option.map_eq_some_iff] at ex
        obtain ⟨k, hk, rfl⟩ := ex
        rw [lett, List.map_map, List.getElem?_map, hk] at ey
        cases ey
        have hkm := ks_mem.mp (List.mem_of_getElem? hk)
        obtain ⟨k0, k1⟩ := ok.key hl hkm.1
        have f6 := Fr.new (l := []) (o := .tup [.int k, (V.int ∘ fun k => (bat c.b c.r (st.ho h).cnt).getD k.toNat 0) k]) hU
        have hbd6 := f6.at_ _ _ hbd5 (by simp)
        refine ⟨U, _, rfl, SqT.of upd_same, rfl, _, _, rfl, _, _, rfl, rfl, ?_⟩
        refine ⟨_, rfl, _, rfl, _, rfl, D, _, _, _, rfl, rfl, hbd6, ixN_int k0 (by rw [List.length_map]; omega), ?_⟩
        refine ⟨bd'.set k.toNat ((bat c.b c.r (st.ho h).cnt).getD k.toNat 0), _, _, rfl, (f5.trans f6).set1 hbd6 trivial hD, (f45.trans f6.lift).trans (Fr.set hbd6 trivial (by simp)), ?_, by rw [List.length_set]; exact hbdl5, fun k' hk' hz => ?_⟩
        · rw [upd_same, ← map_set]
          rfl
        · rw [getD_set]
          by_cases e : k.toNat = k'.toNat
          · rw [if_pos ⟨e, by omega⟩, e]
          · rw [if_neg fun z => e z.1]
            refine hag5 k' hk' (hz.imp_right fun hz => ?_)
            rw [List.take_add_one, hk, List.mem_append] at hz
            rcases hz with hz | hz
            · exact hz
            · exact absurd (by rw [show k' = k by simpa using hz]) e
      · rintro σ H5 ⟨bd', o3', o4', rfl, f5, f45, hbd5, hbdl5, hag5⟩
        refine ⟨bd', _, _, _, _, rfl, f5, (f13.trans f4.lift).trans f45, hbd5, hbdl5, fun k hk hz => hag5 k hk ?_⟩
        rw [List.take_add_one, hgi, List.mem_append] at hz
        rw [List.take_length]
        rcases hz with hz | hz
        · exact .inl hz
        · exact .inr (ks_mem.mpr ⟨hk, by simpa using hz⟩)
  · rintro σ H2 ⟨bd, o1, o2, o3, o4, rfl, f2, f12, hbd, hbdl, hag⟩
    refine ⟨_, rfl, D, _, rfl, .inl ⟨SqL.of hbd, fun t ht => q _ (.ref t) bd (f2.trans (Fr.new ht)) ⟨t, rfl, upd_same⟩ hbdl ⟨by rw [hbdl, hbl], fun k hk => hag k hk ?_⟩⟩⟩
    rw [List.length_map, List.take_length, hwi]
    exact ⟨k, hk, rfl⟩
end
end RL

/-! crew.py: going on by a deal. -/
namespace RL
open PySem L2 RlR

theorem putK_at {κ : Type} [DecidableEq κ] {kvs : List (κ × V)} {k : κ} {v : V} (h : (valV kvs k).isSome = true) : putK kvs k v = kvs.map fun kv => if kv.1 = k then (kv.1, v) else kv := by
  unfold putK
  rw [valV_any, if_pos h]
theorem own_put {os bd : List Int} {h k x : Int} (h0 : 0 ≤ k) (h1 : k < (os.length : Int)) (hl : bd.length = os.length) (e : ow os k = h) : putK (ownL os bd h) (ki k) (.int x) = ownL os (bd.set k.toNat x) h := by
  rw [putK_at (by rw [own_get h0 h1 e]; rfl)]
  unfold ownL
  rw [List.map_map]
  refine List.map_congr_left fun j hj => ?_
  show (if (ki (j : Nat)) = ki k then (ki (j : Nat), V.int x) else (ki (j : Nat), V.int (bd.getD j 0))) = (ki (j : Nat), V.int ((bd.set k.toNat x).getD j 0))
  rw [getD_set]
  by_cases z : k.toNat = j
  · have : (ki (j : Nat)) = ki k := by rw [← z]; exact congrArg Sum.inl (by omega)
    rw [if_pos this, if_pos ⟨z, by omega⟩]
  · rw [if_neg fun q => z (by have := Sum.inl.inj q; omega), if_neg fun q => z q.1]
theorem own_congr {os bd bd' : List Int} {h : Int} (e : ∀ j, j < os.length → os.getD j 0 = h → bd.getD j 0 = bd'.getD j 0) : ownL os bd h = ownL os bd' h := by
  unfold ownL
  refine List.map_congr_left fun j hj => ?_
  rw [List.mem_filter, List.mem_range] at hj
  rw [e j hj.1 (of_decide_eq_true hj.2)]

section
variable {P : Program} {w : World} {K : PySem.W.Frag} {mg : Str → Option Value} {base : Heap}
def spGo (CC CH : Addr) : Sp := fun vs H Q _ => ∃ (c : Cw) (st : Cs) (h : Int), vs = [.ref c.x, .int h] ∧ CwAt CC CH H c st ∧ c.Ok ∧ h ∈ c.hs ∧ mayGo c st h ∧ (¬ want c (st.ho h).cnt h → (st.ho h).D = []) ∧
  ∀ H' dk S, Fr (fp (st.ho h)) H H' → (dk = (st.ho h).desk ∨ H dk = none) → CwAt CC CH H' c (goS st h dk S) → Q .non H'
theorem ok_Crew_go (T : Txt K w mg) : FnOk P w K mg base CX0 17 T.Crew_go.f T.Crew_go.fd ["self", "house"] (spGo T.k_Crew.C T.k_House.C) := by
  refine T.Crew_go.F.ok sc_Crew_go (fun vs H Q E h => ?_) (fun cdv A outer s H vs Q E hr h => ?_)
  · obtain ⟨c, st, h, rfl, _⟩ := h
    rfl
  obtain ⟨c, st, h, rfl, hc, ok, hh, hgo, hdz, q⟩ := h
  obtain ⟨dx, hx⟩ := hc.me
  have xh := hc.ho h hh
  obtain ⟨dh, cp, hm⟩ := xh.me
  have hlt := hgo.1
  obtain ⟨l, hl⟩ : ∃ l, c.r[(st.ho h).cnt]? = some l := ⟨_, List.getElem?_eq_getElem hlt⟩
  obtain ⟨ws, hws, hwl⟩ := ok.wants hlt
  have hwi := (ok.wi _ l ws hl hws).2
  have h12 := (ok.laid hl).2.2.1
  have hol := ok.ol
  have hbl := bat_len c.r c.b (st.ho h).cnt (by omega)
  obtain ⟨hb1, hb2, _⟩ := ok.b
  have hsucc := bat_succ c.r c.b (st.ho h).cnt l hl
  have hwf : ∀ s ∈ l.1, s.wf ((bat c.b c.r (st.ho h).cnt).length : Int) := fun s hs => by rw [hbl]; exact ((ok.laid hl).1.2.2 s hs).wf
  refine ⟨_, (pss_cons (ps_set (i := 2) sc_Crew_go.nd rfl (by first | exact Or.inl rfl | exact Or.inr rfl) (pe_meth (pv 0) T.k_Crew.cl T.Crew_due_of.me (ok_Crew_due_of T) (hr.mono (by omega)) T.Crew_due_of.b .nil pass0 (pa_cons (pv 1) pa_nil)))
    (pss_cons (ps_set (i := 3) sc_Crew_go.nd rfl (by first | exact Or.inl rfl | exact Or.inr rfl) (pe_dget (hu_of hr) (fldK (K := K) rfl (pv 0) rfl) (pv 1) (fun _ _ => rfl)))
    (pss_cons (ps_if (pt_cmpR (opIn (K := K) rfl) (pv 1) (pe_meth (pv 0) T.k_Crew.cl T.Crew_wanting.me (ok_Crew_wanting T) (hr.mono (by omega)) T.Crew_wanting.b .nil pass0 (pa_cons (pv 2) pa_nil)) (by rfl)) (pss_cons (ps_asg (pe_call (ok_done_laid_in T) (hr.mono (by omega)) rfl T.done_laid_in.m T.done_laid_in.F.kp T.done_laid_in.b .nil pass0 (pa_cons (pe_ix (ixT (K := K) rfl) (fldK (K := K) rfl (pv 0) rfl) (pv 2) (fun _ _ => rfl)) (pa_cons (pe_meth (pv 0) T.k_Crew.cl T.Crew_board_of.me (ok_Crew_board_of T) (hr.mono (by omega)) T.Crew_board_of.b .nil pass0 (pa_cons (pv 1) (pa_cons (pv 2) pa_nil))) pa_nil))) (pgT (K := K) (n := 2) rfl rfl (pgs_cons (pg_name (i := 4) sc_Crew_go.nd rfl (by first | exact Or.inl rfl | exact Or.inr rfl)) (pgs_cons (pg_name (i := 5) sc_Crew_go.nd rfl (by first | exact Or.inl rfl | exact Or.inr rfl)) pgs_nil)) (by rfl) (by rfl)))
    (pss_cons (ps_for PassesOwn.never rfl (piL (K := K) rfl (pe_meth (pv 0) T.k_Crew.cl T.Crew_keys_of.me (ok_Crew_keys_of T) (hr.mono (by omega)) T.Crew_keys_of.b .nil pass0 (pa_cons (pv 2) (pa_cons (pv 1) pa_nil)))) (pg_name (i := 6) sc_Crew_go.nd rfl (by first | exact Or.inl rfl | exact Or.inr rfl)) (pss_one (ps_dput (hu_of hr) (fldK (K := K) rfl (pv 3) rfl) (pv 6) (pe_ix (ixT (K := K) rfl) (pv 4) (pv 6) (fun _ _ => rfl)) rfl)))
    (pss_cons (ps_dput (hu_of hr) (fldK (K := K) rfl (pv 3) rfl) (pv 2) (pv 5) rfl)
    (pss_one (sfldK (K := K) rfl (pv 3) pe_dnewK rfl))))) pss_nil)
    (pss_one (sfldK (K := K) rfl (pv 3) (pe_op op_add (fldK (K := K) rfl (pv 3) rfl) pe_int) rfl))))), ?_⟩
  refine ⟨_, rfl, c.x, dx, _, rfl, hx, rfl, _, rfl, c, st, h, rfl, hc, hh, ok.r.1, fun e => absurd e (by omega), fun _ => ?_⟩
  refine ⟨_, rfl, c.x, _, dx, _, _, rfl, hx, T.k_Crew.cl, T.n_Crew_members, rfl, _, rfl, c.mb, _, rfl, hc.get hh, ?_⟩
  refine ⟨_, rfl, _, rfl, c.x, dx, _, rfl, hx, rfl, _, rfl, c, st, _, ws, rfl, hc, hws, fun p ⟨hp, _⟩ => ⟨p, _, rfl, .inl (SqL.of hp), rfl, flat_ints _, ?_⟩⟩
  rw [if_neg Bool.false_ne_true, inV_int]
  refine ⟨_, rfl, ifDec (fun hin => ?_) (fun hin => ?_)⟩
  · obtain ⟨hinW, hall⟩ : inW st (st.ho h).cnt h = true ∧ ∀ g, want c (st.ho h).cnt g → g = h ∨ inD (st.ho h) g = true := by
      rcases hgo.2 with z | z
      · exact absurd ((want_iff hws h).mpr hin) z
      · exact z
    obtain ⟨ra, rs, er, hra, hrs⟩ := hc.row
    have hjl : (st.ho h).cnt < rs.length := by rw [← hrs.length]; exact hlt
    obtain ⟨l', el, hla⟩ := pair_right hrs (List.getElem?_eq_getElem hjl)
    rw [hl] at el
    cases el
    have hx' := hx
    rw [er] at hx'
    refine ⟨_, rfl, c.x, _, dx, _, _, rfl, hx', T.k_Crew.cl, T.n_Crew_row, rfl, _, rfl, ra, _, _, _, rfl, rfl, SqT.of hra, atI_nat (List.getElem?_eq_getElem hjl), ?_⟩
    refine ⟨_, rfl, c.x, dx, _, rfl, hx, rfl, _, rfl, _, rfl, c, st, h, l, rfl, hc, ok, hh, hl, hinW, hall, fun H1 vb bd f1 hvb hbdl hagr => ?_⟩
    refine ⟨l, _, bd, vb, (c.b.length : Int), rfl, hla.keep f1.tup, hvb, ok.laid hl, by rw [hbdl], by omega, by omega, fun p2 H2 u' an f2 hp2 hu' => ?_⟩
    obtain ⟨ua, rfl, hua⟩ := hu'
    have hdl := (dl_agree (l := l) hagr).2
    rw [← hsucc] at hdl
    have hdll : (dl l bd).1.length = c.os.length := by rw [dl_len, hbdl, hol]
    have f02 := f1.trans f2
    refine ⟨p2, _, rfl, SqT.of hp2, rfl, _, _, rfl, _, _, rfl, rfl, ?_⟩
    refine ⟨_, rfl, c.x, dx, _, rfl, f02.at_ _ _ hx (by simp), rfl, _, rfl, _, rfl, c, st, _, h, l, rfl, hc.keep f02, ok, hl, fun q2 H3 hq2 f3 hql => ⟨q2, rfl, ⟨_, SqL.of hql⟩, ?_⟩⟩
    have f03 := f02.trans f3
    have hua3 := f3.tup _ _ hua
    have own3 := f03.at_ _ _ xh.own (by simp)
    have said3 := f03.at_ _ _ xh.said (by simp)
    have hm3 := f03.at_ _ _ hm (by simp)
    have nown : (st.ho h).own ≠ q2 := fun e => by
      rw [e, hql] at own3
      cases own3
    have nma : (st.ho h).ma ≠ (st.ho h).own := fun e => by
      rw [e, own3] at hm3
      cases hm3
    have nms : (st.ho h).ma ≠ (st.ho h).said := fun e => by
      rw [e, said3] at hm3
      cases hm3
    have hbt : (bat c.b c.r (st.ho h).cnt).length = c.os.length := by rw [hbl, hol]
    refine for_list (xs := (ksOf c.os l h).map V.int) (fun m σ H' => ∃ (bm : List Int) (o : Option V), σ = [some (.ref c.x), some (.int h), some (.int ((st.ho h).cnt : Nat)), some (.ref (st.ho h).ma), some (.ref ua), some an, o] ∧ Fr [(st.ho h).own] H3 H' ∧ H' (st.ho h).own = some (.dK (ownL c.os bm h)) ∧ bm.length = c.os.length ∧ ∀ j, j < c.os.length → bm.getD j 0 = if (j : Int) ∈ (ksOf c.os l h).take m then (dl l bd).1.getD j 0 else (bat c.b c.r (st.ho h).cnt).getD j 0)
      ⟨_, _, rfl, Fr.refl _ _, own3, hbt, fun j _ => by simp⟩ (fun m σ H' _ ⟨_, _, _, f, _⟩ => SqL.of (f.at_ _ _ hql (by simpa using nown.symm))) ?_ ?_
    · rintro m y σ H4 hy ⟨bm, o, rfl, f4, hown4, hbml, hbm⟩
      rw [List.getElem?_map, Option.map_eq_some_iff] at hy
      obtain ⟨k, hk, rfl⟩ := hy
      have hkm := ks_mem.mp (List.mem_of_getElem? hk)
      obtain ⟨k0, k1⟩ := ok.key hl hkm.1
      have hlenO : (ownL c.os bm h).length ≤ 12 := by
        unfold ownL
        rw [List.length_map]
        have := List.length_filter_le (fun k => decide (c.os.getD k 0 = h)) (List.range c.os.length)
        rw [List.length_range] at this
        omega
      refine ⟨_, rfl, _, rfl, ua, _, _, _, rfl, rfl, SqT.of (f4.tup _ _ hua3), atI_int k0 (by rw [hdll]; exact k1), _, rfl, _, _, dh, _, _, rfl, f4.at_ _ _ hm3 (by simpa using nma), T.k_House.cl, T.n_House_own, rfl, _, rfl, (st.ho h).own, _, rfl, DPut.k (k := ki k) hown4 (line_lt (by omega)), ?_⟩
      rw [own_put k0 k1 hbml hkm.2]
      refine ⟨bm.set k.toNat ((dl l bd).1.getD k.toNat 0), _, rfl, f4.trans (Fr.set hown4 trivial (by simp)), upd_same, by rw [List.length_set]; exact hbml, fun j hj => ?_⟩
      rw [getD_set, List.take_add_one, hk]
      by_cases z : k.toNat = j
      · have hkj : (j : Int) = k := by omega
        rw [if_pos ⟨z, by omega⟩, if_pos (by rw [hkj]; simp), z]
      · rw [if_neg fun y => z y.1, hbm j hj]
        have : (j : Int) ∈ (ksOf c.os l h).take m ++ (some k).toList ↔ (j : Int) ∈ (ksOf c.os l h).take m := by
          rw [List.mem_append]
          refine ⟨fun y => y.resolve_right fun y => z ?_, .inl⟩
          have : (j : Int) = k := by simpa using y
          omega
        by_cases y : (j : Int) ∈ (ksOf c.os l h).take m
        · rw [if_pos y, if_pos (this.mpr y)]
        · rw [if_neg y, if_neg fun x => y (this.mp x)]
    · rintro σ H4 ⟨bm, o, rfl, f4, hown4, hbml, hbm⟩
      rw [List.length_map, List.take_length] at hbm
      have hown : ownL c.os bm h = ownL c.os (bat c.b c.r ((st.ho h).cnt + 1)) h := own_congr fun j hj hjh => by
        rw [hbm j hj]
        by_cases z : (j : Int) ∈ l.2
        · have hk : (j : Int) ∈ ksOf c.os l h := ks_mem.mpr ⟨z, by unfold ow; exact hjh⟩
          rw [if_pos hk]
          have := hdl.2 _ z
          exact this
        · rw [if_neg fun y => z (ks_mem.mp y).1, hsucc]
          exact (dl_other (l := l) (by omega) hwf z).symm
      rw [hown] at hown4
      have hm4 := f4.at_ _ _ hm3 (by simpa using nma)
      have said4 := f4.at_ _ _ said3 (by simpa using xh.n1.symm)
      have hsl := xh.sl
      have h40 := ok.r.1
      refine ⟨_, rfl, _, rfl, _, _, dh, _, _, rfl, hm4, T.k_House.cl, T.n_House_said, rfl, _, rfl, (st.ho h).said, _, rfl, DPut.k (k := ki ((st.ho h).cnt : Nat)) said4 (line_lt (by omega)), ?_⟩
      have f5 : Fr [(st.ho h).said] H4 (upd H4 (st.ho h).said (.dK (putK (st.ho h).S (ki ((st.ho h).cnt : Nat)) an))) := Fr.set said4 trivial (by simp)
      have hm5 := f5.at_ _ _ hm4 (by simpa using nms)
      have own5 := f5.at_ _ _ hown4 (by simpa using xh.n1)
      refine fun dk hdk => ⟨_, rfl, _, _, dh, _, rfl, (Fr.new (l := []) hdk).at_ _ _ hm5 (by simp), T.k_House.cl, T.n_House_desk, Nat.le_of_ble_eq_true rfl, ?_⟩
      have f6 := Fr.new (l := []) (o := .dK []) hdk
      have hm6 := f6.at_ _ _ hm5 (by simp)
      have own6 := f6.at_ _ _ own5 (by simp)
      have said6 := f6.at_ _ _ (upd_same : (upd H4 (st.ho h).said (.dK (putK (st.ho h).S (ki ((st.ho h).cnt : Nat)) an))) (st.ho h).said = _) (by simp)
      have desk6 : (upd (upd H4 (st.ho h).said (.dK (putK (st.ho h).S (ki ((st.ho h).cnt : Nat)) an))) dk (.dK [])) dk = some (.dK []) := upd_same
      have nod : (st.ho h).own ≠ dk := ne_of_none own5 hdk
      have nsd : (st.ho h).said ≠ dk := ne_of_none (upd_same : (upd H4 (st.ho h).said (.dK (putK (st.ho h).S (ki ((st.ho h).cnt : Nat)) an))) (st.ho h).said = _) hdk
      have nmd : (st.ho h).ma ≠ dk := ne_of_none hm5 hdk
      have hdk0 : H dk = none := by
        refine f03.fresh (f4.fresh (f5.fresh hdk))
      generalize hH6 : upd (upd H4 (st.ho h).said (.dK (putK (st.ho h).S (ki ((st.ho h).cnt : Nat)) an))) dk (.dK []) = H6 at f6 hm6 own6 said6 desk6
      have f7 : Fr [(st.ho h).ma] H6 (upd H6 (st.ho h).ma (.ins T.k_House.C dh (putF "desk" (.ref dk) (hoF (.ref (st.ho h).own) (.int ((st.ho h).cnt : Nat)) (.ref (st.ho h).said) (.ref (st.ho h).desk) cp)))) := Fr.set hm6 trivial (by simp)
      have f05 : Fr (fp (st.ho h)) H H6 := (f03.lift.trans (f4.mono (by simp [fp]))).trans ((f5.mono (by simp [fp])).trans f6.lift)
      refine ⟨_, rfl, _, _, dh, _, _, rfl, upd_same, T.k_House.cl, T.n_House_count, rfl, _, _, rfl, rfl, _, rfl, _, _, dh, _, rfl, upd_same, T.k_House.cl, T.n_House_count, Nat.le_of_ble_eq_true rfl, ?_⟩
      have f8 := Fr.set (l := [(st.ho h).ma]) (H := upd H6 (st.ho h).ma (.ins T.k_House.C dh (putF "desk" (.ref dk) (hoF (.ref (st.ho h).own) (.int ((st.ho h).cnt : Nat)) (.ref (st.ho h).said) (.ref (st.ho h).desk) cp)))) (o' := .ins T.k_House.C dh (hoF (.ref (st.ho h).own) (.int (((st.ho h).cnt + 1 : Nat) : Int)) (.ref (st.ho h).said) (.ref dk) cp)) upd_same trivial (by simp)
      have f78 := f7.trans f8
      have f08 : Fr (fp (st.ho h)) H _ := f05.trans (f78.mono (by simp [fp]))
      refine q _ dk (putK (st.ho h).S (ki ((st.ho h).cnt : Nat)) an) f08 (.inr hdk0) (hc.house hh f08 (fun a m => m) rfl (fun a ha => ?_) ⟨⟨dh, cp, upd_same⟩, ?_, ?_, ?_, fun g v z => ?_, xh.n1, nod, nsd, ?_, ?_⟩)
      · simp only [fp, List.mem_cons, List.not_mem_nil, or_false] at ha ⊢
        rcases ha with rfl | rfl | rfl | rfl
        · exact .inl (.inl rfl)
        · exact .inl (.inr (.inl rfl))
        · exact .inl (.inr (.inr (.inl rfl)))
        · exact .inr hdk0
      · exact f78.at_ _ _ own6 (by simpa using nma.symm)
      · exact f78.at_ _ _ said6 (by simpa using nms.symm)
      · exact f78.at_ _ _ desk6 (by simpa using nmd.symm)
      · cases z
      · have := length_putK (st.ho h).S (ki ((st.ho h).cnt : Nat)) an
        show (putK (st.ho h).S (ki ((st.ho h).cnt : Nat)) an).length ≤ (st.ho h).cnt + 1
        omega
      · exact hlt
  · have hnw : ¬ want c (st.ho h).cnt h := fun z => hin ((want_iff hws h).mp z)
    refine ⟨_, rfl, _, _, dh, _, _, rfl, hm, T.k_House.cl, T.n_House_count, rfl, _, _, rfl, rfl, _, rfl, _, _, dh, _, rfl, hm, T.k_House.cl, T.n_House_count, Nat.le_of_ble_eq_true rfl, ?_⟩
    have f8 := Fr.set (l := [(st.ho h).ma]) (o' := .ins T.k_House.C dh (hoF (.ref (st.ho h).own) (.int (((st.ho h).cnt + 1 : Nat) : Int)) (.ref (st.ho h).said) (.ref (st.ho h).desk) cp)) hm trivial (by simp)
    have f08 : Fr (fp (st.ho h)) H _ := f8.mono (by simp [fp])
    have nm : ∀ a kvs, H a = some (.dK kvs) → a ∉ [(st.ho h).ma] := fun a kvs e m => by
      rw [List.mem_singleton.mp m, hm] at e
      cases e
    have hown : ownL c.os (bat c.b c.r (st.ho h).cnt) h = ownL c.os (bat c.b c.r ((st.ho h).cnt + 1)) h := own_congr fun j hj hjh => by
      rw [hsucc]
      refine (dl_other (l := l) (by omega) hwf fun z => hin ?_).symm
      exact (hwi h).mpr ⟨_, z, by unfold ow; exact hjh⟩
    refine q _ (st.ho h).desk (st.ho h).S f08 (.inl rfl) (hc.house hh f08 (fun a m => m) rfl (fun a ha => .inl ha) ⟨⟨dh, cp, upd_same⟩, ?_, f8.at_ _ _ xh.said (nm _ _ xh.said), ?_, fun g v z => ?_, xh.n1, xh.n2, xh.n3, ?_, hlt⟩)
    · have := f8.at_ _ _ xh.own (nm _ _ xh.own)
      rw [hown] at this
      exact this
    · have := f8.at_ _ _ xh.desk (nm _ _ xh.desk)
      rw [hdz hnw] at this
      exact this
    · cases z
    · exact Nat.le_succ_of_le xh.sl
end
end RL

/-! crew.py: a deed done. -/
namespace RL
open PySem L2 RlR

def Dd.word : Dd → Str
  | .go _ => "go"
  | .send _ => "send"
  | .take _ _ => "take"
def Dd.args : Dd → List Int
  | .go h => [h]
  | .send h => [h]
  | .take h o => [h, o]
theorem Dd.vs_eq : ∀ d : Dd, d.vs = .str d.word :: d.args.map V.int
  | .go _ => rfl
  | .send _ => rfl
  | .take _ _ => rfl
theorem Dd.may_args {c : Cw} {st : Cs} : ∀ {d : Dd}, d.may c st → ∀ g ∈ d.args, g ∈ c.hs
  | .go h, m => fun g hg => by rw [show g = h by simpa [Dd.args] using hg]; exact m.1
  | .send h, m => fun g hg => by rw [show g = h by simpa [Dd.args] using hg]; exact m.1
  | .take h o, m => fun g hg => by
    have : g = h ∨ g = o := by simpa [Dd.args] using hg
    rcases this with rfl | rfl
    · exact m.1
    · exact m.2.1
theorem Dd.few : ∀ d : Dd, d.args.length ≤ 2
  | .go _ => by simp [Dd.args]
  | .send _ => by simp [Dd.args]
  | .take _ _ => by simp [Dd.args]
def foot (c : Cw) (st : Cs) : List Addr := c.wl :: c.hs.flatMap fun h => fp (st.ho h)
theorem foot_fp {c : Cw} {st : Cs} {h : Int} (hh : h ∈ c.hs) : ∀ a ∈ fp (st.ho h), a ∈ foot c st := fun a ha => List.mem_cons_of_mem _ (List.mem_flatMap.mpr ⟨h, hh, ha⟩)

section
variable {P : Program} {w : World} {K : PySem.W.Frag} {mg : Str → Option Value} {base : Heap}
def spMayDo (CC CH : Addr) : Sp := fun vs H Q _ => ∃ (c : Cw) (st : Cs) (d : Dd) (v : V), vs = [.ref c.x, v] ∧ CwAt CC CH H c st ∧ c.Ok ∧ DdAt H d v ∧ d.may c st ∧ Ret H Q (.bl true)
theorem ok_Crew_may_do (T : Txt K w mg) : FnOk P w K mg base CX0 3 T.Crew_may_do.f T.Crew_may_do.fd ["self", "deed"] (spMayDo T.k_Crew.C T.k_House.C) := by
  refine T.Crew_may_do.F.ok sc_Crew_may_do (fun vs H Q E h => ?_) (fun cdv A outer s H vs Q E hr h => ?_)
  · obtain ⟨c, st, d, v, rfl, _⟩ := h
    rfl
  obtain ⟨c, st, d, v, rfl, hc, ok, ⟨p, rfl, hp⟩, hm, q⟩ := h
  obtain ⟨dx, hx⟩ := hc.me
  refine ⟨_, (pss_cons (ps_if (pt_cmpR op_eq (pe_ix (ixT (K := K) rfl) (pv 1) pe_int (fun _ _ => rfl)) pe_str (nomark _)) (pss_one (ps_ret (pe_meth (pv 0) T.k_Crew.cl T.Crew_may_send.me (ok_Crew_may_send T) (hr.mono (by omega)) T.Crew_may_send.b .nil pass0 (pa_cons (pe_ix (ixT (K := K) rfl) (pv 1) pe_int (fun _ _ => rfl)) pa_nil)))) pss_nil)
    (pss_cons (ps_if (pt_cmpR op_eq (pe_ix (ixT (K := K) rfl) (pv 1) pe_int (fun _ _ => rfl)) pe_str (nomark _)) (pss_one (ps_ret (pe_meth (pv 0) T.k_Crew.cl T.Crew_may_take.me (ok_Crew_may_take T) (hr.mono (by omega)) T.Crew_may_take.b .nil pass0 (pa_cons (pe_ix (ixT (K := K) rfl) (pv 1) pe_int (fun _ _ => rfl)) (pa_cons (pe_ix (ixT (K := K) rfl) (pv 1) pe_int (fun _ _ => rfl)) pa_nil))))) pss_nil)
    (pss_one (ps_ret (pe_meth (pv 0) T.k_Crew.cl T.Crew_may_go.me (ok_Crew_may_go T) (hr.mono (by omega)) T.Crew_may_go.b .nil pass0 (pa_cons (pe_ix (ixT (K := K) rfl) (pv 1) pe_int (fun _ _ => rfl)) pa_nil)))))), ?_⟩
  cases d with
  | send h =>
    exact ⟨_, rfl, p, _, _, _, rfl, rfl, SqT.of hp, at0, rfl, _, rfl, ifD rfl ⟨_, rfl, c.x, dx, _, rfl, hx, rfl, _, rfl, p, _, _, _, rfl, rfl, SqT.of hp, at1, c, st, h, rfl, hc, ok, hm.1, fun _ => q, fun z => absurd hm.2 z⟩⟩
  | take h o =>
    exact ⟨_, rfl, p, _, _, _, rfl, rfl, SqT.of hp, at0, rfl, _, rfl, ifN (by decide +kernel) ⟨_, rfl, p, _, _, _, rfl, rfl, SqT.of hp, at0, rfl, _, rfl, ifD rfl ⟨_, rfl, c.x, dx, _, rfl, hx, rfl, _, rfl, p, _, _, _, rfl, rfl, SqT.of hp, at1, _, rfl, p, _, _, _, rfl, rfl, SqT.of hp, at2, c, st, h, o, rfl, hc, ok, hm.1, fun _ => q, fun z => absurd hm.2.2 z⟩⟩⟩
  | go h =>
    exact ⟨_, rfl, p, _, _, _, rfl, rfl, SqT.of hp, at0, rfl, _, rfl, ifN (by decide +kernel) ⟨_, rfl, p, _, _, _, rfl, rfl, SqT.of hp, at0, rfl, _, rfl, ifN (by decide +kernel) ⟨_, rfl, c.x, dx, _, rfl, hx, rfl, _, rfl, p, _, _, _, rfl, rfl, SqT.of hp, at1, c, st, h, rfl, hc, ok, hm.1, fun _ => q, fun z => absurd hm.2 z⟩⟩⟩

def spNeedHouse (CC CH : Addr) : Sp := fun vs H Q _ => ∃ (c : Cw) (st : Cs) (h : Int), vs = [.ref c.x, .int h] ∧ CwAt CC CH H c st ∧ h ∈ c.hs ∧ Q .non H
theorem ok_Crew_need_house (T : Txt K w mg) : FnOk P w K mg base CX0 1 T.Crew_need_house.f T.Crew_need_house.fd ["self", "house"] (spNeedHouse T.k_Crew.C T.k_House.C) := by
  refine T.Crew_need_house.F.ok sc_Crew_need_house (fun vs H Q E h => ?_) (fun cdv A outer s H vs Q E hr h => ?_)
  · obtain ⟨c, st, h, rfl, _⟩ := h
    rfl
  obtain ⟨c, st, h, rfl, hc, hh, q⟩ := h
  obtain ⟨dx, hx⟩ := hc.me
  refine ⟨_, (pss_one (ps_if (pt_cmp (pc_dnotin (hu_of hr) (pv 1) (fldK (K := K) rfl (pv 0) rfl)) (by rfl)) (pss_one ps_never) pss_nil)), ?_⟩
  exact ⟨_, rfl, _, rfl, c.x, _, dx, _, _, rfl, hx, T.k_Crew.cl, T.n_Crew_members, rfl, c.mb, _, rfl, hc.get hh, _, rfl, iteF q⟩
theorem deeds_of (T : Txt K w mg) : ∀ d : Dd, KDct K w T.c_DEEDS.a d.word (.int ((d.args.length : Nat) + 1))
  | .go _ => T.i_DEEDS_go
  | .send _ => T.i_DEEDS_send
  | .take _ _ => T.i_DEEDS_take
def spNeedDeed (CC CH : Addr) : Sp := fun vs H Q _ => ∃ (c : Cw) (st : Cs) (d : Dd) (v : V), vs = [.ref c.x, v] ∧ CwAt CC CH H c st ∧ DdAt H d v ∧ d.may c st ∧ Ret H Q .non
theorem ok_Crew_need_deed (T : Txt K w mg) : FnOk P w K mg base CX0 2 T.Crew_need_deed.f T.Crew_need_deed.fd ["self", "deed"] (spNeedDeed T.k_Crew.C T.k_House.C) := by
  refine T.Crew_need_deed.F.ok sc_Crew_need_deed (fun vs H Q E h => ?_) (fun cdv A outer s H vs Q E hr h => ?_)
  · obtain ⟨c, st, d, v, rfl, _⟩ := h
    rfl
  obtain ⟨c, st, d, v, rfl, hc, ⟨p, rfl, hp⟩, hm, q⟩ := h
  obtain ⟨dx, hx⟩ := hc.me
  rw [Dd.vs_eq] at hp
  have hfew := d.few
  have hd := deeds_of T d
  have hn : ¬ (HT.sIx (V.str d.word :: d.args.map V.int).length 0 (some 1) = 0) := by show ¬ (min 1 ((d.args.map V.int).length + 1) = 0); omega
  refine ⟨_, (pss_cons (ps_if (PW.pt (pw_or (pt_not (pt_val (pe_callB call_is2 (by rfl) T.z_isinstance bt_isinstance (pa_cons (pv 1) (pa_cons (pe_bltn (v := .ty "tuple") rfl T.z_tuple bt_tuple rfl) pa_nil))))) (pw_or (pt_cmpR op_eq (pe_callB (lenK (K := K) rfl) (by rfl) T.z_len bt_len (pa_cons (pv 1) pa_nil)) pe_int (nomark _)) (pw_or (pt_not (pt_val (pe_callB call_is2 (by rfl) T.z_isinstance bt_isinstance (pa_cons (pe_ix (ixT (K := K) rfl) (pv 1) pe_int (fun _ _ => rfl)) (pa_cons (pe_bltn (v := .ty "str") rfl T.z_str bt_str rfl) pa_nil))))) (pw_or1 (pt_cmpR (opNotInK (K := K) (w := w) rfl rfl) (pe_ix (ixT (K := K) rfl) (pv 1) pe_int (fun _ _ => rfl)) (pe_glob (v := .ref T.c_DEEDS.a) rfl T.c_DEEDS.m rfl) (by rfl))))))) (pss_one ps_never) pss_nil)
    (pss_cons (ps_if (pt_cmpR op_ne (pe_callB (lenK (K := K) rfl) (by rfl) T.z_len bt_len (pa_cons (pv 1) pa_nil)) (pe_ix (ixD (K := K) (w := w) rfl rfl) (pe_glob (v := .ref T.c_DEEDS.a) rfl T.c_DEEDS.m rfl) (pe_ix (ixT (K := K) rfl) (pv 1) pe_int (fun _ _ => rfl)) (fun _ _ => rfl)) (nomark _)) (pss_one ps_never) pss_nil)
    (pss_cons (ps_if (pt_not (pt_val (pe_callB (allK (K := K) rfl rfl) (by rfl) T.z_all bt_all (pa_cons (pe_lc rfl sc_Crew_need_deed.nd (piT (K := K) rfl (pe_slice (slA (K := K) rfl) (pv 1) (po_some pe_int) po_none)) (blkOk_by (own := [("house", 2)]) (N := ["self", "deed", "house"]) (sc := defScope s_Crew_need_deed) (by decide +kernel)) (fun _ _ _ _ _ => (pg_name (i := 2) sc_Crew_need_deed.nd rfl (by first | exact Or.inl rfl | exact Or.inr rfl))) (fun _ _ _ _ _ => pts_nil) (fun _ _ _ _ _ => (pe_and (pe_callB call_is2 (by rfl) T.z_isinstance bt_isinstance (pa_cons (pv 2) (pa_cons (pe_bltn (v := .ty "int") rfl T.z_int bt_int rfl) pa_nil))) (pe_one (pe_not (pe_callB call_is2 (by rfl) T.z_isinstance bt_isinstance (pa_cons (pv 2) (pa_cons (pe_bltn (v := .ty "bool") rfl T.z_bool bt_bool rfl) pa_nil)))))))) pa_nil)))) (pss_one ps_never) pss_nil)
    (pss_one (ps_for PassesOwn.never rfl (piT (K := K) rfl (pe_slice (slA (K := K) rfl) (pv 1) (po_some pe_int) po_none)) (pg_name (i := 2) sc_Crew_need_deed.nd rfl (by first | exact Or.inl rfl | exact Or.inr rfl)) (pss_one (ps_expr (pe_meth (pv 0) T.k_Crew.cl T.Crew_need_house.me (ok_Crew_need_house T) (hr.mono (by omega)) T.Crew_need_house.b .nil pass0 (pa_cons (pv 2) pa_nil))))))))), ?_⟩
  refine ⟨_, rfl, _, _, _, rfl, .tt hp, _, rfl, iteF ?_⟩
  refine ⟨_, rfl, p, _, rfl, .inr (SqT.of hp), rfl, _, rfl, ifEqN (by rw [List.length_cons]; omega) ?_⟩
  refine ⟨_, rfl, p, _, _, _, rfl, rfl, SqT.of hp, at0, _, _, _, rfl, .ss _, _, rfl, iteF ?_⟩
  refine ⟨_, rfl, p, _, _, _, rfl, rfl, SqT.of hp, at0, _, _, _, rfl, rfl, hd, T.c_DEEDS.wk.low, _, rfl, iteF ?_⟩
  refine ⟨_, rfl, p, _, rfl, .inr (SqT.of hp), _, rfl, p, _, _, _, rfl, rfl, SqT.of hp, at0, _, _, _, rfl, rfl, hd, rfl, _, rfl, ifNeN (by rw [List.length_cons, List.length_map]; omega) ?_⟩
  refine ⟨_, rfl, _, rfl, p, _, rfl, SqT.of hp, fun hw => absurd hw.1 hn, fun _ a ha => ?_⟩
  rw [cut1]
  refine ⟨a, rfl, ⟨_, SqT.of upd_same⟩, fun D hD => ?_⟩
  have f1 := Fr.new (l := []) (o := .tup (d.args.map V.int)) ha
  refine lc_map (xs := d.args.map V.int) walk_tup hD (fun _ => V.bl true) (by rw [List.length_map]; omega) (fun H' f => SqT.of (f.tup _ _ upd_same)) (fun _ => rfl) (fun y hy H2 f2 R r => ?_) (fun H2 f2 hl => ?_)
  · obtain ⟨g, hg, rfl⟩ := List.mem_map.mp hy
    refine ⟨_, rfl, _, _, _, rfl, .ii g, _, rfl, iteT ?_⟩
    exact ⟨_, rfl, _, _, _, rfl, .ib g, _, rfl, r H2 (Fr.refl _ _)⟩
  · rw [all_true] at hl
    refine ⟨D, _, rfl, SqL.of hl, ?_⟩
    rw [rep_all]
    refine ⟨_, rfl, iteF ?_⟩
    have f02 := f1.trans f2
    refine ⟨_, rfl, _, rfl, p, _, rfl, SqT.of (f02.tup _ _ hp), fun hw => absurd hw.1 hn, fun _ b hb => ?_⟩
    rw [cut1]
    refine ⟨b, rfl, ⟨_, SqT.of upd_same⟩, ?_⟩
    have f3 := f02.trans (Fr.new (l := []) (o := .tup (d.args.map V.int)) hb)
    refine for_it (walk_tup (xs := d.args.map V.int)) (fun i σ H' => ∃ o, σ = [some (.ref c.x), some (.ref p), o] ∧ H' = upd H2 b (.tup (d.args.map V.int))) ⟨_, rfl, rfl⟩ (fun i σ H' _ ⟨_, _, e⟩ => by rw [e]; exact SqT.of upd_same) ?_ ?_
    · rintro i y σ H3 H3' hi ⟨o, rfl, rfl⟩ ⟨rfl, hy⟩
      rw [List.getElem?_map, Option.map_eq_some_iff] at hy
      obtain ⟨g, hg, rfl⟩ := hy
      exact ⟨_, rfl, c.x, dx, _, rfl, f3.at_ _ _ hx (by simp), rfl, _, rfl, c, st, g, rfl, hc.keep f3, Dd.may_args hm g (List.mem_of_getElem? hg), _, rfl, rfl⟩
    · rintro σ H3 ⟨o, rfl, rfl⟩
      exact q _ f3

def spDo (CC CH : Addr) : Sp := fun vs H Q _ => ∃ (c : Cw) (st : Cs) (d : Dd) (v : V), vs = [.ref c.x, v] ∧ CwAt CC CH H c st ∧ c.Ok ∧ Inv c st ∧ DdAt H d v ∧ d.may c st ∧
  ∀ H' st', Fr (foot c st) H H' → CwAt CC CH H' c st' → Inv c st' → meas c st' < meas c st → (∀ a ∈ foot c st', a ∈ foot c st ∨ H a = none) → Q .non H'
theorem ok_Crew_do (T : Txt K w mg) : FnOk P w K mg base CX0 18 T.Crew_do.f T.Crew_do.fd ["self", "deed"] (spDo T.k_Crew.C T.k_House.C) := by
  refine T.Crew_do.F.ok sc_Crew_do (fun vs H Q E h => ?_) (fun cdv A outer s H vs Q E hr h => ?_)
  · obtain ⟨c, st, d, v, rfl, _⟩ := h
    rfl
  obtain ⟨c, st, d, v, rfl, hc, ok, iv, ⟨p, rfl, hp⟩, hm, q⟩ := h
  obtain ⟨dx, hx⟩ := hc.me
  have hwl := iv.wl
  have h5 := ok.hl
  refine ⟨_, (pss_cons (ps_expr (pe_meth (pv 0) T.k_Crew.cl T.Crew_need_deed.me (ok_Crew_need_deed T) (hr.mono (by omega)) T.Crew_need_deed.b .nil pass0 (pa_cons (pv 1) pa_nil)))
    (pss_cons (ps_asg (pe_slice (slA (K := K) rfl) (pv 1) po_none (po_some pe_int)) (pgT (K := K) (n := 2) rfl rfl (pgs_cons (pg_name (i := 2) sc_Crew_do.nd rfl (by first | exact Or.inl rfl | exact Or.inr rfl)) (pgs_cons (pg_name (i := 3) sc_Crew_do.nd rfl (by first | exact Or.inl rfl | exact Or.inr rfl)) pgs_nil)) (by rfl) (by rfl)))
    (pss_one (ps_if (pt_cmpR op_eq (pv 2) pe_str (nomark _)) (pss_one ps_never) (pss_one (ps_if (pt_cmpR op_eq (pv 2) pe_str (nomark _)) (pss_one ps_never) (pss_one (ps_if (pt_not (pt_val (pe_meth (pv 0) T.k_Crew.cl T.Crew_may_do.me (ok_Crew_may_do T) (hr.mono (by omega)) T.Crew_may_do.b .nil pass0 (pa_cons (pv 1) pa_nil)))) (pss_one ps_never) (pss_one (ps_if (pt_cmpR op_eq (pv 2) pe_str (nomark _)) (pss_one (ps_expr (pe_meth (pv 0) T.k_Crew.cl T.Crew_send.me (ok_Crew_send T) (hr.mono (by omega)) T.Crew_send.b .nil pass0 (pa_cons (pv 3) pa_nil)))) (pss_one (ps_if (pt_cmpR op_eq (pv 2) pe_str (nomark _)) (pss_one (ps_dput (hu_of hr) (fldK (K := K) rfl (pe_dget (hu_of hr) (fldK (K := K) rfl (pv 0) rfl) (pv 3) (fun _ _ => rfl)) rfl) (pe_ix (ixT (K := K) rfl) (pv 1) pe_int (fun _ _ => rfl)) (pe_dget (hu_of hr) (fldK (K := K) rfl (pv 0) rfl) (pe_tup (pa_cons (pe_meth (pv 0) T.k_Crew.cl T.Crew_due_of.me (ok_Crew_due_of T) (hr.mono (by omega)) T.Crew_due_of.b .nil pass0 (pa_cons (pv 3) pa_nil)) (pa_cons (pe_ix (ixT (K := K) rfl) (pv 1) pe_int (fun _ _ => rfl)) pa_nil))) (fun _ _ => rfl)) rfl)) (pss_one (ps_expr (pe_meth (pv 0) T.k_Crew.cl T.Crew_go.me (ok_Crew_go T) (hr.mono (by omega)) T.Crew_go.b .nil pass0 (pa_cons (pv 3) pa_nil)))))))))))))))), ?_⟩
  refine ⟨_, rfl, c.x, dx, _, rfl, hx, rfl, _, rfl, c, st, d, _, rfl, hc, ⟨p, rfl, hp⟩, hm, fun H1 f1 => ?_⟩
  have hx1 := f1.at_ _ _ hx (by simp)
  have hp1 := f1.tup _ _ hp
  cases d with
  | send h =>
    refine ⟨_, rfl, _, rfl, p, _, rfl, SqT.of hp1, fun _ => ⟨p, _, rfl, SqT.of hp1, rfl, _, _, rfl, _, _, rfl, rfl, ?_⟩, fun hw => absurd ⟨rfl, rfl⟩ hw⟩
    refine ⟨_, rfl, rfl, _, rfl, ifN (by decide +kernel) ⟨_, rfl, rfl, _, rfl, ifN (by decide +kernel) ⟨_, rfl, c.x, dx, _, rfl, hx1, rfl, _, rfl, c, st, .send h, _, rfl, hc.keep f1, ok, ⟨p, rfl, hp1⟩, hm, fun H2 f2 => ⟨_, rfl, iteF ⟨_, rfl, rfl, _, rfl, ifD rfl ?_⟩⟩⟩⟩⟩
    have f02 := f1.trans f2
    refine ⟨_, rfl, c.x, dx, _, rfl, f02.at_ _ _ hx (by simp), rfl, _, rfl, c, st, h, rfl, hc.keep f02, ok, hm.1, hm.2.1, by omega, fun H3 v f3 hc3 => ?_⟩
    refine q H3 _ (f02.lift.trans (f3.mono (by simp [foot]))) hc3 (iv.send hm.1 hm.2) (meas_send hm.1 hm.2) fun a ha => .inl ha
  | go h =>
    refine ⟨_, rfl, _, rfl, p, _, rfl, SqT.of hp1, fun _ => ⟨p, _, rfl, SqT.of hp1, rfl, _, _, rfl, _, _, rfl, rfl, ?_⟩, fun hw => absurd ⟨rfl, rfl⟩ hw⟩
    refine ⟨_, rfl, rfl, _, rfl, ifN (by decide +kernel) ⟨_, rfl, rfl, _, rfl, ifN (by decide +kernel) ⟨_, rfl, c.x, dx, _, rfl, hx1, rfl, _, rfl, c, st, .go h, _, rfl, hc.keep f1, ok, ⟨p, rfl, hp1⟩, hm, fun H2 f2 => ⟨_, rfl, iteF ⟨_, rfl, rfl, _, rfl, ifN (by decide +kernel) ⟨_, rfl, rfl, _, rfl, ifN (by decide +kernel) ?_⟩⟩⟩⟩⟩⟩
    have f02 := f1.trans f2
    refine ⟨_, rfl, c.x, dx, _, rfl, f02.at_ _ _ hx (by simp), rfl, _, rfl, c, st, h, rfl, hc.keep f02, ok, hm.1, hm.2, iv.dz h hm.1, fun H3 dk S f3 hdk hc3 => ?_⟩
    refine q H3 _ (f02.lift.trans (f3.mono (foot_fp hm.1))) hc3 (iv.go h5 hm.1 hm.2) (meas_go h5 hm.1 hm.2) fun a ha => ?_
    rcases List.mem_cons.mp ha with rfl | ha
    · exact .inl List.mem_cons_self
    · obtain ⟨g, hg, hag⟩ := List.mem_flatMap.mp ha
      by_cases e : g = h
      · subst e
        unfold goS at hag
        rw [setHo_same] at hag
        simp only [fp, List.mem_cons, List.not_mem_nil, or_false] at hag
        rcases hag with rfl | rfl | rfl | rfl
        · exact .inl (foot_fp hg _ (by simp [fp]))
        · exact .inl (foot_fp hg _ (by simp [fp]))
        · exact .inl (foot_fp hg _ (by simp [fp]))
        · rcases hdk with rfl | hdk
          · exact .inl (foot_fp hg _ (by simp [fp]))
          · exact .inr (f02.fresh hdk)
      · rw [show (goS st h dk S).ho g = st.ho g from setHo_ne e] at hag
        exact .inl (foot_fp hg _ hag)
  | take h o =>
    have hh := hm.1
    have mt := hm.2.2
    refine ⟨_, rfl, _, rfl, p, _, rfl, SqT.of hp1, fun hw => absurd hw.2 (show ¬ ((2 : Nat) = 3) by decide), fun _ p2 hp2 => ⟨p2, _, rfl, SqT.of upd_same, rfl, _, _, rfl, _, _, rfl, rfl, ?_⟩⟩
    have f1b := Fr.new (l := []) (o := .tup (cutV (Dd.take h o).vs none (some 2))) hp2
    have f01 := f1.trans f1b
    have hp1b := f1b.tup _ _ hp1
    refine ⟨_, rfl, rfl, _, rfl, ifN (by decide +kernel) ⟨_, rfl, rfl, _, rfl, ifN (by decide +kernel) ⟨_, rfl, c.x, dx, _, rfl, f01.at_ _ _ hx (by simp), rfl, _, rfl, c, st, .take h o, _, rfl, hc.keep f01, ok, ⟨p, rfl, hp1b⟩, hm, fun H2 f2 => ⟨_, rfl, iteF ⟨_, rfl, rfl, _, rfl, ifN (by decide +kernel) ⟨_, rfl, rfl, _, rfl, ifD rfl ?_⟩⟩⟩⟩⟩⟩
    have f02 := f01.trans f2
    have hc2 := hc.keep f02
    have hx2 := f02.at_ _ _ hx (by simp)
    have hp2' := f02.tup _ _ hp
    obtain ⟨v0, hv0⟩ := Option.isSome_iff_exists.mp mt.2.2.2.2
    have xh := hc.ho h hh
    obtain ⟨dh, cp, hmH⟩ := xh.me
    refine ⟨_, rfl, c.x, _, dx, _, _, rfl, hx2, T.k_Crew.cl, T.n_Crew_wall, rfl, _, rfl, c.x, dx, _, rfl, hx2, rfl, _, rfl, c, st, h, rfl, hc2, hh, ok.r.1, fun e => absurd e (by have := mt.1; omega), fun _ => ⟨_, rfl, p, _, _, _, rfl, rfl, SqT.of hp2', at2, line_of (by simp), fun t ht => ⟨c.wl, v0, rfl, ?_, ?_⟩⟩⟩
    · rw [← hv0]
      exact (hc2.keep (Fr.new (l := []) ht)).wallD upd_same
    have f3 := f02.trans (Fr.new (l := []) (o := .tup [.int ((st.ho h).cnt : Nat), .int o]) ht)
    have hc3 := hc.keep f3
    have desk3 := f3.at_ _ _ xh.desk (by simp)
    have hdl := iv.dl h hh
    refine ⟨_, rfl, c.x, _, dx, _, _, rfl, f3.at_ _ _ hx (by simp), T.k_Crew.cl, T.n_Crew_members, rfl, _, rfl, c.mb, _, rfl, hc3.get hh, _, _, dh, _, _, rfl, f3.at_ _ _ hmH (by simp), T.k_House.cl, T.n_House_desk, rfl, _, rfl, p, _, _, _, rfl, rfl, SqT.of (f3.tup _ _ hp), at2, (st.ho h).desk, _, rfl, DPut.k (k := ki o) desk3 (line_lt (by omega)), ?_⟩
    have f4 := Fr.set (l := [(st.ho h).desk]) (o' := .dK (putK (st.ho h).D (ki o) v0)) desk3 trivial (by simp)
    have xh3 := hc3.ho h hh
    have nm : ∀ C dx fs, ∀ a, (upd H2 t (.tup [.int ((st.ho h).cnt : Nat), .int o])) a = some (.ins C dx fs) → a ∉ [(st.ho h).desk] := fun C dx fs a e m => by
      rw [List.mem_singleton.mp m, desk3] at e
      cases e
    obtain ⟨dh3, cp3, hm3⟩ := xh3.me
    refine q _ (takeS st h o v0) (f3.lift.trans (f4.mono fun a m => foot_fp hh a (by rw [List.mem_singleton.mp m]; simp [fp]))) (hc3.house hh f4 (fun a m => by rw [List.mem_singleton.mp m]; simp [fp]) rfl (fun a m => .inl m) ⟨⟨dh3, cp3, f4.at_ _ _ hm3 (nm _ _ _ _ hm3)⟩, f4.at_ _ _ xh3.own (by simpa using xh.n2), f4.at_ _ _ xh3.said (by simpa using xh.n3), upd_same, fun g v z => ?_, xh.n1, xh.n2, xh.n3, xh.sl, xh.cl⟩) (iv.take hh hm.2.1 mt) (meas_take hh hm.2.1 mt) fun a ha => .inl ?_
    · dsimp only at z
      rw [valV_put] at z
      split at z
      · rename_i e
        cases Sum.inl.inj e
        cases z
        exact (hc3.wv _ _ _ hv0).keep f4.tup
      · exact (xh3.dl g v z).keep f4.tup
    · rcases List.mem_cons.mp ha with rfl | ha
      · exact List.mem_cons_self
      · obtain ⟨g, hg, hag⟩ := List.mem_flatMap.mp ha
        by_cases e : g = h
        · subst e
          unfold takeS at hag
          rw [setHo_same] at hag
          exact foot_fp hg _ hag
        · rw [show (takeS st h o v0).ho g = st.ho g from setHo_ne e] at hag
          exact foot_fp hg _ hag

def spHouses (CC CH : Addr) : Sp := fun vs H Q _ => ∃ (c : Cw) (st : Cs), vs = [.ref c.x] ∧ CwAt CC CH H c st ∧ H c.mb = some (.dK (c.hs.map fun h => (ki h, V.ref (st.ho h).ma))) ∧ ∀ p, H p = none → Q (.ref p) (upd H p (.tup (c.hs.map V.int)))
theorem ok_Crew_houses (T : Txt K w mg) : FnOk P w K mg base CX0 1 T.Crew_houses.f T.Crew_houses.fd ["self"] (spHouses T.k_Crew.C T.k_House.C) := by
  refine T.Crew_houses.F.ok sc_Crew_houses (fun vs H Q E h => ?_) (fun cdv A outer s H vs Q E hr h => ?_)
  · obtain ⟨c, st, rfl, _⟩ := h
    rfl
  obtain ⟨c, st, rfl, hc, hmb, q⟩ := h
  obtain ⟨dx, hx⟩ := hc.me
  refine ⟨_, (pss_one (ps_ret (pe_callTy (call_tupD rfl) (by rfl) T.z_tuple bt_tuple (pa_cons (fldK (K := K) rfl (pv 0) rfl) pa_nil)))), ?_⟩
  refine ⟨_, rfl, c.x, _, dx, _, _, rfl, hx, T.k_Crew.cl, T.n_Crew_members, rfl, c.mb, _, rfl, hmb, fun p hp => ?_⟩
  rw [List.map_map]
  exact q p hp
def spWorthsOf (CC CH : Addr) : Sp := fun vs H Q _ => ∃ (c : Cw) (st : Cs) (h : Int), vs = [.ref c.x, .int h] ∧ CwAt CC CH H c st ∧ h ∈ c.hs ∧ ∀ p, H p = none → Q (.ref p) (upd H p (.dK (ownL c.os (bat c.b c.r (st.ho h).cnt) h)))
theorem ok_Crew_worths (T : Txt K w mg) : FnOk P w K mg base CX0 2 T.Crew_worths.f T.Crew_worths.fd ["self", "house"] (spWorthsOf T.k_Crew.C T.k_House.C) := by
  refine T.Crew_worths.F.ok sc_Crew_worths (fun vs H Q E h => ?_) (fun cdv A outer s H vs Q E hr h => ?_)
  · obtain ⟨c, st, h, rfl, _⟩ := h
    rfl
  obtain ⟨c, st, h, rfl, hc, hh, q⟩ := h
  obtain ⟨dx, hx⟩ := hc.me
  have xh := hc.ho h hh
  obtain ⟨dh, cp, hm⟩ := xh.me
  refine ⟨_, (pss_cons (ps_expr (pe_meth (pv 0) T.k_Crew.cl T.Crew_need_house.me (ok_Crew_need_house T) (hr.mono (by omega)) T.Crew_need_house.b .nil pass0 (pa_cons (pv 1) pa_nil)))
    (pss_one (ps_ret (pe_callTy call_dictD (by rfl) T.z_dict bt_dict (pa_cons (fldK (K := K) rfl (pe_dget (hu_of hr) (fldK (K := K) rfl (pv 0) rfl) (pv 1) (fun _ _ => rfl)) rfl) pa_nil))))), ?_⟩
  exact ⟨_, rfl, c.x, dx, _, rfl, hx, rfl, _, rfl, c, st, h, rfl, hc, hh, _, rfl, c.x, _, dx, _, _, rfl, hx, T.k_Crew.cl, T.n_Crew_members, rfl, _, rfl, c.mb, _, rfl, hc.get hh, _, _, dh, _, _, rfl, hm, T.k_House.cl, T.n_House_own, rfl, _, _, rfl, .inl xh.own, fun p hp => q p hp⟩
end
end RL

/-! crew.py: a crew made; finish. -/
namespace RL
open PySem L2 RlR

section
variable {P : Program} {w : World} {K : PySem.W.Frag} {mg : Str → Option Value} {base : Heap}
def spHoInit (CH : Addr) : Sp := fun vs H Q _ => ∃ (x dx po : Addr) (kvs : List (Key × V)), vs = [.ref x, .ref po] ∧ H x = some (.ins CH dx []) ∧ H po = some (.dK kvs) ∧
  ∀ H' said desk cp, Fr [x] H H' → H said = none → H desk = none → said ≠ desk → H' x = some (.ins CH dx (hoF (.ref po) (.int 0) (.ref said) (.ref desk) cp)) → H' said = some (.dK []) → H' desk = some (.dK []) → Q .non H'
theorem st_put {H H1 : Hp} {x C dx : Addr} {fs : List (Str × V)} (fs' : List (Str × V)) (f : Fr [x] H H1) (hx : H1 x = some (.ins C dx fs)) : Fr [x] H (upd H1 x (.ins C dx fs')) ∧ (upd H1 x (.ins C dx fs')) x = some (.ins C dx fs') ∧ ∀ a o, a ≠ x → H1 a = some o → (upd H1 x (.ins C dx fs')) a = some o :=
  ⟨f.trans (Fr.set hx trivial (by simp)), upd_same, fun a o n h => by rw [upd_ne n]; exact h⟩
theorem ok_House_init (T : Txt K w mg) : FnOk P w K mg base CX0 1 T.House_init.f T.House_init.fd ["self", "own"] (spHoInit T.k_House.C) := by
  refine T.House_init.F.ok sc_House_init (fun vs H Q E h => ?_) (fun cdv A outer s H vs Q E hr h => ?_)
  · obtain ⟨x, dx, po, kvs, rfl, _⟩ := h
    rfl
  obtain ⟨x, dx, po, kvs, rfl, hx, hpo, q⟩ := h
  have cl := T.k_House.cl
  have nox : po ≠ x := fun e => by
    rw [e, hx] at hpo
    cases hpo
  refine ⟨_, (pss_cons (sfldK (K := K) rfl (pv 0) (pv 1) rfl)
    (pss_cons (sfldK (K := K) rfl (pv 0) pe_int rfl)
    (pss_cons (sfldK (K := K) rfl (pv 0) pe_dnewK rfl)
    (pss_cons (sfldK (K := K) rfl (pv 0) pe_dnewK rfl)
    (pss_one (sfldK (K := K) rfl (pv 0) (pe_tup (pa_cons (pe_callTy call_dictD (by rfl) T.z_dict bt_dict (pa_cons (pv 1) pa_nil)) (pa_cons pe_int (pa_cons pe_dnewK pa_nil)))) rfl)))))), ?_⟩
  refine ⟨_, rfl, _, rfl, x, _, dx, _, rfl, hx, cl, T.n_House_own, Nat.le_of_ble_eq_true rfl, ?_⟩
  obtain ⟨f1, x1, k1⟩ := st_put (putF "own" (.ref po) []) (Fr.refl [x] H) hx
  refine ⟨_, rfl, x, _, dx, _, rfl, x1, cl, T.n_House_count, Nat.le_of_ble_eq_true rfl, ?_⟩
  obtain ⟨f2, x2, k2⟩ := st_put (putF "count" (.int 0) (putF "own" (.ref po) [])) f1 x1
  refine fun sd hsd => ⟨_, rfl, x, _, dx, _, rfl, (Fr.new (l := []) hsd).at_ _ _ x2 (by simp), cl, T.n_House_said, Nat.le_of_ble_eq_true rfl, ?_⟩
  have nsx : sd ≠ x := (ne_of_none x2 hsd).symm
  have f2' := f2.trans (Fr.new (l := [x]) (o := .dK []) hsd)
  obtain ⟨f3, x3, k3⟩ := st_put (putF "said" (.ref sd) (putF "count" (.int 0) (putF "own" (.ref po) []))) f2' ((Fr.new (l := []) hsd).at_ _ _ x2 (by simp))
  have s3 := k3 _ _ nsx upd_same
  refine fun dk hdk => ⟨_, rfl, x, _, dx, _, rfl, (Fr.new (l := []) hdk).at_ _ _ x3 (by simp), cl, T.n_House_desk, Nat.le_of_ble_eq_true rfl, ?_⟩
  have ndx : dk ≠ x := (ne_of_none x3 hdk).symm
  have nsd : sd ≠ dk := ne_of_none s3 hdk
  have f3' := f3.trans (Fr.new (l := [x]) (o := .dK []) hdk)
  obtain ⟨f4, x4, k4⟩ := st_put (putF "desk" (.ref dk) (putF "said" (.ref sd) (putF "count" (.int 0) (putF "own" (.ref po) [])))) f3' ((Fr.new (l := []) hdk).at_ _ _ x3 (by simp))
  have d4 := k4 _ _ ndx upd_same
  have s4 := k4 _ _ nsx ((Fr.new (l := []) hdk).at_ _ _ s3 (by simp))
  have hpo4 := f4.at_ _ _ hpo (by simpa using nox)
  refine ⟨_, rfl, po, kvs, rfl, .inl hpo4, fun c1 hc1 => fun c2 hc2 => ⟨line_of (by simp), fun c3 hc3 => ?_⟩⟩
  have g1 := Fr.new (l := []) (o := .dK kvs) hc1
  have g2 := g1.trans (Fr.new (l := []) (o := .dK []) hc2)
  have g3 := g2.trans (Fr.new (l := []) (o := .tup [.ref c1, .int 0, .ref c2]) hc3)
  refine ⟨_, rfl, x, _, dx, _, rfl, g3.at_ _ _ x4 (by simp), cl, T.n_House_copy, Nat.le_of_ble_eq_true rfl, ?_⟩
  obtain ⟨f5, x5, k5⟩ := st_put (hoF (.ref po) (.int 0) (.ref sd) (.ref dk) (.ref c3)) (f4.trans g3.lift) (g3.at_ _ _ x4 (by simp))
  exact q _ sd dk (.ref c3) f5 (f2.fresh hsd) (f3.fresh hdk) nsd x5 (k5 _ _ nsx (g3.at_ _ _ s4 (by simp))) (k5 _ _ ndx (g3.at_ _ _ d4 (by simp)))

def withH (c : Cw) (hs : List Int) : Cw := { c with hs := hs }
theorem CwAt.add {CC CH : Addr} {H : Hp} {c : Cw} {st : Cs} {h : Int} {o' : Ho} (x : CwAt CC CH H c st) (hn : h ∉ c.hs) (hm : H c.mb = some (.dK (c.hs.map fun h => (ki h, V.ref (st.ho h).ma)))) (ho : HoAt CH H c h o') (hs : ∀ g ∈ c.hs, ∀ a ∈ fp o', a ∉ fp (st.ho g)) (h1 : c.mb ∉ fp o') (h2 : c.x ∉ fp o') :
    CwAt CC CH (upd H c.mb (.dK (c.hs.map (fun h => (ki h, V.ref (st.ho h).ma)) ++ [(ki h, V.ref o'.ma)]))) (withH c (c.hs ++ [h])) (setHo st h o') ∧ (c.hs ++ [h]).map (fun g => (ki g, V.ref ((setHo st h o').ho g).ma)) = c.hs.map (fun h => (ki h, V.ref (st.ho h).ma)) ++ [(ki h, V.ref o'.ma)] := by
  have em : (c.hs ++ [h]).map (fun g => (ki g, V.ref ((setHo st h o').ho g).ma)) = c.hs.map (fun h => (ki h, V.ref (st.ho h).ma)) ++ [(ki h, V.ref o'.ma)] := by
    rw [List.map_append]
    congr 1
    · refine List.map_congr_left fun g hg => ?_
      rw [setHo_ne fun e => hn (by rw [← e]; exact hg)]
    · show [(ki h, V.ref ((setHo st h o').ho h).ma)] = _
      rw [setHo_same]
  refine ⟨?_, em⟩
  have f : Fr [c.mb] H (upd H c.mb (.dK (c.hs.map (fun h => (ki h, V.ref (st.ho h).ma)) ++ [(ki h, V.ref o'.ma)]))) := Fr.set hm trivial (by simp)
  obtain ⟨dx, e⟩ := x.me
  obtain ⟨us, hu, hp⟩ := x.wanted
  have nl : ∀ a xs, H a = some (.lst xs) → a ∉ [c.mb] := fun a xs ha m => by
    rw [List.mem_singleton.mp m, hm] at ha
    cases ha
  refine ⟨⟨dx, f.at_ _ _ e fun m => ?_⟩, x.os.keep f.tup, x.row.keep f.tup, f.at_ _ _ x.wall (by have q := x.mb_wl.symm; show c.wl ∉ [c.mb]; simpa using q), ⟨us, f.at_ _ _ hu (nl _ _ hu), Paired.mapP hp fun ws u ⟨p, e, q⟩ => ⟨p, e, f.at_ _ _ q (nl _ _ q)⟩⟩, .inl ?_, fun g hg => ?_, fun j g u q => (x.wv j g u q).keep f.tup, fun g hg g' hg' ne a ha => ?_, fun g hg => ?_⟩
  · have m' : c.x ∈ [c.mb] := m
    rw [List.mem_singleton.mp m', hm] at e
    cases e
  · show upd H c.mb _ c.mb = some (.dK ((c.hs ++ [h]).map fun g => (ki g, V.ref ((setHo st h o').ho g).ma)))
    rw [upd_same, em]
  · have hg : g ∈ c.hs ++ [h] := hg
    by_cases z : g = h
    · subst z
      rw [setHo_same]
      have y := ho.keepL f (by simpa using h1)
      exact ⟨y.me, y.own, y.said, y.desk, y.dl, y.n1, y.n2, y.n3, y.sl, y.cl⟩
    · have hg' : g ∈ c.hs := (List.mem_append.mp hg).resolve_right fun q => z (List.mem_singleton.mp q)
      rw [setHo_ne z]
      have y := (x.ho g hg').keepL f (by simpa using (x.smb g hg').1)
      exact ⟨y.me, y.own, y.said, y.desk, y.dl, y.n1, y.n2, y.n3, y.sl, y.cl⟩
  · have hg : g ∈ c.hs ++ [h] := hg
    have hg' : g' ∈ c.hs ++ [h] := hg'
    by_cases z : g = h
    · subst z
      rw [setHo_same] at ha
      rw [setHo_ne ne.symm]
      exact hs g' ((List.mem_append.mp hg').resolve_right fun q => ne (List.mem_singleton.mp q).symm) a ha
    · rw [setHo_ne z] at ha
      have hgc : g ∈ c.hs := (List.mem_append.mp hg).resolve_right fun q => z (List.mem_singleton.mp q)
      by_cases z' : g' = h
      · subst z'
        rw [setHo_same]
        exact fun m => hs g hgc a m ha
      · rw [setHo_ne z']
        exact x.sep g hgc g' ((List.mem_append.mp hg').resolve_right fun q => z' (List.mem_singleton.mp q)) ne a ha
  · have hg : g ∈ c.hs ++ [h] := hg
    by_cases z : g = h
    · subst z
      rw [setHo_same]
      exact ⟨h1, h2⟩
    · rw [setHo_ne z]
      exact x.smb g ((List.mem_append.mp hg).resolve_right fun q => z (List.mem_singleton.mp q))
theorem valV_mapN_none {f : Nat → V} {k : Nat} : ∀ {l : List Nat}, k ∉ l → valV (l.map fun k => (ki (k : Nat), f k)) (ki (k : Nat)) = none
  | [], _ => rfl
  | x :: r, h => by
    rw [List.map_cons, valV_neg (p := (ki (x : Nat), f x)) (fun q => h (by have := Sum.inl.inj q; rw [show k = x by omega]; exact List.mem_cons_self))]
    exact valV_mapN_none fun m => h (List.mem_cons_of_mem _ m)
/-- the keys below n -/
def ownP (os bd : List Int) (h : Int) (n : Nat) : List (Key × V) := ((List.range n).filter fun k => decide (os.getD k 0 = h)).map fun k => (ki (k : Nat), V.int (bd.getD k 0))
theorem ownP_len (os bd : List Int) (h : Int) (n : Nat) : (ownP os bd h n).length ≤ n := by
  unfold ownP
  rw [List.length_map]
  have := List.length_filter_le (fun k => decide (os.getD k 0 = h)) (List.range n)
  rw [List.length_range] at this
  exact this
theorem ownP_yes {os bd : List Int} {h : Int} {n : Nat} (e : os.getD n 0 = h) : putK (ownP os bd h n) (ki (n : Nat)) (.int (bd.getD n 0)) = ownP os bd h (n + 1) := by
  rw [putK_new]
  · unfold ownP
    rw [List.range_succ, List.filter_append, List.map_append, List.filter_cons, if_pos (decide_eq_true e)]
    rfl
  · refine valV_mapN_none fun m => ?_
    rw [List.mem_filter, List.mem_range] at m
    omega
theorem ownP_no {os bd : List Int} {h : Int} {n : Nat} (e : os.getD n 0 ≠ h) : ownP os bd h (n + 1) = ownP os bd h n := by
  unfold ownP
  rw [List.range_succ, List.filter_append, List.map_append, List.filter_cons, if_neg (by simpa using e)]
  show _ ++ [] = _
  rw [List.append_nil]
theorem in5 {g : Int} (h : 0 ≤ g ∧ g ≤ 4) : g ∈ ([0, 1, 2, 3, 4] : List Int) := by
  simp only [List.mem_cons, List.not_mem_nil, or_false]
  omega
/-- none there yet -/
def ho0 (x : Addr) : Ho := ⟨x, x, x, x, 0, [], []⟩
theorem inv_new {c : Cw} {st : Cs} (ok : c.Ok) (hW : st.W = []) (hc : ∀ h ∈ c.hs, (st.ho h).cnt = 0) (hD : ∀ h ∈ c.hs, (st.ho h).D = []) : Inv c st := by
  have h40 := ok.r.1
  have h5 := ok.hl
  have hm : meas c st ≤ 1700 := by
    have key : ∀ l : List Int, (∀ h ∈ l, (st.ho h).cnt = 0) → (l.map (term c st)).sum ≤ l.length * 330 := by
      intro l
      induction l with
      | nil => intro _; exact Nat.le_refl _
      | cons x r ih =>
        intro h
        have h1 := ih fun y hy => h y (List.mem_cons_of_mem _ hy)
        have h2 := h x List.mem_cons_self
        have h3 : term c st x ≤ 330 := by
          unfold term
          have := List.length_filter_le (fun o => !inD (st.ho x) o) c.hs
          rw [h2]
          split <;> omega
        simp only [List.map_cons, List.sum_cons, List.length_cons]
        omega
    have := key c.hs hc
    unfold meas
    omega
  refine ⟨fun g hg j hj _ => ?_, by rw [hW]; simp only [List.length_nil]; omega, fun h hh => by rw [hD h hh]; simp only [List.length_nil]; omega, fun h hh _ => hD h hh⟩
  rw [hc g hg] at hj
  omega

def spCrewInit (CC CH : Addr) : Sp := fun vs H Q _ => ∃ (x dx : Addr) (b os : List Int) (r : List Laid) (vo vb vr : V), vs = [.ref x, vo, vb, vr] ∧ H x = some (.ins CC dx []) ∧ BAt H os vo ∧ BAt H b vb ∧ RAt H r vr ∧ okB b ∧ okR (b.length : Int) r ∧ os.length = b.length ∧ (∀ g ∈ os, 0 ≤ g ∧ g ≤ 4) ∧
  ∀ H' c st, Fr [x] H H' → c.x = x → c.b = b → c.r = r → c.os = os → c.Ok → CwAt CC CH H' c st → Inv c st → H' c.mb = some (.dK (c.hs.map fun h => (ki h, V.ref (st.ho h).ma))) → (∀ a ∈ foot c st, H a = none) → Q .non H'
theorem ok_Crew_init (T : Txt K w mg) : FnOk P w K mg base CX0 21 T.Crew_init.f T.Crew_init.fd ["self", "owners", "board", "row"] (spCrewInit T.k_Crew.C T.k_House.C) := by
  refine T.Crew_init.F.ok sc_Crew_init (fun vs H Q E h => ?_) (fun cdv A outer s H vs Q E hr h => ?_)
  · obtain ⟨x, dx, b, os, r, vo, vb, vr, rfl, _⟩ := h
    rfl
  obtain ⟨x, dx, b, os, r, vo, vb, vr, rfl, hx, ⟨oa, rfl, hos⟩, ⟨ba, rfl, hb⟩, ⟨ra, rs, rfl, hra, hrs⟩, okb, okr, hol, hoi, q⟩ := h
  have cl := T.k_Crew.cl
  obtain ⟨hb1, hb2, hb3⟩ := id okb
  have hrl := hrs.length
  have h40 := okr.1
  refine ⟨_, (pss_cons (ps_expr (pe_call (ok_need_board T) (hr.mono (by omega)) rfl T.need_board.m T.need_board.F.kp T.need_board.b .nil pass0 (pa_cons (pv 2) pa_nil)))
    (pss_cons (ps_expr (pe_call (ok_need_laid_row T) (hr.mono (by omega)) rfl T.need_laid_row.m T.need_laid_row.F.kp T.need_laid_row.b .nil pass0 (pa_cons (pe_callB (lenK (K := K) rfl) (by rfl) T.z_len bt_len (pa_cons (pv 2) pa_nil)) (pa_cons (pv 3) pa_nil))))
    (pss_cons (ps_expr (pe_call (ok_need_owners T) (hr.mono (by omega)) rfl T.need_owners.m T.need_owners.F.kp T.need_owners.b .nil pass0 (pa_cons (pv 2) (pa_cons (pv 1) pa_nil))))
    (pss_cons (sfldK (K := K) rfl (pv 0) (pv 1) rfl)
    (pss_cons (sfldK (K := K) rfl (pv 0) (pv 3) rfl)
    (pss_cons (sfldK (K := K) rfl (pv 0) pe_dnewT rfl)
    (pss_cons (sfldK (K := K) rfl (pv 0) (pe_lc rfl sc_Crew_init.nd (piT (K := K) rfl (pv 3)) (blkOk_by (own := [("deal", 7), ("keys", 8)]) (N := ["self", "owners", "board", "row", "house", "own", "key", "deal", "keys"]) (sc := defScope s_Crew_init) (by decide +kernel)) (fun _ _ _ _ _ => (pgT (K := K) (n := 2) rfl rfl (pgs_cons (pg_name (i := 7) sc_Crew_init.nd rfl (by first | exact Or.inl rfl | exact Or.inr rfl)) (pgs_cons (pg_name (i := 8) sc_Crew_init.nd rfl (by first | exact Or.inl rfl | exact Or.inr rfl)) pgs_nil)) (by rfl) (by rfl))) (fun _ _ _ _ _ => pts_nil) (fun _ _ _ _ _ => (pe_callB (sortedSK (K := K) (w := w) rfl rfl rfl) (by rfl) T.z_sorted bt_sorted (pa_cons (pe_callTy (setK (K := K) (w := w) rfl rfl rfl) (by rfl) T.z_set bt_set (pa_cons (pe_lc rfl sc_Crew_init.nd (piT (K := K) rfl (pv 8)) (blkOk_by (own := [("key", 6)]) (by rfl)) (fun _ _ _ _ _ => (pg_name (i := 6) sc_Crew_init.nd rfl (by first | exact Or.inl rfl | exact Or.inr rfl))) (fun _ _ _ _ _ => pts_nil) (fun _ _ _ _ _ => (pe_ix (ixT (K := K) rfl) (pv 1) (pv 6) (fun _ _ => rfl)))) pa_nil)) pa_nil)))) rfl)
    (pss_cons (sfldK (K := K) rfl (pv 0) pe_dnewK rfl)
    (pss_one (ps_for PassesOwn.never rfl (piL (K := K) rfl (pe_callB (sortedSK (K := K) (w := w) rfl rfl rfl) (by rfl) T.z_sorted bt_sorted (pa_cons (pe_callTy (setK (K := K) (w := w) rfl rfl rfl) (by rfl) T.z_set bt_set (pa_cons (pv 1) pa_nil)) pa_nil))) (pg_name (i := 4) sc_Crew_init.nd rfl (by first | exact Or.inl rfl | exact Or.inr rfl)) (pss_cons (ps_set (i := 5) sc_Crew_init.nd rfl (by first | exact Or.inl rfl | exact Or.inr rfl) pe_dnewK)
    (pss_cons (ps_for PassesOwn.never rfl (pi_range1 rfl T.z_range (pa_cons (pe_callB (lenK (K := K) rfl) (by rfl) T.z_len bt_len (pa_cons (pv 2) pa_nil)) pa_nil)) (pg_name (i := 6) sc_Crew_init.nd rfl (by first | exact Or.inl rfl | exact Or.inr rfl)) (pss_one (ps_if (pt_cmpR op_eq (pe_ix (ixT (K := K) rfl) (pv 1) (pv 6) (fun _ _ => rfl)) (pv 4) (nomark _)) (pss_one (ps_dput (hu_of hr) (pv 5) (pv 6) (pe_ix (ixT (K := K) rfl) (pv 2) (pv 6) (fun _ _ => rfl)) rfl)) pss_nil)))
    (pss_one (ps_dput (hu_of hr) (fldK (K := K) rfl (pv 0) rfl) (pv 4) (pe_make T.mk_House (ok_House_init T) (hr.mono (by omega)) rfl T.k_House.m T.House_init.b .nil pass0 (pa_cons (pv 5) pa_nil)) rfl)))))))))))))), ?_⟩
  refine ⟨_, rfl, ba, b, rfl, hb, okb, fun H1 f1 => ?_⟩
  refine ⟨_, rfl, ba, _, rfl, .inr (SqT.of (f1.tup _ _ hb)), _, rfl, (b.length : Int), r, .ref ra, by rw [List.length_map]; rfl, RAt.keep f1.tup ⟨ra, rs, rfl, hra, hrs⟩, okr, by omega, by omega, fun H2 f2 => ?_⟩
  have f02 := f1.trans f2
  refine ⟨_, rfl, _, rfl, b, os, .ref ba, .ref oa, rfl, ⟨ba, rfl, f02.tup _ _ hb⟩, ⟨oa, rfl, f02.tup _ _ hos⟩, hol, hb2, hoi, fun H3 f3 => ?_⟩
  have f03 := f02.trans f3
  have x3 := f03.at_ _ _ hx (by simp)
  refine ⟨_, rfl, _, rfl, x, _, dx, _, rfl, x3, cl, T.n_Crew_owners, Nat.le_of_ble_eq_true rfl, ?_⟩
  obtain ⟨f4, x4, k4⟩ := st_put (putF "owners" (.ref oa) []) (f03.lift (l := [x])) x3
  refine ⟨_, rfl, _, rfl, x, _, dx, _, rfl, x4, cl, T.n_Crew_row, Nat.le_of_ble_eq_true rfl, ?_⟩
  obtain ⟨f5, x5, k5⟩ := st_put (putF "row" (.ref ra) (putF "owners" (.ref oa) [])) f4 x4
  refine fun wl hwl => ⟨_, rfl, x, _, dx, _, rfl, (Fr.new (l := []) hwl).at_ _ _ x5 (by simp), cl, T.n_Crew_wall, Nat.le_of_ble_eq_true rfl, ?_⟩
  have nwx : wl ≠ x := (ne_of_none x5 hwl).symm
  have f5' := f5.trans (Fr.new (l := [x]) (o := .dT []) hwl)
  obtain ⟨f6, x6, k6⟩ := st_put (putF "wall" (.ref wl) (putF "row" (.ref ra) (putF "owners" (.ref oa) []))) f5' ((Fr.new (l := []) hwl).at_ _ _ x5 (by simp))
  have w6 := k6 _ _ nwx upd_same
  have zwl : H wl = none := f5.fresh hwl
  generalize upd (upd _ wl (HO.dT [])) x (HO.ins T.k_Crew.C dx (putF "wall" (.ref wl) (putF "row" (.ref ra) (putF "owners" (.ref oa) [])))) = H6 at f6 x6 k6 w6
  have hra6 := f6.tup _ _ hra
  have hos6 := f6.tup _ _ hos
  have hb6 := f6.tup _ _ hb
  refine ⟨_, rfl, ra, rfl, ⟨_, SqT.of hra6⟩, fun L hL => ?_⟩
  have nLx : L ≠ x := (ne_of_none x6 hL).symm
  have zL : H L = none := f6.fresh hL
  refine lc_it (walk_tup (xs := rs)) (fun i H' => ∃ (wt : List (List Int)) (us : List V), Fr [] H6 H' ∧ H' L = some (.lst us) ∧ Paired (fun (ws : List Int) u => ∃ p, u = V.ref p ∧ p ≠ L ∧ H' p = some (.lst (ws.map V.int))) wt us ∧ wt.length = i ∧ ∀ (j : Nat) (l : Laid) (ws : List Int), r[j]? = some l → wt[j]? = some ws → ws.length ≤ 5 ∧ ∀ g, g ∈ ws ↔ ∃ k ∈ l.2, ow os k = g)
    ⟨[], [], Fr.new hL, upd_same, .nil, rfl, fun j l ws _ e => by simp at e⟩ (fun i H' _ ⟨_, _, f, _⟩ => SqT.of (f.tup _ _ hra6)) ?_ ?_
  · rintro i v H7 H7' hi ⟨wt, us, f7, hus, hwt, hwl, hall⟩ ⟨rfl, hv⟩
    obtain ⟨l, hl, a, u, w2, rfl, hla, hd, ⟨ka, rfl, hk⟩⟩ := pair_right hrs hv
    have hlo := okr.2 l (List.mem_of_getElem? hl)
    have f67 := f6.tup.trans f7.tup
    have hk7 := f67 _ _ hk
    have hos7 := f67 _ _ hos
    have hl12 := hlo.2.2.1
    have hkey : ∀ k ∈ l.2, 0 ≤ k ∧ k < (os.length : Int) := fun k hk => by
      have := hlo.2.2.2.1 k hk
      rw [hol]
      exact this
    have how : ∀ k ∈ l.2, ow os k ∈ os := fun k hk => by
      obtain ⟨k0, k1⟩ := hkey k hk
      have hlt : k.toNat < os.length := by omega
      unfold ow
      rw [List.getD_eq_getElem?_getD, List.getElem?_eq_getElem hlt]
      exact List.getElem_mem hlt
    refine ⟨a, _, rfl, SqT.of (f67 _ _ hla), rfl, _, _, rfl, _, _, rfl, rfl, rfl, ?_⟩
    refine ⟨_, rfl, ka, rfl, ⟨_, SqT.of hk7⟩, fun D hD => lc_map (xs := l.2.map V.int) walk_tup hD (fun y => match y with | .int k => V.int (ow os k) | _ => .non) (by rw [List.length_map]; omega) (fun H' f => SqT.of (f.tup _ _ hk7)) (fun _ => rfl) (fun y hy H8 f8 R r8 => ?_) (fun H8 f8 hl8 => ?_)⟩
    · obtain ⟨k, hkm, rfl⟩ := List.mem_map.mp hy
      obtain ⟨k0, k1⟩ := hkey k hkm
      exact ⟨_, rfl, _, rfl, oa, _, _, _, rfl, rfl, SqT.of (f8.tup _ _ hos7), atI_int k0 k1, r8 H8 (Fr.refl _ _)⟩
    · rw [show List.map (fun y => match y with | .int k => V.int (ow os k) | _ => .non) (l.2.map V.int) = (l.2.map (ow os)).map V.int by rw [List.map_map, List.map_map]; rfl] at hl8
      refine ⟨D, l.2.map (ow os), rfl, .inl (SqL.of hl8), by rw [List.length_map]; omega, fun p c hc hp => ?_⟩
      have hc5 : c ≤ 5 := hc [0, 1, 2, 3, 4] fun g hg => by
        obtain ⟨k, hkm, rfl⟩ := List.mem_map.mp hg
        exact in5 (hoi _ (how k hkm))
      refine ⟨p, _, c, rfl, upd_same, by omega, fun ns p2 hns hin hnl hp2 => ?_⟩
      have f9 := f8.trans (Fr.new (l := []) (o := SetO w p (fun j => decide (j ∈ l.2.map (ow os))) c) hp)
      have f10 := f9.trans (Fr.new (l := []) (o := .lst (ns.map V.int)) hp2)
      have hus10 := f10.at_ _ _ hus (by simp)
      have hlen := hwt.length
      refine ⟨us, hus10, line_lt (by omega), wt ++ [ns], us ++ [.ref p2], (f7.trans f10).set1 hus10 trivial hL, upd_same, ?_, by rw [List.length_append, List.length_singleton, hwl], fun j l' ws hj hw => ?_⟩
      · have f11 : Fr [L] _ (upd (upd (upd H8 p (SetO w p (fun j => decide (j ∈ l.2.map (ow os))) c)) p2 (.lst (ns.map V.int))) L (.lst (us ++ [.ref p2]))) := Fr.set hus10 trivial (by simp)
        refine pair_app (Paired.mapP hwt fun ws' u' ⟨p', e, ne, hp'⟩ => ⟨p', e, ne, f11.at_ _ _ (f10.at_ _ _ hp' (by simp)) (by simpa using ne)⟩) (.cons ⟨p2, rfl, ?_, f11.at_ _ _ upd_same ?_⟩ .nil)
        · exact (ne_of_none (f9.at_ _ _ hus (by simp)) hp2).symm
        · have := (ne_of_none (f9.at_ _ _ hus (by simp)) hp2).symm
          simpa using this
      · by_cases hj' : j < wt.length
        · rw [List.getElem?_append_left hj'] at hw
          exact hall j l' ws hj hw
        · have hji : j = i := by
            have := (List.getElem?_eq_some_iff.mp hw).1
            rw [List.length_append, List.length_singleton] at this
            omega
          subst hji
          rw [List.getElem?_append_right (by omega), show j - wt.length = 0 by omega] at hw
          cases hw
          rw [hl] at hj
          cases hj
          refine ⟨by omega, fun g => ?_⟩
          rw [hin, decide_eq_true_iff, List.mem_map]
  · rintro H7 ⟨wt, us, f7, hus, hwt, hwl, hall⟩
    have x7 := f7.at_ _ _ x6 (by simp)
    have w7 := f7.at_ _ _ w6 (by simp)
    refine ⟨_, rfl, x, _, dx, _, rfl, x7, cl, T.n_Crew_wanted, Nat.le_of_ble_eq_true rfl, ?_⟩
    obtain ⟨f8, x8, k8⟩ := st_put (putF "wanted" (.ref L) (putF "wall" (.ref wl) (putF "row" (.ref ra) (putF "owners" (.ref oa) [])))) (f6.trans f7.lift) x7
    have w8 := k8 _ _ nwx w7
    have L8 := k8 _ _ nLx hus
    have hwt8 : Paired (fun (ws : List Int) u => ∃ p, u = V.ref p ∧ upd H7 x (.ins T.k_Crew.C dx (putF "wanted" (.ref L) (putF "wall" (.ref wl) (putF "row" (.ref ra) (putF "owners" (.ref oa) []))))) p = some (.lst (ws.map V.int))) wt us := Paired.mapP hwt fun ws u ⟨p, e, _, hp⟩ => ⟨p, e, k8 _ _ (fun z => by rw [z, x7] at hp; cases hp) hp⟩
    generalize upd H7 x (.ins T.k_Crew.C dx (putF "wanted" (.ref L) (putF "wall" (.ref wl) (putF "row" (.ref ra) (putF "owners" (.ref oa) []))))) = H8 at f8 x8 k8 w8 L8 hwt8
    refine fun mb hmb => ⟨_, rfl, x, _, dx, _, rfl, (Fr.new (l := []) hmb).at_ _ _ x8 (by simp), cl, T.n_Crew_members, Nat.le_of_ble_eq_true rfl, ?_⟩
    have nmx : mb ≠ x := (ne_of_none x8 hmb).symm
    have zmb : H mb = none := f8.fresh hmb
    have f8' := f8.trans (Fr.new (l := [x]) (o := .dK []) hmb)
    obtain ⟨f9, x9, k9⟩ := st_put (crF (.ref oa) (.ref ra) (.ref wl) (.ref L) (.ref mb)) f8' ((Fr.new (l := []) hmb).at_ _ _ x8 (by simp))
    have m9 := k9 _ _ nmx upd_same
    have nw := Fr.new (l := []) (o := .dK []) hmb
    have w9 := k9 _ _ nwx (nw.at_ _ _ w8 (by simp))
    have L9 := k9 _ _ nLx (nw.at_ _ _ L8 (by simp))
    have hwt9 : Paired (fun (ws : List Int) u => ∃ p, u = V.ref p ∧ upd (upd H8 mb (.dK [])) x (.ins T.k_Crew.C dx (crF (.ref oa) (.ref ra) (.ref wl) (.ref L) (.ref mb))) p = some (.lst (ws.map V.int))) wt us := Paired.mapP hwt8 fun ws u ⟨p, e, hp⟩ => ⟨p, e, k9 _ _ (fun z => by rw [z, x8] at hp; cases hp) (nw.at_ _ _ hp (by simp))⟩
    have hx9' : (upd (upd H8 mb (.dK [])) x (.ins T.k_Crew.C dx (crF (.ref oa) (.ref ra) (.ref wl) (.ref L) (.ref mb)))) = upd (upd H8 mb (.dK [])) x (.ins T.k_Crew.C dx (putF "members" (.ref mb) (putF "wanted" (.ref L) (putF "wall" (.ref wl) (putF "row" (.ref ra) (putF "owners" (.ref oa) [])))))) := rfl
    rw [← hx9']
    generalize upd (upd H8 mb (.dK [])) x (.ins T.k_Crew.C dx (crF (.ref oa) (.ref ra) (.ref wl) (.ref L) (.ref mb))) = H9 at f9 x9 k9 m9 w9 L9 hwt9
    have hos9 := f9.tup _ _ hos
    refine ⟨_, rfl, oa, os, rfl, .inr (SqT.of hos9), by omega, fun p c hc hp => ?_⟩
    have hc5 : c ≤ 5 := hc [0, 1, 2, 3, 4] fun g hg => in5 (hoi g hg)
    refine ⟨p, _, c, rfl, upd_same, by omega, fun hs l2 hsp hsi hsl hl2 => ⟨l2, rfl, ⟨_, SqL.of upd_same⟩, ?_⟩⟩
    have g9 := (Fr.new (l := []) (o := SetO w p (fun j => decide (j ∈ os)) c) hp)
    have g10 := g9.trans (Fr.new (l := []) (o := .lst (hs.map V.int)) hl2)
    have l10 : (upd (upd H9 p (SetO w p (fun j => decide (j ∈ os)) c)) l2 (.lst (hs.map V.int))) l2 = some (.lst (hs.map V.int)) := upd_same
    generalize upd (upd H9 p (SetO w p (fun j => decide (j ∈ os)) c)) l2 (.lst (hs.map V.int)) = H10 at g10 l10
    have hsi' : ∀ g, g ∈ hs ↔ g ∈ os := fun g => by rw [hsi, decide_eq_true_iff]
    have x10 := g10.at_ _ _ x9 (by simp)
    have m10 := g10.at_ _ _ m9 (by simp)
    have f10 := f9.trans g10.lift
    have hpair : ∀ (i : Nat) (h : Int), hs[i]? = some h → h ∉ hs.take i := fun i h hi m => by
      obtain ⟨j, hj, e⟩ := List.mem_take_iff_getElem.mp m
      have hilt := (List.getElem?_eq_some_iff.mp hi).1
      have hie := (List.getElem?_eq_some_iff.mp hi).2
      have := List.pairwise_iff_getElem.mp hsp j i (by omega) hilt (by omega)
      omega
    refine for_list (xs := hs.map V.int) (fun i σ H' => ∃ (st : Cs) (o4 o5 o6 : Option V), σ = [some (.ref x), some (.ref oa), some (.ref ba), some (.ref ra), o4, o5, o6, none, none] ∧ Fr [mb] H10 H' ∧ CwAt T.k_Crew.C T.k_House.C H' (withH ⟨b, r, os, hs, wt, .ref oa, .ref ra, x, wl, L, mb⟩ (hs.take i)) st ∧ H' mb = some (.dK ((hs.take i).map fun h => (ki h, V.ref (st.ho h).ma))) ∧ st.W = [] ∧ (∀ h ∈ hs.take i, (st.ho h).cnt = 0 ∧ (st.ho h).D = [] ∧ ∀ a ∈ fp (st.ho h), H a = none))
      ⟨⟨[], fun _ => ho0 x⟩, none, none, none, rfl, Fr.refl _ _, ⟨⟨dx, x10⟩, ⟨oa, rfl, g10.tup _ _ hos9⟩, RAt.keep (f10.tup) ⟨ra, rs, rfl, hra, hrs⟩, g10.at_ _ _ w9 (by simp), ⟨us, g10.at_ _ _ L9 (by simp), Paired.mapP hwt9 fun ws u ⟨p, e, hp⟩ => ⟨p, e, g10.at_ _ _ hp (by simp)⟩⟩, .inl m10, fun h hh => by simp [withH] at hh, fun j h v e => by simp [valV] at e, fun h hh => by simp [withH] at hh, fun h hh => by simp [withH] at hh⟩, m10, rfl, fun h hh => by simp at hh⟩
      (fun i σ H' _ ⟨_, _, _, _, _, f, _⟩ => SqL.of (f.at_ _ _ l10 (fun z => by rw [List.mem_singleton.mp z, m10] at l10; cases l10))) ?_ ?_
    · rintro i y σ HT hy ⟨st, o4, o5, o6, rfl, fT, hcT, hmT, hW, hz⟩
      rw [List.getElem?_map, Option.map_eq_some_iff] at hy
      obtain ⟨h, hhi, rfl⟩ := hy
      have hnot := hpair i h hhi
      have hosT := fT.tup _ _ (g10.tup _ _ hos9)
      have hbT := fT.tup _ _ (f10.tup _ _ hb)
      have hzT : ∀ a, HT a = none → H a = none := fun a e => f10.fresh (fT.fresh e)
      refine fun O hO => ?_
      have k0 := Fr.new (l := []) (o := .dK []) hO
      refine ⟨_, rfl, ba, _, rfl, .inr (SqT.of (k0.tup _ _ hbT)), _, rfl, by rw [List.length_map]; omega, by rw [List.length_map]; omega, ?_⟩
      refine for_it (walk_range (lo := 0) (n := (b.map V.int).length)) (fun n σ H' => ∃ o, σ = [some (.ref x), some (.ref oa), some (.ref ba), some (.ref ra), some (.int h), some (.ref O), o, none, none] ∧ Fr [O] (upd HT O (.dK [])) H' ∧ H' O = some (.dK (ownP os b h n))) ⟨_, rfl, Fr.refl _ _, upd_same⟩ (fun _ _ _ _ _ => trivial) ?_ ?_
      · rintro n v σ H11 H11' hn ⟨o, rfl, f11, hO11⟩ ⟨rfl, rfl⟩
        rw [List.length_map] at hn
        have hk := f11.tup.trans (KT.refl _)
        have hos11 := f11.tup _ _ (k0.tup _ _ hosT)
        have hb11 := f11.tup _ _ (k0.tup _ _ hbT)
        have hpl := ownP_len os b h n
        refine ⟨_, rfl, _, rfl, oa, _, _, _, rfl, rfl, SqT.of hos11, atI_int (k := 0 + (n : Int)) (by omega) (by omega), _, rfl, rfl, _, rfl, ?_⟩
        have en : (0 + (n : Int)).toNat = n := by omega
        rw [en]
        refine ifDec (fun e => ?_) (fun e => ⟨_, rfl, f11, by rw [ownP_no fun z => e (by rw [z])]; exact hO11⟩)
        refine ⟨_, rfl, _, rfl, ba, _, _, _, rfl, rfl, SqT.of hb11, atI_int (k := 0 + (n : Int)) (by omega) (by omega), _, rfl, _, rfl, O, _, rfl, DPut.k (k := ki (0 + (n : Int))) hO11 (line_lt (by omega)), _, rfl, f11.trans (Fr.set hO11 trivial (by simp)), ?_⟩
        rw [en, show ki (0 + (n : Int)) = ki (n : Nat) by rw [Int.zero_add], ownP_yes (V.int.inj e)]
        exact upd_same
      · rintro σ H11 ⟨o, rfl, f11, hO11⟩
        rw [List.length_map] at hO11
        have fT11 : Fr [] HT H11 := k0.own f11 hO
        refine ⟨_, rfl, fun x2 dx2 hx2 hdx2 hne => ?_⟩
        have hx2' : (upd H11 dx2 (.own x2)) x2 = none := by rw [upd_ne hne.symm]; exact hx2
        have f12 : Fr [] H11 (upd (upd H11 dx2 (.own x2)) x2 (.ins T.k_House.C dx2 [])) := (Fr.new hdx2).trans (Fr.new hx2')
        refine ⟨x2, dx2, O, _, rfl, upd_same, f12.at_ _ _ hO11 (by simp), fun H13 sd dk cp f13 zs zd nsd hme hsd hdk => ⟨rfl, ?_⟩⟩
        have f11_13 : Fr [] H11 H13 := f12.own f13 hx2
        have fT13 := fT11.trans f11_13
        have x13 := fT13.at_ _ _ (fT.at_ _ _ x10 (fun z => nmx (List.mem_singleton.mp z).symm)) (by simp)
        have m13 := fT13.at_ _ _ hmT (by simp)
        have hO13 := f11_13.at_ _ _ hO11 (by simp)
        have zx2 : HT x2 = none := fT11.fresh hx2
        have zsd : HT sd = none := fT11.fresh (f12.fresh zs)
        have zdk : HT dk = none := fT11.fresh (f12.fresh zd)
        have hfp : ∀ a ∈ fp (⟨x2, O, sd, dk, 0, [], []⟩ : Ho), HT a = none := fun a ha => by
          simp only [fp, List.mem_cons, List.not_mem_nil, or_false] at ha
          rcases ha with rfl | rfl | rfl | rfl <;> assumption
        have nOs : O ≠ sd := ne_of_none (f12.at_ _ _ hO11 (by simp)) zs
        have nOd : O ≠ dk := ne_of_none (f12.at_ _ _ hO11 (by simp)) zd
        have hcT13 := hcT.keep fT13
        have hHo : HoAt T.k_House.C H13 (withH ⟨b, r, os, hs, wt, .ref oa, .ref ra, x, wl, L, mb⟩ (hs.take i)) h ⟨x2, O, sd, dk, 0, [], []⟩ := by
          refine ⟨⟨dx2, cp, hme⟩, ?_, hsd, hdk, fun g v e => (by simp [valV] at e), nOs, nOd, nsd, Nat.le_refl _, Nat.zero_le _⟩
          show H13 O = some (.dK (ownL os (bat b r 0) h))
          rw [bat_zero, hO13, ← hol]
          rfl
        obtain ⟨hadd, hmap⟩ := hcT13.add (st := st) (h := h) (o' := ⟨x2, O, sd, dk, 0, [], []⟩) hnot m13 hHo (fun g hg a ha m => (hcT.ho g hg).some m (hfp a ha)) (fun m => by have z := hfp _ m; rw [show (withH ⟨b, r, os, hs, wt, .ref oa, .ref ra, x, wl, L, mb⟩ (hs.take i)).mb = mb from rfl, hmT] at z; cases z) (fun m => by have z := hfp _ m; rw [show (withH ⟨b, r, os, hs, wt, .ref oa, .ref ra, x, wl, L, mb⟩ (hs.take i)).x = x from rfl, fT.at_ _ _ x10 (fun z => nmx (List.mem_singleton.mp z).symm)] at z; cases z)
        have htk : hs.take (i + 1) = hs.take i ++ [h] := by rw [List.take_add_one, hhi]; rfl
        have hput : putK ((hs.take i).map fun h => (ki h, V.ref (st.ho h).ma)) (ki h) (.ref x2) = (hs.take i).map (fun h => (ki h, V.ref (st.ho h).ma)) ++ [(ki h, V.ref x2)] := putK_new _ (by rw [valV_mapK, if_neg hnot])
        have hl5 : (hs.take i).length ≤ 5 := by rw [List.length_take]; omega
        refine ⟨_, rfl, x, _, dx, _, _, rfl, x13, cl, T.n_Crew_members, rfl, _, rfl, mb, _, rfl, DPut.k (k := ki h) m13 (line_lt (by rw [List.length_map]; omega)), ?_⟩
        rw [hput]
        refine ⟨setHo st h ⟨x2, O, sd, dk, 0, [], []⟩, _, _, _, rfl, fT.trans (fT13.lift.trans (Fr.set m13 trivial (by simp))), ?_, ?_, hW, fun g hg => ?_⟩
        · rw [htk]
          exact hadd
        · rw [htk]
          refine Eq.trans upd_same ?_
          exact congrArg (fun z => some (HO.dK z)) hmap.symm
        · rw [htk, List.mem_append] at hg
          by_cases z : g = h
          · subst z
            rw [setHo_same]
            exact ⟨rfl, rfl, fun a ha => hzT a (hfp a ha)⟩
          · rw [setHo_ne z]
            exact hz g (hg.resolve_right fun q => z (List.mem_singleton.mp q))
    · rintro σ HT ⟨st, o4, o5, o6, rfl, fT, hcT, hmT, hW, hz⟩
      rw [List.length_map, List.take_length] at hcT hmT hz
      have cok : (⟨b, r, os, hs, wt, .ref oa, .ref ra, x, wl, L, mb⟩ : Cw).Ok := ⟨okb, okr, hol, hoi, hsp, hsi', by show hs.length ≤ 5; omega, by show wt.length = r.length; omega, hall⟩
      refine q HT ⟨b, r, os, hs, wt, .ref oa, .ref ra, x, wl, L, mb⟩ st (f10.app fT fun a ha => .inr (by rw [List.mem_singleton.mp ha]; exact zmb)) rfl rfl rfl rfl cok hcT (inv_new cok hW (fun h hh => (hz h hh).1) fun h hh => (hz h hh).2.1) hmT fun a ha => ?_
      rcases List.mem_cons.mp ha with rfl | ha
      · exact zwl
      · obtain ⟨g, hg, hag⟩ := List.mem_flatMap.mp ha
        exact (hz g hg).2.2 a hag
end
end RL

/-! crew.py: finish. -/
namespace RL
open PySem L2 RlR

theorem dpall_of {K : PySem.W.Frag} {H : Hp} {n : Nat} : ∀ {us : List V}, (∀ u ∈ us, ∃ d : PyData, Dp K H u d ∧ d.canLay0 = true ∧ d.depth ≤ n) → ∃ ds, DpAll K H us ds ∧ PyData.canLayAll0 ds = true ∧ PyData.depthAll ds ≤ n ∧ ds.length = us.length
  | [], _ => ⟨[], .nil, by simp [PyData.canLayAll0], by simp [PyData.depthAll], rfl⟩
  | u :: r, h => by
    obtain ⟨d, h1, h2, h3⟩ := h u List.mem_cons_self
    obtain ⟨ds, k1, k2, k3, k4⟩ := dpall_of fun y hy => h y (List.mem_cons_of_mem _ hy)
    refine ⟨d :: ds, .cons h1 k1, ?_, ?_, by simp [k4]⟩
    · unfold PyData.canLayAll0
      rw [h2, k2]
      rfl
    · unfold PyData.depthAll
      omega
theorem shaped_lst {ds : List PyData} (h : PyData.canLayAll0 ds = true) (h' : PyData.depthAll ds ≤ 60) : SeqAt.shaped (.list ds) = true := by
  unfold SeqAt.shaped PyData.canLay0 PyData.depth
  rw [h, decide_eq_true (by omega)]
  rfl
theorem shaped_tup {ds : List PyData} (h : PyData.canLayAll0 ds = true) (h' : PyData.depthAll ds ≤ 60) : SeqAt.shaped (.tuple ds) = true := by
  unfold SeqAt.shaped PyData.canLay0 PyData.depth
  rw [h, decide_eq_true (by omega)]
  rfl
theorem Dd.lay : ∀ d : Dd, d.pd.canLay0 = true ∧ d.pd.depth ≤ 1
  | .go _ => ⟨by simp only [Dd.pd, PyData.canLay0, PyData.canLayAll0, Bool.and_true]; decide +kernel, by simp [Dd.pd, PyData.depth, PyData.depthAll]⟩
  | .send _ => ⟨by simp only [Dd.pd, PyData.canLay0, PyData.canLayAll0, Bool.and_true]; decide +kernel, by simp [Dd.pd, PyData.depth, PyData.depthAll]⟩
  | .take _ _ => ⟨by simp only [Dd.pd, PyData.canLay0, PyData.canLayAll0, Bool.and_true]; decide +kernel, by simp [Dd.pd, PyData.depth, PyData.depthAll]⟩

section
variable {P : Program} {w : World} {K : PySem.W.Frag} {mg : Str → Option Value} {base : Heap}
def spFinish : Sp := fun vs H Q _ => ∃ (b os : List Int) (r : List Laid) (vo vb vr : V), vs = [vo, vb, vr] ∧ BAt H os vo ∧ BAt H b vb ∧ RAt H r vr ∧ okB b ∧ okR (b.length : Int) r ∧ os.length = b.length ∧ (∀ g ∈ os, 0 ≤ g ∧ g ≤ 4) ∧
  ∀ p H' (hs : List Int) (f : Int → Addr), Fr [] H H' → H p = none → hs.Pairwise (· < ·) → (∀ g, g ∈ hs ↔ g ∈ os) → hs.length ≤ 5 → H' p = some (.dK (hs.map fun h => (ki h, V.ref (f h)))) →
    (∀ h ∈ hs, H' (f h) = some (.dK (ownL os (lastB b r) h)) ∧ H (f h) = none ∧ f h ≠ p) → Q (.ref p) H'
theorem ok_finish (T : Txt K w mg) : FnOk P w K mg base CX0 23 T.finish.f T.finish.fd ["owners", "board", "row"] spFinish := by
  refine T.finish.F.ok sc_finish (fun vs H Q E h => ?_) (fun cdv A outer s H vs Q E hr h => ?_)
  · obtain ⟨b, os, r, vo, vb, vr, rfl, _⟩ := h
    rfl
  obtain ⟨b, os, r, vo, vb, vr, rfl, hos, hb, hrw, okb, okr, hol, hoi, q⟩ := h
  refine ⟨_, (pss_cons (ps_set (i := 3) sc_finish.nd rfl (by first | exact Or.inl rfl | exact Or.inr rfl) (pe_make T.mk_Crew (ok_Crew_init T) (hr.mono (by omega)) rfl T.k_Crew.m T.Crew_init.b .nil pass0 (pa_cons (pv 0) (pa_cons (pv 1) (pa_cons (pv 2) pa_nil)))))
    (pss_cons (ps_set (i := 4) sc_finish.nd rfl (by first | exact Or.inl rfl | exact Or.inr rfl) (pe_meth0 (pv 3) T.k_Crew.cl T.Crew_may.me (ok_Crew_may T) (hr.mono (by omega)) T.Crew_may.b .nil pass0))
    (pss_cons (ps_while PassesOwn.never (pt_cmpR (neD (K := K) rfl hr.units) (pv 4) (pe_lst pa_nil) (nomark _)) (pss_cons (ps_expr (pe_meth (pv 3) T.k_Crew.cl T.Crew_do.me (ok_Crew_do T) (hr.mono (by omega)) T.Crew_do.b .nil pass0 (pa_cons (pe_ix (ixL (K := K) rfl) (pv 4) pe_int (fun _ _ => rfl)) pa_nil)))
    (pss_one (ps_set (i := 4) sc_finish.nd rfl (by first | exact Or.inl rfl | exact Or.inr rfl) (pe_meth0 (pv 3) T.k_Crew.cl T.Crew_may.me (ok_Crew_may T) (hr.mono (by omega)) T.Crew_may.b .nil pass0)))))
    (pss_cons (ps_set (i := 5) sc_finish.nd rfl (by first | exact Or.inl rfl | exact Or.inr rfl) pe_dnewK)
    (pss_cons (ps_for PassesOwn.never rfl (piT (K := K) rfl (pe_meth0 (pv 3) T.k_Crew.cl T.Crew_houses.me (ok_Crew_houses T) (hr.mono (by omega)) T.Crew_houses.b .nil pass0)) (pg_name (i := 6) sc_finish.nd rfl (by first | exact Or.inl rfl | exact Or.inr rfl)) (pss_one (ps_dput (hu_of hr) (pv 5) (pv 6) (pe_meth (pv 3) T.k_Crew.cl T.Crew_worths.me (ok_Crew_worths T) (hr.mono (by omega)) T.Crew_worths.b .nil pass0 (pa_cons (pv 6) pa_nil)) rfl)))
    (pss_one (ps_ret (pv 5)))))))), ?_⟩
  refine ⟨_, rfl, _, rfl, _, rfl, fun x dx hx hdx hne => ?_⟩
  have hx' : (upd H dx (.own x)) x = none := by rw [upd_ne hne.symm]; exact hx
  have f0 : Fr [] H (upd (upd H dx (.own x)) x (.ins T.k_Crew.C dx [])) := (Fr.new hdx).trans (Fr.new hx')
  refine ⟨x, dx, b, os, r, vo, vb, vr, rfl, upd_same, hos.keep f0.tup, hb.keep f0.tup, hrw.keep f0.tup, okb, okr, hol, hoi, fun H1 c st f1 ex eb er eo ok hc iv hmb hfz => ⟨rfl, ?_⟩⟩
  subst ex eb er eo
  have f01 : Fr [] H H1 := f0.own f1 hx
  obtain ⟨dx1, hx1⟩ := hc.me
  refine ⟨_, rfl, c.x, dx1, _, rfl, hx1, rfl, c, st, rfl, hc, ok, hmb, fun p H2 us hp f2 hus hlen hall hno => ?_⟩
  refine ⟨fun m σ H' => ∃ (st : Cs) (p : Addr) (us : List V), σ = [some vo, some vb, some vr, some (.ref c.x), some (.ref p), none, none] ∧ Fr [] H H' ∧ CwAt T.k_Crew.C T.k_House.C H' c st ∧ Inv c st ∧ (∀ a ∈ foot c st, H a = none) ∧ H' c.mb = some (.dK (c.hs.map fun h => (ki h, V.ref (st.ho h).ma))) ∧ H' p = some (.lst us) ∧ us.length ≤ 60 ∧ (∀ u ∈ us, ∃ d : Dd, DdAt H' d u ∧ d.may c st) ∧ (us = [] → ∀ d : Dd, ¬ d.may c st) ∧ m = meas c st,
    ⟨_, st, p, us, rfl, f01.trans f2, hc.keep f2, iv, fun a ha => f0.fresh (hfz a ha), f2.at_ _ _ hmb (by simp), hus, hlen, hall, hno, rfl⟩, ?_⟩
  clear hno hall hlen hus f2 hp hmb iv hc hx1 f1 hfz f01
  rintro m σ H3 ⟨st, p, us, rfl, f3, hc, iv, hfz, hmb, hus, hlen, hall, hno, rfl⟩
  obtain ⟨dx1, hx1⟩ := hc.me
  refine ⟨_, rfl, Nat.zero_le _, fun e he => ?_⟩
  have k1 := Fr.new (l := []) (o := .lst []) he
  obtain ⟨ds, hds, hl1, hl2, hl3⟩ := dpall_of (K := K) (H := upd H3 e (.lst [])) (n := 1) (us := us) fun u hu => by
    obtain ⟨d, a, _⟩ := hall u hu
    exact ⟨d.pd, (a.keep k1.tup).dp, d.lay.1, d.lay.2⟩
  refine ⟨.list ds, .list [], .lst (SqL.of (k1.at_ _ _ hus (by simp))) hds, .lst (SqL.of upd_same) .nil, shaped_lst hl1 (by omega), by decide +kernel, _, rfl, ?_⟩
  cases us with
  | cons u us' =>
    cases ds with
    | nil => simp at hl3
    | cons d0 ds' =>
    refine iteT ?_
    obtain ⟨d, hdd, hdm⟩ := hall u List.mem_cons_self
    refine ⟨fun σ' H' => ∃ m', m' < meas c st ∧ ∃ (st : Cs) (p : Addr) (us : List V), σ' = [some vo, some vb, some vr, some (.ref c.x), some (.ref p), none, none] ∧ Fr [] H H' ∧ CwAt T.k_Crew.C T.k_House.C H' c st ∧ Inv c st ∧ (∀ a ∈ foot c st, H a = none) ∧ H' c.mb = some (.dK (c.hs.map fun h => (ki h, V.ref (st.ho h).ma))) ∧ H' p = some (.lst us) ∧ us.length ≤ 60 ∧ (∀ u ∈ us, ∃ d : Dd, DdAt H' d u ∧ d.may c st) ∧ (us = [] → ∀ d : Dd, ¬ d.may c st) ∧ m' = meas c st, fun σ' H' h => h, ?_⟩
    refine ⟨_, rfl, c.x, dx1, _, rfl, k1.at_ _ _ hx1 (by simp), rfl, _, rfl, p, _, _, _, rfl, rfl, SqL.of (k1.at_ _ _ hus (by simp)), at0, c, st, d, u, rfl, hc.keep k1, ok, iv, hdd.keep k1.tup, hdm, fun H4 st' f4 hc4 iv4 hms hft => ?_⟩
    have f03 := f3.trans k1
    have f04 : Fr [] H H4 := f03.app f4 fun a ha => .inr (hfz a ha)
    obtain ⟨dx4, hx4⟩ := hc4.me
    have hfz4 : ∀ a ∈ foot c st', H a = none := fun a ha => (hft a ha).elim (hfz a) f03.fresh
    have nmb : c.mb ∉ foot c st := fun z => by
      rcases List.mem_cons.mp z with z | z
      · exact hc.mb_wl z
      · obtain ⟨g, hg, hag⟩ := List.mem_flatMap.mp z
        exact (hc.smb g hg).1 hag
    have hmb4 : H4 c.mb = some (.dK (c.hs.map fun h => (ki h, V.ref (st'.ho h).ma))) := by
      have z := f4.at_ _ _ (k1.at_ _ _ hmb (by simp)) nmb
      rcases hc4.mem with y | ⟨o, y⟩
      · exact y
      · rw [z] at y
        cases y
    refine ⟨_, rfl, c.x, dx4, _, rfl, hx4, rfl, c, st', rfl, hc4, ok, hmb4, fun p5 H5 us5 hp5 f5 hus5 hlen5 hall5 hno5 => ?_⟩
    exact ⟨_, hms, st', p5, us5, rfl, f04.trans f5, hc4.keep f5, iv4, hfz4, f5.at_ _ _ hmb4 (by simp), hus5, hlen5, hall5, hno5, rfl⟩
  | nil =>
    cases ds with
    | cons d0 ds' => simp at hl3
    | nil =>
    refine iteF ?_
    have hdone := stuck ok iv (fun h hh => (hc.ho h hh).cl) (fun h hh m => hno rfl (.go h) ⟨hh, m⟩) (fun h hh m => hno rfl (.send h) ⟨hh, m⟩) (fun h hh o ho m => hno rfl (.take h o) ⟨hh, ho, m⟩)
    have h5 := ok.hl
    have f03 := f3.trans k1
    have hcE := hc.keep k1
    have hmbE := k1.at_ _ _ hmb (by simp)
    generalize upd H3 e (.lst []) = HE at f03 hcE hmbE
    refine fun F hF => ?_
    have kF := Fr.new (l := []) (o := .dK []) hF
    have zF := f03.fresh hF
    obtain ⟨dxE, hxE⟩ := hcE.me
    refine ⟨_, rfl, c.x, dxE, _, rfl, kF.at_ _ _ hxE (by simp), rfl, c, st, rfl, hcE.keep kF, kF.at_ _ _ hmbE (by simp), fun t ht => ⟨t, rfl, ⟨_, SqT.of upd_same⟩, ?_⟩⟩
    have kt := kF.trans (Fr.new (l := []) (o := .tup (c.hs.map V.int)) ht)
    have tt : (upd (upd HE F (.dK [])) t (.tup (c.hs.map V.int))) t = some (.tup (c.hs.map V.int)) := upd_same
    have tF := (Fr.new (l := []) (o := .tup (c.hs.map V.int)) ht).at_ _ _ (upd_same : (upd HE F (.dK [])) F = _) (by simp)
    refine for_it (walk_tup (xs := c.hs.map V.int)) (fun i σ H' => ∃ (f : Int → Addr) (o : Option V), σ = [some vo, some vb, some vr, some (.ref c.x), some (.ref p), some (.ref F), o] ∧ Fr [] HE H' ∧ H' t = some (.tup (c.hs.map V.int)) ∧ H' F = some (.dK ((c.hs.take i).map fun h => (ki h, V.ref (f h)))) ∧ ∀ h ∈ c.hs.take i, H' (f h) = some (.dK (ownL c.os (lastB c.b c.r) h)) ∧ H (f h) = none ∧ f h ≠ F)
      ⟨fun _ => F, _, rfl, kt, tt, tF, fun h hh => by simp at hh⟩ (fun i σ H' _ ⟨_, _, _, _, h, _⟩ => SqT.of h) ?_ ?_
    · rintro i y σ H6 H6' hi ⟨f, o, rfl, f6, ht6, hF6, hall6⟩ ⟨rfl, hy⟩
      rw [List.getElem?_map, Option.map_eq_some_iff] at hy
      obtain ⟨h, hhi, rfl⟩ := hy
      have hh : h ∈ c.hs := List.mem_of_getElem? hhi
      have hnot : h ∉ c.hs.take i := fun m => by
        obtain ⟨j, hj, e⟩ := List.mem_take_iff_getElem.mp m
        have hilt := (List.getElem?_eq_some_iff.mp hhi).1
        have hie := (List.getElem?_eq_some_iff.mp hhi).2
        have := List.pairwise_iff_getElem.mp ok.hp j i (by omega) hilt (by omega)
        omega
      refine ⟨_, rfl, c.x, dxE, _, rfl, f6.at_ _ _ hxE (by simp), rfl, _, rfl, c, st, h, rfl, hcE.keep f6, hh, fun z hz => ?_⟩
      rw [hdone h hh, bat_last]
      have k7 := Fr.new (l := []) (o := .dK (ownL c.os (lastB c.b c.r) h)) hz
      have hF7 := k7.at_ _ _ hF6 (by simp)
      have hl5 : (c.hs.take i).length ≤ 5 := by rw [List.length_take]; omega
      have nzF : z ≠ F := (ne_of_none hF6 hz).symm
      refine ⟨_, rfl, _, rfl, F, _, rfl, DPut.k (k := ki h) hF7 (line_lt (by rw [List.length_map]; omega)), ?_⟩
      have k8 : Fr [F] _ (upd (upd H6' z (.dK (ownL c.os (lastB c.b c.r) h))) F (.dK (putK ((c.hs.take i).map fun h => (ki h, V.ref (f h))) (ki h) (.ref z)))) := Fr.set hF7 trivial (by simp)
      refine ⟨fun g => if g = h then z else f g, _, rfl, (f6.trans k7).own k8 hF, k8.tup _ _ (k7.tup _ _ ht6), ?_, fun g hg => ?_⟩
      · rw [upd_same, putK_new _ (by rw [valV_mapK, if_neg hnot]), List.take_add_one, hhi, List.map_append]
        congr 3
        · refine List.map_congr_left fun g hg => ?_
          show (ki g, V.ref (f g)) = (ki g, V.ref (if g = h then z else f g))
          rw [if_neg fun e => hnot (by rw [← e]; exact hg)]
        · show _ = [(ki h, V.ref (if h = h then z else f h))]
          rw [if_pos rfl]
      · rw [List.take_add_one, hhi, List.mem_append] at hg
        by_cases e : g = h
        · subst e
          show (upd (upd H6' z (.dK (ownL c.os (lastB c.b c.r) g))) F (.dK (putK ((c.hs.take i).map fun h => (ki h, V.ref (f h))) (ki g) (.ref z)))) (if g = g then z else f g) = some _ ∧ H (if g = g then z else f g) = none ∧ (if g = g then z else f g) ≠ F
          rw [if_pos rfl]
          exact ⟨k8.at_ _ _ upd_same (by simpa using nzF), f03.fresh (f6.fresh hz), nzF⟩
        · have hg' := hg.resolve_right fun y => e (by simpa using y)
          obtain ⟨a1, a2, a3⟩ := hall6 g hg'
          show (upd (upd H6' z (.dK (ownL c.os (lastB c.b c.r) h))) F (.dK (putK ((c.hs.take i).map fun h => (ki h, V.ref (f h))) (ki h) (.ref z)))) (if g = h then z else f g) = some _ ∧ H (if g = h then z else f g) = none ∧ (if g = h then z else f g) ≠ F
          rw [if_neg e]
          exact ⟨k8.at_ _ _ (k7.at_ _ _ a1 (by simp)) (by simpa using a3), a2, a3⟩
    · rintro σ H6 ⟨f, o, rfl, f6, ht6, hF6, hall6⟩
      rw [List.length_map, List.take_length] at hF6 hall6
      exact ⟨_, rfl, q F H6 c.hs f (f03.trans f6) zF ok.hp ok.hi h5 hF6 hall6⟩
end
end RL

/-! The drawn data: mill, grain, worth. -/
namespace RL
open PySem L2 RlR

theorem two64 : (2 : Int) ^ 64 = 18446744073709551616 := by decide
theorem mulL {i j : Int} (h1 : -1000000000000 < i) (h2 : i < 1000000000000) : CMul i j := .inl ⟨by rw [two64]; omega, by rw [two64]; omega⟩
theorem mulR {i j : Int} (h1 : -1000000000000 < j) (h2 : j < 1000000000000) : CMul i j := .inr ⟨by rw [two64]; omega, by rw [two64]; omega⟩
theorem modB (i : Int) {j : Int} (h : 0 < j) : 0 ≤ i % j ∧ i % j < j := ⟨Int.emod_nonneg _ (by omega), Int.emod_lt_of_pos _ h⟩
/-- the script at a, none of l -/
def Scr (K : PySem.W.Frag) (H : Hp) (a : Addr) (sc : List Int) (l : List Addr) : Prop := (Rd H a (.lst (sc.map V.int)) ∧ a ∉ l) ∨ SqL K (fun _ => none) a (sc.map V.int)
theorem Scr.sq {K : PySem.W.Frag} {H : Hp} {a : Addr} {sc : List Int} {l : List Addr} (h : Scr K H a sc l) : SqL K H a (sc.map V.int) := by
  rcases h with h | h
  · exact .inl h.1
  · rcases h with (h | ⟨o, h⟩) | h
    · cases h
    · cases h
    · exact .inr h
theorem Scr.keep {K : PySem.W.Frag} {H H' : Hp} {a : Addr} {sc : List Int} {l l' : List Addr} (h : Scr K H a sc l) (f : Fr l' H H') (hl : ∀ x ∈ l', x ∈ l) : Scr K H' a sc l := by
  rcases h with ⟨h, n⟩ | h
  · exact .inl ⟨rd_keep f h fun m => n (hl _ m), n⟩
  · exact .inr h
theorem Scr.fresh {K : PySem.W.Frag} {H : Hp} {a p : Addr} {sc : List Int} {l : List Addr} (h : Scr K H a sc l) (hp : H p = none) : Scr K H a sc (p :: l) := by
  rcases h with ⟨h, n⟩ | h
  · refine .inl ⟨h, fun m => ?_⟩
    rcases List.mem_cons.mp m with rfl | m
    · rcases h with h | ⟨o, h⟩ <;> rw [hp] at h <;> cases h
    · exact n m
  · exact .inr h
theorem Scr.sub {K : PySem.W.Frag} {H : Hp} {a : Addr} {sc : List Int} {l l' : List Addr} (h : Scr K H a sc l) (hl : ∀ x ∈ l', x ∈ l) : Scr K H a sc l' := h.imp_left fun h => ⟨h.1, fun m => h.2 (hl _ m)⟩
/-- a sack at ps that has given at most n grains -/
def Sk (K : PySem.W.Frag) (H : Hp) (ps : Addr) (l : List Addr) (n : Nat) : Prop := ∃ (a : Addr) (sc : List Int) (k : Nat) (x : Int), H ps = some (.lst [.ref a, .int (k : Nat), .int x]) ∧ Scr K H a sc l ∧ k ≤ n ∧ sc.length ≤ 63
theorem Sk.mono {K : PySem.W.Frag} {H : Hp} {ps : Addr} {l : List Addr} {n n' : Nat} (h : Sk K H ps l n) (hn : n ≤ n') : Sk K H ps l n' := let ⟨a, sc, k, x, h1, h2, h3, h4⟩ := h; ⟨a, sc, k, x, h1, h2, by omega, h4⟩
theorem Sk.keep {K : PySem.W.Frag} {H H' : Hp} {ps : Addr} {l l' : List Addr} {n : Nat} (h : Sk K H ps l n) (f : Fr l' H H') (hl : ∀ x ∈ l', x ∈ l) (hp : ps ∉ l') : Sk K H' ps l n := let ⟨a, sc, k, x, h1, h2, h3, h4⟩ := h; ⟨a, sc, k, x, f.at_ _ _ h1 hp, h2.keep f hl, h3, h4⟩
theorem Sk.keep0 {K : PySem.W.Frag} {H H' : Hp} {ps : Addr} {l : List Addr} {n : Nat} (h : Sk K H ps l n) (f : Fr [] H H') : Sk K H' ps l n := h.keep f (by simp) (by simp)
theorem Sk.fresh {K : PySem.W.Frag} {H : Hp} {ps p : Addr} {l : List Addr} {n : Nat} (h : Sk K H ps l n) (hp : H p = none) : Sk K H ps (p :: l) n := let ⟨a, sc, k, x, h1, h2, h3, h4⟩ := h; ⟨a, sc, k, x, h1, h2.fresh hp, h3, h4⟩
theorem Sk.sub {K : PySem.W.Frag} {H : Hp} {ps : Addr} {l l' : List Addr} {n : Nat} (h : Sk K H ps l n) (hl : ∀ x ∈ l', x ∈ l) : Sk K H ps l' n := let ⟨a, sc, k, x, h1, h2, h3, h4⟩ := h; ⟨a, sc, k, x, h1, h2.sub hl, h3, h4⟩
theorem Sk.some {K : PySem.W.Frag} {H : Hp} {ps : Addr} {l : List Addr} {n : Nat} (h : Sk K H ps l n) : H ps ≠ none := by
  obtain ⟨a, sc, k, x, h1, _⟩ := h
  rw [h1]
  simp
theorem use1 {α : Type} {F : α → Prop} {A : Prop} (use : (∀ a, F a) → A) (key : ∀ a, F a) : A := use key
section
variable {P : Program} {w : World} {K : PySem.W.Frag} {mg : Str → Option Value} {base : Heap}
def spMill : Sp := fun vs H Q _ => ∃ (x : Int) (k : Nat), vs = [.int x, .int (k : Nat)] ∧ k ≤ 1000000 ∧ ∀ r, Q (.int r) H
theorem ok_law_mill (T : Txt K w mg) : FnOk P w K mg base CX0 1 T.law_mill.f T.law_mill.fd ["cell", "at"] spMill := by
  refine T.law_mill.F.ok sc_law_mill (fun vs H Q E h => ?_) (fun cdv A outer s H vs Q E hr h => ?_)
  · obtain ⟨x, k, rfl, _⟩ := h
    rfl
  obtain ⟨x, k, rfl, hk, q⟩ := h
  refine ⟨_, (pss_cons (ps_if (pt_cmpR op_ge (pv 0) (pe_op op_pow pe_int pe_int) (nomark _)) (pss_one (ps_ret (pv 0))) pss_nil)
    (pss_cons (ps_set (i := 2) sc_law_mill.nd rfl (by first | exact Or.inl rfl | exact Or.inr rfl) (pe_op op_mod (pe_op op_add (pe_op op_add (pe_op op_mul (pe_op op_mod (pv 0) pe_int) pe_int) (pe_op op_mul (pv 1) pe_int)) pe_int) pe_int))
    (pss_cons (ps_set (i := 3) sc_law_mill.nd rfl (by first | exact Or.inl rfl | exact Or.inr rfl) (pe_op op_mod (pe_op op_add (pe_op op_add (pe_op op_add (pe_op op_mul (pv 2) (pv 2)) (pe_op op_mul (pe_op op_mul pe_int (pv 1)) (pv 1))) (pe_op op_mul pe_int (pv 2))) pe_int) pe_int))
    (pss_cons (ps_set (i := 4) sc_law_mill.nd rfl (by first | exact Or.inl rfl | exact Or.inr rfl) (pe_op op_mod (pe_op op_add (pe_op op_add (pe_op op_add (pe_op op_mul (pv 3) (pv 3)) (pe_op op_mul pe_int (pv 3))) (pv 2)) (pv 1)) pe_int))
    (pss_one (ps_ret (pe_op op_add (pe_op op_mul (pv 3) pe_int) (pv 4)))))))), ?_⟩
  refine ⟨_, rfl, _, _, rfl, rfl, ⟨by decide, by decide, by decide⟩, _, _, rfl, rfl, _, rfl, ifDec (fun _ => ⟨_, rfl, q _⟩) fun _ => ?_⟩
  have b1 := modB x (j := 2147483579) (by decide)
  refine ⟨_, rfl, _, _, rfl, rfl, (by show (0 : Int) < 2147483579; decide), _, _, rfl, rfl, mulL (by omega) (by omega), _, rfl, _, _, rfl, rfl, mulL (by omega) (by omega), _, _, rfl, rfl, _, _, rfl, rfl, _, _, rfl, rfl, (by show (0 : Int) < 2147483563; decide), ?_⟩
  generalize hf : (x % 2147483579 * 25173 + (k : Int) * 13849 + 101) % 2147483563 = fine
  have b2 : 0 ≤ fine ∧ fine < 2147483563 := by rw [← hf]; exact modB _ (by decide)
  refine ⟨_, rfl, _, rfl, _, _, rfl, rfl, mulL (by omega) (by omega), _, rfl, _, _, rfl, rfl, mulL (by decide) (by decide), _, rfl, _, _, rfl, rfl, mulR (by omega) (by omega), _, _, rfl, rfl, _, rfl, _, _, rfl, rfl, mulL (by decide) (by decide), _, _, rfl, rfl, _, _, rfl, rfl, _, _, rfl, rfl, (by show (0 : Int) < 2147483549; decide), ?_⟩
  generalize hc : (fine * fine + 733 * (k : Int) * (k : Int) + 17 * fine + 5) % 2147483549 = coarse
  have b3 : 0 ≤ coarse ∧ coarse < 2147483549 := by rw [← hc]; exact modB _ (by decide)
  refine ⟨_, rfl, _, rfl, _, _, rfl, rfl, mulL (by omega) (by omega), _, rfl, _, _, rfl, rfl, mulL (by decide) (by decide), _, _, rfl, rfl, _, rfl, _, _, rfl, rfl, _, rfl, _, _, rfl, rfl, _, _, rfl, rfl, (by show (0 : Int) < 2147483543; decide), ?_⟩
  exact ⟨_, rfl, _, _, rfl, rfl, mulL (by omega) (by omega), _, rfl, _, _, rfl, rfl, q _⟩

def spGrain (K : PySem.W.Frag) : Sp := fun vs H Q _ => ∃ (ps : Addr) (m : Int) (l : List Addr) (n : Nat), vs = [.ref ps, .int m] ∧ Sk K H ps l n ∧ ps ∈ l ∧ n ≤ 999999 ∧ 0 < m ∧ m ≤ 1000000 ∧
  ∀ H' r, Fr [ps] H H' → Sk K H' ps l (n + 1) → 0 ≤ r → r < m → Q (.int r) H'
theorem set0 {x y z v : V} : ([x, y, z] : List V).set 1 v = [x, v, z] := rfl
theorem ok_law_grain (T : Txt K w mg) : FnOk P w K mg base CX0 2 T.law_grain.f T.law_grain.fd ["sack", "many"] (spGrain K) := by
  refine T.law_grain.F.ok sc_law_grain (fun vs H Q E h => ?_) (fun cdv A outer s H vs Q E hr h => ?_)
  · obtain ⟨ps, m, l, n, rfl, _⟩ := h
    rfl
  obtain ⟨ps, m, l, n, rfl, ⟨a, sc, k, x, hps, hsc, hk, h63⟩, hpl, hn, hm, hmb, q⟩ := h
  refine ⟨_, (pss_cons (ps_if (pt_cmpR op_lt (pe_ix (ixL (K := K) rfl) (pv 0) pe_int (fun _ _ => rfl)) (pv 1) (nomark _)) (pss_cons (ps_set (i := 2) sc_law_grain.nd rfl (by first | exact Or.inl rfl | exact Or.inr rfl) (pe_ix (ixL (K := K) rfl) (pv 0) pe_int (fun _ _ => rfl)))
    (pss_cons (ps_set (i := 3) sc_law_grain.nd rfl (by first | exact Or.inl rfl | exact Or.inr rfl) (pe_op op_add (pe_op op_mul pe_int (pv 2)) pe_int))
    (pss_cons (ps_if (pt_cmpR op_lt (pv 2) (pe_callB (lenK (K := K) rfl) (by rfl) T.z_len bt_len (pa_cons (pe_ix (ixL (K := K) rfl) (pv 0) pe_int (fun _ _ => rfl)) pa_nil)) (nomark _)) (pss_one (ps_set (i := 3) sc_law_grain.nd rfl (by first | exact Or.inl rfl | exact Or.inr rfl) (pe_ix (ixL (K := K) rfl) (pe_ix (ixL (K := K) rfl) (pv 0) pe_int (fun _ _ => rfl)) (pv 2) (fun _ _ => rfl)))) (pss_one (ps_if (pt_cmpR op_gt (pe_callB (lenK (K := K) rfl) (by rfl) T.z_len bt_len (pa_cons (pe_ix (ixL (K := K) rfl) (pv 0) pe_int (fun _ _ => rfl)) pa_nil)) pe_int (nomark _)) (pss_one (ps_set (i := 3) sc_law_grain.nd rfl (by first | exact Or.inl rfl | exact Or.inr rfl) (pe_op op_add (pe_op op_mod (pe_ix (ixL (K := K) rfl) (pe_ix (ixL (K := K) rfl) (pv 0) pe_int (fun _ _ => rfl)) (pe_op op_mod (pe_op op_add (pe_op op_mul pe_int (pv 2)) pe_int) (pe_callB (lenK (K := K) rfl) (by rfl) T.z_len bt_len (pa_cons (pe_ix (ixL (K := K) rfl) (pv 0) pe_int (fun _ _ => rfl)) pa_nil))) (fun _ _ => rfl)) pe_int) (pe_op op_mul (pv 2) pe_int)))) pss_nil)))
    (pss_cons (ps_asg (pe_op op_add (pv 2) pe_int) (pg_sub (pv 0) pe_int set_list))
    (pss_one (ps_asg (pe_call (ok_law_mill T) (hr.mono (by omega)) rfl T.law_mill.m T.law_mill.F.kp T.law_mill.b .nil pass0 (pa_cons (pv 3) (pa_cons (pv 2) pa_nil))) (pg_sub (pv 0) pe_int set_list))))))) pss_nil)
    (pss_cons (ps_set (i := 4) sc_law_grain.nd rfl (by first | exact Or.inl rfl | exact Or.inr rfl) (pe_op op_mod (pe_ix (ixL (K := K) rfl) (pv 0) pe_int (fun _ _ => rfl)) (pv 1)))
    (pss_cons (ps_asg (pe_op op_fdiv (pe_ix (ixL (K := K) rfl) (pv 0) pe_int (fun _ _ => rfl)) (pv 1)) (pg_sub (pv 0) pe_int set_list))
    (pss_one (ps_ret (pv 4)))))), ?_⟩
  have sub1 : ∀ y ∈ [ps], y ∈ l := fun y hy => by rw [List.mem_singleton.mp hy]; exact hpl
  have fin : ∀ (H1 : Hp) (k' : Nat) (x' : Int), Fr [ps] H H1 → H1 ps = some (.lst [.ref a, .int (k' : Nat), .int x']) → k' ≤ n + 1 → ∀ Q1 : Int → Hp → Prop, (∀ r H', Fr [ps] H H' → Sk K H' ps l (n + 1) → 0 ≤ r → r < m → Q1 r H') → Q1 (x' % m) (upd H1 ps (.lst [.ref a, .int (k' : Nat), .int (x' / m)])) := fun H1 k' x' f1 h1 hk' Q1 q1 => by
    have f2 : Fr [ps] H (upd H1 ps (.lst [.ref a, .int (k' : Nat), .int (x' / m)])) := f1.trans (Fr.set h1 trivial (by simp))
    exact q1 _ _ f2 ⟨a, sc, k', x' / m, upd_same, hsc.keep f2 sub1, hk', h63⟩ (modB x' hm).1 (modB x' hm).2
  refine ⟨_, rfl, ps, _, _, _, rfl, rfl, SqL.of hps, at2, _, rfl, _, _, rfl, rfl, _, rfl, ifDec (fun _ => ?_) (fun _ => ?_)⟩
  · refine ⟨_, rfl, ps, _, _, _, rfl, rfl, SqL.of hps, at1, ?_⟩
    refine ⟨_, rfl, _, _, rfl, rfl, mulL (by decide) (by decide), _, _, rfl, rfl, ?_⟩
    apply use1 (α := Int)
    case use =>
      intro key
      refine ⟨_, rfl, _, rfl, ps, _, _, _, rfl, rfl, SqL.of hps, at0, a, _, rfl, .inl hsc.sq, _, _, rfl, rfl, _, rfl, ifDec (fun h1 => ?_) (fun h1 => ?_)⟩
      · rw [List.length_map] at h1
        refine ⟨_, rfl, ps, _, _, _, rfl, rfl, SqL.of hps, at0, _, rfl, a, _, _, _, rfl, rfl, hsc.sq, atI_int (k := (k : Int)) (by omega) (by omega), ?_⟩
        generalize sc.getD (k : Int).toNat 0 = cell
        exact key cell
      · refine ⟨_, rfl, ps, _, _, _, rfl, rfl, SqL.of hps, at0, a, _, rfl, .inl hsc.sq, _, _, rfl, rfl, _, rfl, ifDec (fun h2 => ?_) (fun h2 => key _)⟩
        rw [List.length_map] at h1 h2
        have b := modB (3 * (k : Int) + 1) (j := (sc.length : Int)) h2
        refine ⟨_, rfl, ps, _, _, _, rfl, rfl, SqL.of hps, at0, _, rfl, _, _, rfl, rfl, mulL (by decide) (by decide), _, _, rfl, rfl, _, rfl, ps, _, _, _, rfl, rfl, SqL.of hps, at0, a, _, rfl, .inl hsc.sq, _, _, rfl, rfl, (by rw [List.length_map]; exact h2), a, _, _, _, rfl, rfl, hsc.sq, atI_int (by rw [List.length_map]; exact b.1) (by rw [List.length_map]; exact b.2), _, _, rfl, rfl, (by show (0 : Int) < 777777773; decide), _, rfl, _, _, rfl, rfl, mulR (by decide) (by decide), _, _, rfl, rfl, key _⟩
    case key =>
      intro cell
      refine ⟨_, rfl, _, _, rfl, rfl, _, rfl, ps, _, _, _, rfl, rfl, hps, rfl, ?_⟩
      have f1 : Fr [ps] H (upd H ps (.lst [.ref a, .int ((k + 1 : Nat) : Int), .int x])) := Fr.set hps trivial (by simp)
      refine ⟨_, rfl, _, rfl, cell, k, rfl, by omega, fun r => ⟨_, rfl, ps, _, _, _, rfl, rfl, upd_same, rfl, ?_⟩⟩
      have f2 : Fr [ps] H (upd (upd H ps (.lst [.ref a, .int ((k + 1 : Nat) : Int), .int x])) ps (.lst [.ref a, .int ((k + 1 : Nat) : Int), .int r])) := f1.trans (Fr.set upd_same trivial (by simp))
      have h2 : (upd (upd H ps (.lst [.ref a, .int ((k + 1 : Nat) : Int), .int x])) ps (.lst [.ref a, .int ((k + 1 : Nat) : Int), .int r])) ps = some (.lst [.ref a, .int ((k + 1 : Nat) : Int), .int r]) := upd_same
      refine ⟨_, rfl, ps, _, _, _, rfl, rfl, SqL.of h2, at2, _, rfl, _, _, rfl, rfl, hm, ?_⟩
      refine ⟨_, rfl, ps, _, _, _, rfl, rfl, SqL.of h2, at2, _, rfl, _, _, rfl, rfl, ⟨hm, by omega⟩, _, rfl, ps, _, _, _, rfl, rfl, h2, rfl, _, rfl, ?_⟩
      exact fin _ (k + 1) r f2 h2 (by omega) (fun r H' => Q (.int r) H') fun r H' f s h1 h2 => q H' r f s h1 h2
  · refine ⟨_, rfl, ps, _, _, _, rfl, rfl, SqL.of hps, at2, _, rfl, _, _, rfl, rfl, hm, ?_⟩
    refine ⟨_, rfl, ps, _, _, _, rfl, rfl, SqL.of hps, at2, _, rfl, _, _, rfl, rfl, ⟨hm, by omega⟩, _, rfl, ps, _, _, _, rfl, rfl, hps, rfl, _, rfl, ?_⟩
    exact fin H k x (Fr.refl _ _) hps (by omega) (fun r H' => Q (.int r) H') fun r H' f s h1 h2 => q H' r f s h1 h2
end
end RL

/-! The drawn data: worths, terms, places. -/
namespace RL
open PySem L2 RlR

theorem getD_all {P : Int → Prop} (l : List Int) (k : Nat) (h : ∀ x ∈ l, P x) (h0 : P 0) : P (l.getD k 0) := by
  rw [List.getD_eq_getElem?_getD]
  cases e : l[k]? with
  | none => exact h0
  | some x => exact h x (List.mem_of_getElem? e)
def tb : Nat → Nat
  | 0 => 3
  | d + 1 => 2 * tb d + 2
theorem tb_ge : ∀ d, 3 ≤ tb d
  | 0 => Nat.le_refl _
  | d + 1 => by have := tb_ge d; show 3 ≤ 2 * tb d + 2; omega
section
variable {P : Program} {w : World} {K : PySem.W.Frag} {mg : Str → Option Value} {base : Heap}
def spWorthD (K : PySem.W.Frag) : Sp := fun vs H Q _ => ∃ (ps : Addr) (l : List Addr) (n : Nat), vs = [.ref ps] ∧ Sk K H ps l n ∧ ps ∈ l ∧ n ≤ 900000 ∧ ∀ H' r, Fr [ps] H H' → Sk K H' ps l (n + 2) → 0 ≤ r → r ≤ 999999 → Q (.int r) H'
theorem ok_law_worth (T : Txt K w mg) : FnOk P w K mg base CX0 3 T.law_worth.f T.law_worth.fd ["sack"] (spWorthD K) := by
  refine T.law_worth.F.ok sc_law_worth (fun vs H Q E h => ?_) (fun cdv A outer s H vs Q E hr h => ?_)
  · obtain ⟨ps, l, n, rfl, _⟩ := h
    rfl
  obtain ⟨ps, l, n, rfl, hs, hpl, hn, q⟩ := h
  refine ⟨_, (pss_cons (ps_set (i := 1) sc_law_worth.nd rfl (by first | exact Or.inl rfl | exact Or.inr rfl) (pe_call (ok_law_grain T) (hr.mono (by omega)) rfl T.law_grain.m T.law_grain.F.kp T.law_grain.b .nil pass0 (pa_cons (pv 0) (pa_cons pe_int pa_nil))))
    (pss_cons (ps_if (pt_cmpR op_eq (pv 1) pe_int (nomark _)) (pss_one (ps_ret (pe_ix (ixL (K := K) rfl) (pe_lst (pa_cons pe_int (pa_cons pe_int (pa_cons pe_int pa_nil)))) (pe_call (ok_law_grain T) (hr.mono (by omega)) rfl T.law_grain.m T.law_grain.F.kp T.law_grain.b .nil pass0 (pa_cons (pv 0) (pa_cons pe_int pa_nil))) (fun _ _ => rfl)))) pss_nil)
    (pss_cons (ps_if (pt_cmpR op_eq (pv 1) pe_int (nomark _)) (pss_one (ps_ret (pe_call (ok_law_grain T) (hr.mono (by omega)) rfl T.law_grain.m T.law_grain.F.kp T.law_grain.b .nil pass0 (pa_cons (pv 0) (pa_cons pe_int pa_nil))))) pss_nil)
    (pss_one (ps_ret (pe_ix (ixL (K := K) rfl) (pe_lst (pa_cons pe_int (pa_cons pe_int (pa_cons pe_int (pa_cons pe_int (pa_cons pe_int (pa_cons pe_int pa_nil))))))) (pv 1) (fun _ _ => rfl))))))), ?_⟩
  refine ⟨_, rfl, ps, 8, l, n, rfl, hs, hpl, by omega, by decide, by decide, fun H1 way f1 s1 h0 h8 => ?_⟩
  refine ⟨_, rfl, rfl, _, rfl, ifDec (fun _ => ?_) (fun h7 => ?_)⟩
  · refine ⟨line_of (by simp), fun D hD => ?_⟩
    have k1 := Fr.new (l := [ps]) (o := .lst [.int 999999, .int 500000, .int 12]) hD
    have nD : D ≠ ps := fun e => s1.some (by rw [← e]; exact hD)
    refine ⟨_, rfl, ps, 3, l, n + 1, rfl, s1.keep0 (Fr.new hD), hpl, by omega, by decide, by decide, fun H2 r f2 s2 g0 g3 => ?_⟩
    have b := getD_all (P := fun x => 0 ≤ x ∧ x ≤ 999999) [999999, 500000, 12] r.toNat (by decide) (by decide)
    exact ⟨D, _, _, _, rfl, rfl, SqL.of (f2.at_ _ _ upd_same (by simpa using nD)), atI_int (bd := [999999, 500000, 12]) g0 g3, q _ _ ((f1.trans k1).trans f2) s2 b.1 b.2⟩
  · have h7' : way ≠ 7 := fun e => h7 (by rw [e])
    refine ⟨_, rfl, rfl, _, rfl, ifDec (fun _ => ?_) (fun h6 => ?_)⟩
    · exact ⟨_, rfl, ps, 1000000, l, n + 1, rfl, s1, hpl, by omega, by decide, by decide, fun H2 r f2 s2 g0 g3 => q _ _ (f1.trans f2) s2 g0 (by omega)⟩
    · have h6' : way ≠ 6 := fun e => h6 (by rw [e])
      refine ⟨line_of (by simp), fun D hD => ⟨_, rfl, D, _, _, _, rfl, rfl, SqL.of upd_same, atI_int (bd := [0, 1, 2, 3, 5, 7]) h0 (by show way < 6; omega), ?_⟩⟩
      have k1 := Fr.new (l := [ps]) (o := .lst [.int 0, .int 1, .int 2, .int 3, .int 5, .int 7]) hD
      have b := getD_all (P := fun x => 0 ≤ x ∧ x ≤ 999999) [0, 1, 2, 3, 5, 7] way.toNat (by decide) (by decide)
      exact q _ _ (f1.trans k1) ((s1.keep0 (Fr.new hD)).mono (by omega)) b.1 b.2

def spDraw (K : PySem.W.Frag) (b : Bool) (d : Nat) : Sp := fun vs H Q _ => ∃ (ps pr : Addr) (m ro dI : Int) (dd : Nat) (l : List Addr) (k : Nat), vs = [.ref ps, .int m, .ref pr, .int dI] ∧ dI = (dd : Nat) ∧ Sk K H ps l k ∧ ps ∈ l ∧ pr ∈ l ∧ pr ≠ ps ∧ k + tb dd ≤ 800000 ∧ 0 < m ∧ m ≤ 12 ∧ H pr = some (.lst [.int ro]) ∧ 1 ≤ ro ∧ ro ≤ 12 ∧ 1 ≤ dd ∧ dd ≤ d ∧
  ∀ H' t v, Fr [ps, pr] H H' → Sk K H' ps l (k + tb dd) → (siz t : Int) ≤ ro → H' pr = some (.lst [.int (ro - (siz t : Int))]) → wf m b t → dep t ≤ dd → TAt H' t v → Q v H'
theorem word_at {r : Int} (h0 : 0 ≤ r) (h5 : r < 5) : ∃ o : Op, atI [V.str "sum", .str "less", .str "under", .str "same", .str "sum"] r = some (.str o.word) := by
  have : r = 0 ∨ r = 1 ∨ r = 2 ∨ r = 3 ∨ r = 4 := by omega
  rcases this with rfl | rfl | rfl | rfl | rfl
  · exact ⟨.sum, at0⟩
  · exact ⟨.less, at1⟩
  · exact ⟨.under, at2⟩
  · exact ⟨.same, at3⟩
  · exact ⟨.sum, atI_nat (j := 4) rfl⟩
theorem ok_draw_term (T : Txt K w mg) {n : Nat} (G : FnOk P w K mg base CX0 (n + 3) T.law_term.f T.law_term.fd ["sack", "n", "room", "deep"] (spDraw K true n)) (G2 : FnOk P w K mg base CX0 (n + 3) T.law_place.f T.law_place.fd ["sack", "n", "room", "deep"] (spDraw K false n)) :
    FnOk P w K mg base CX0 (n + 4) T.law_term.f T.law_term.fd ["sack", "n", "room", "deep"] (spDraw K true (n + 1)) := by
  refine T.law_term.F.ok sc_law_term (fun vs H Q E h => ?_) (fun cdv A outer s H vs Q E hr h => ?_)
  · obtain ⟨ps, pr, m, ro, dI, dd, l, k, rfl, _⟩ := h
    rfl
  obtain ⟨ps, pr, m, ro, dI, dd, l, k, rfl, hdI, hs, hpl, hrl, hne, hk, hm, hm12, hro, h1, h12, hd1, hdn, q⟩ := h
  have tg := tb_ge dd
  refine ⟨_, (pss_cons (ps_asg (pe_op op_sub (pe_ix (ixL (K := K) rfl) (pv 2) pe_int (fun _ _ => rfl)) pe_int) (pg_sub (pv 2) pe_int set_list))
    (pss_cons (ps_set (i := 4) sc_law_term.nd rfl (by first | exact Or.inl rfl | exact Or.inr rfl) (pe_call (ok_law_grain T) (hr.mono (by omega)) rfl T.law_grain.m T.law_grain.F.kp T.law_grain.b .nil pass0 (pa_cons (pv 0) (pa_cons pe_int pa_nil))))
    (pss_cons (ps_if (PW.pt (pw_or (pt_cmpR op_lt (pv 4) pe_int (nomark _)) (pw_or (pt_cmpR op_lt (pv 3) pe_int (nomark _)) (pw_or1 (pt_cmpR op_lt (pe_ix (ixL (K := K) rfl) (pv 2) pe_int (fun _ _ => rfl)) pe_int (nomark _)))))) (pss_one (ps_ret (pe_tup (pa_cons pe_str (pa_cons (pe_call (ok_law_worth T) (hr.mono (by omega)) rfl T.law_worth.m T.law_worth.F.kp T.law_worth.b .nil pass0 (pa_cons (pv 0) pa_nil)) pa_nil))))) pss_nil)
    (pss_cons (ps_if (PW.pt (pw_or (pt_cmpR op_lt (pv 4) pe_int (nomark _)) (pw_or1 (pt_cmpR op_lt (pe_ix (ixL (K := K) rfl) (pv 2) pe_int (fun _ _ => rfl)) pe_int (nomark _))))) (pss_one (ps_ret (pe_tup (pa_cons pe_str (pa_cons (pe_call G2 (hr.mono (by omega)) rfl T.law_place.m T.law_place.F.kp T.law_place.b .nil pass0 (pa_cons (pv 0) (pa_cons (pv 1) (pa_cons (pv 2) (pa_cons (pe_op op_sub (pv 3) pe_int) pa_nil))))) pa_nil))))) pss_nil)
    (pss_cons (ps_asg (pe_op op_sub (pe_ix (ixL (K := K) rfl) (pv 2) pe_int (fun _ _ => rfl)) pe_int) (pg_sub (pv 2) pe_int set_list))
    (pss_cons (ps_set (i := 5) sc_law_term.nd rfl (by first | exact Or.inl rfl | exact Or.inr rfl) (pe_call G (hr.mono (by omega)) rfl T.law_term.m T.law_term.F.kp T.law_term.b .nil pass0 (pa_cons (pv 0) (pa_cons (pv 1) (pa_cons (pv 2) (pa_cons (pe_op op_sub (pv 3) pe_int) pa_nil))))))
    (pss_cons (ps_asg (pe_op op_add (pe_ix (ixL (K := K) rfl) (pv 2) pe_int (fun _ _ => rfl)) pe_int) (pg_sub (pv 2) pe_int set_list))
    (pss_cons (ps_set (i := 6) sc_law_term.nd rfl (by first | exact Or.inl rfl | exact Or.inr rfl) (pe_ix (ixL (K := K) rfl) (pe_lst (pa_cons pe_str (pa_cons pe_str (pa_cons pe_str (pa_cons pe_str (pa_cons pe_str pa_nil)))))) (pe_call (ok_law_grain T) (hr.mono (by omega)) rfl T.law_grain.m T.law_grain.F.kp T.law_grain.b .nil pass0 (pa_cons (pv 0) (pa_cons pe_int pa_nil))) (fun _ _ => rfl)))
    (pss_one (ps_ret (pe_tup (pa_cons (pv 6) (pa_cons (pv 5) (pa_cons (pe_call G (hr.mono (by omega)) rfl T.law_term.m T.law_term.F.kp T.law_term.b .nil pass0 (pa_cons (pv 0) (pa_cons (pv 1) (pa_cons (pv 2) (pa_cons (pe_op op_sub (pv 3) pe_int) pa_nil))))) pa_nil)))))))))))))), ?_⟩
  refine ⟨_, rfl, pr, _, _, _, rfl, rfl, SqL.of hro, at0, _, _, rfl, rfl, _, rfl, pr, _, _, _, rfl, rfl, hro, rfl, ?_⟩
  have f1 : Fr [ps, pr] H (upd H pr (.lst [.int (ro - 1)])) := Fr.set hro trivial (by simp)
  have s1 : Sk K (upd H pr (.lst [.int (ro - 1)])) ps l k := hs.keep (l' := [pr]) (Fr.set hro trivial (by simp)) (by simpa using hrl) (by simpa using hne.symm)
  refine ⟨_, rfl, ps, 9, l, k, rfl, s1, hpl, by omega, by decide, by decide, fun H2 way f2 s2 w0 w9 => ?_⟩
  have r2 := f2.at_ _ _ (upd_same : (upd H pr (.lst [.int (ro - 1)])) pr = _) (by simpa using hne)
  have f02 : Fr [ps, pr] H H2 := f1.trans (f2.mono (by simp))
  apply use0
  case use =>
    intro key
    refine ⟨_, rfl, _, _, rfl, rfl, _, rfl, ifDec (fun _ => key) (fun _ => ⟨_, rfl, _, _, rfl, rfl, _, rfl, ifDec (fun _ => key) (fun h2 => ⟨_, rfl, pr, _, _, _, rfl, rfl, SqL.of r2, at0, _, _, rfl, rfl, _, rfl, ifDec (fun _ => key) (fun h3 => ?_)⟩)⟩)⟩
    obtain ⟨e, rfl⟩ : ∃ e, dd = e + 1 := ⟨dd - 1, by omega⟩
    have te : tb (e + 1) = 2 * tb e + 2 := rfl
    have tg2 := tb_ge e
    have he1 : 1 ≤ e := by omega
    apply use0
    case use =>
      intro key2
      refine ⟨_, rfl, _, _, rfl, rfl, _, rfl, ifDec (fun _ => key2) (fun _ => ⟨_, rfl, pr, _, _, _, rfl, rfl, SqL.of r2, at0, _, _, rfl, rfl, _, rfl, ifDec (fun _ => key2) (fun h4 => ?_)⟩)⟩
      refine ⟨_, rfl, pr, _, _, _, rfl, rfl, SqL.of r2, at0, _, _, rfl, rfl, _, rfl, pr, _, _, _, rfl, rfl, r2, rfl, ?_⟩
      have f3 : Fr [ps, pr] H2 (upd H2 pr (.lst [.int (ro - 1 - 1)])) := Fr.set r2 trivial (by simp)
      have s3 : Sk K (upd H2 pr (.lst [.int (ro - 1 - 1)])) ps l (k + 1) := s2.keep (l' := [pr]) (Fr.set r2 trivial (by simp)) (by simpa using hrl) (by simpa using hne.symm)
      refine ⟨_, rfl, _, rfl, _, rfl, _, rfl, _, _, rfl, rfl, ps, pr, m, ro - 1 - 1, dI - 1, e, l, k + 1, rfl, by omega, s3, hpl, hrl, hne, by omega, hm, hm12, upd_same, by omega, by omega, he1, by omega, fun H4 t v f4 s4 z4 r4 w4 d4 a4 => ?_⟩
      refine ⟨_, rfl, pr, _, _, _, rfl, rfl, SqL.of r4, at0, _, _, rfl, rfl, _, rfl, pr, _, _, _, rfl, rfl, r4, rfl, ?_⟩
      have f5 : Fr [ps, pr] H4 (upd H4 pr (.lst [.int (ro - 1 - 1 - (siz t : Int) + 1)])) := Fr.set r4 trivial (by simp)
      have s5 : Sk K (upd H4 pr (.lst [.int (ro - 1 - 1 - (siz t : Int) + 1)])) ps l (k + 1 + tb e) := s4.keep (l' := [pr]) (Fr.set r4 trivial (by simp)) (by simpa using hrl) (by simpa using hne.symm)
      have r5 : (upd H4 pr (.lst [.int (ro - 1 - 1 - (siz t : Int) + 1)])) pr = some (.lst [.int (ro - 1 - 1 - (siz t : Int) + 1)]) := upd_same
      have a5 := a4.keep f5.tup
      refine ⟨line_of (by simp), fun D hD => ?_⟩
      have kD := Fr.new (l := []) (o := .lst [.str "sum", .str "less", .str "under", .str "same", .str "sum"]) hD
      have nD : D ≠ ps := fun e => s5.some (by rw [← e]; exact hD)
      refine ⟨_, rfl, ps, 5, l, k + 1 + tb e, rfl, s5.keep0 kD, hpl, by omega, by decide, by decide, fun H6 r f6 s6 g0 g5 => ?_⟩
      obtain ⟨o, ho⟩ := word_at g0 g5
      have r6 := f6.at_ _ _ (kD.at_ _ _ r5 (by simp)) (by simpa using hne)
      refine ⟨D, _, _, _, rfl, rfl, SqL.of (f6.at_ _ _ upd_same (by simpa using nD)), ho, ?_⟩
      refine ⟨_, rfl, _, rfl, _, rfl, _, rfl, _, rfl, _, rfl, _, _, rfl, rfl, ps, pr, m, ro - 1 - 1 - (siz t : Int) + 1, dI - 1, e, l, k + 1 + tb e + 1, rfl, by omega, s6, hpl, hrl, hne, by omega, hm, hm12, r6, by omega, by omega, he1, by omega, fun H7 t2 v2 f7 s7 z7 r7 w7 d7 a7 => ⟨line_of (by simp), fun p hp => ?_⟩⟩
      have kp := Fr.new (l := []) (o := .tup [.str o.word, v, v2]) hp
      have f07 : Fr [ps, pr] H H7 := f02.trans (f3.trans (f4.trans (f5.trans (kD.lift.trans ((f6.mono (by simp)).trans f7)))))
      have a8 : TAt H7 t v := a5.keep (kD.tup.trans (f6.tup.trans f7.tup))
      refine q _ (.two o t t2) (.ref p) (f07.trans kp.lift) ((s7.keep0 kp).mono (by omega)) (by show ((siz t + siz t2 + 1 : Nat) : Int) ≤ ro; omega) ?_ ⟨w4, w7⟩ (by show max (dep t) (dep t2) + 1 ≤ e + 1; omega) ⟨p, v, v2, rfl, upd_same, a8.keep kp.tup, a7.keep kp.tup⟩
      rw [kp.at_ _ _ r7 (by simp)]
      show some (HO.lst [.int (ro - 1 - 1 - (siz t : Int) + 1 - (siz t2 : Int))]) = some (HO.lst [.int (ro - ((siz t + siz t2 + 1 : Nat) : Int))])
      rw [show ro - 1 - 1 - (siz t : Int) + 1 - (siz t2 : Int) = ro - ((siz t + siz t2 + 1 : Nat) : Int) by omega]
    case key =>
      refine ⟨_, rfl, _, rfl, _, rfl, _, rfl, _, _, rfl, rfl, ps, pr, m, ro - 1, dI - 1, e, l, k + 1, rfl, by omega, s2, hpl, hrl, hne, by omega, hm, hm12, r2, by omega, by omega, he1, by omega, fun H3 t v f3 s3 z3 r3 w3 d3 a3 => ⟨line_of (by simp), fun p hp => ?_⟩⟩
      have kp := Fr.new (l := []) (o := .tup [.str "look", v]) hp
      refine q _ (.look t) (.ref p) (f02.trans (f3.trans kp.lift)) ((s3.keep0 kp).mono (by omega)) (by show ((siz t + 1 : Nat) : Int) ≤ ro; omega) ?_ w3 (by show dep t + 1 ≤ e + 1; omega) ⟨p, v, rfl, upd_same, a3.keep kp.tup⟩
      rw [kp.at_ _ _ r3 (by simp)]
      show some (HO.lst [.int (ro - 1 - (siz t : Int))]) = some (HO.lst [.int (ro - ((siz t + 1 : Nat) : Int))])
      rw [show ro - 1 - (siz t : Int) = ro - ((siz t + 1 : Nat) : Int) by omega]
  case key =>
    refine ⟨_, rfl, ps, l, k + 1, rfl, s2, hpl, by omega, fun H3 r f3 s3 g0 g9 => ⟨line_of (by simp), fun p hp => ?_⟩⟩
    have kp := Fr.new (l := []) (o := .tup [.str "num", .int r]) hp
    exact q _ (.num r) (.ref p) (f02.trans ((f3.mono (by simp)).trans kp.lift)) ((s3.keep0 kp).mono (by omega)) (by show ((1 : Nat) : Int) ≤ ro; omega) (kp.at_ _ _ (f3.at_ _ _ r2 (by simpa using hne)) (by simp)) ⟨g0, g9⟩ (by show 1 ≤ dd; omega) ⟨p, rfl, upd_same⟩
theorem ok_draw_place (T : Txt K w mg) {n : Nat} (G : FnOk P w K mg base CX0 (n + 3) T.law_term.f T.law_term.fd ["sack", "n", "room", "deep"] (spDraw K true n)) :
    FnOk P w K mg base CX0 (n + 4) T.law_place.f T.law_place.fd ["sack", "n", "room", "deep"] (spDraw K false (n + 1)) := by
  refine T.law_place.F.ok sc_law_place (fun vs H Q E h => ?_) (fun cdv A outer s H vs Q E hr h => ?_)
  · obtain ⟨ps, pr, m, ro, dI, dd, l, k, rfl, _⟩ := h
    rfl
  obtain ⟨ps, pr, m, ro, dI, dd, l, k, rfl, hdI, hs, hpl, hrl, hne, hk, hm, hm12, hro, h1, h12, hd1, hdn, q⟩ := h
  have tg := tb_ge dd
  refine ⟨_, (pss_cons (ps_asg (pe_op op_sub (pe_ix (ixL (K := K) rfl) (pv 2) pe_int (fun _ _ => rfl)) pe_int) (pg_sub (pv 2) pe_int set_list))
    (pss_cons (ps_if (PW.pt (pw_or (pt_cmpR op_lt (pv 3) pe_int (nomark _)) (pw_or (pt_cmpR op_lt (pe_ix (ixL (K := K) rfl) (pv 2) pe_int (fun _ _ => rfl)) pe_int (nomark _)) (pw_or1 (pt_cmpR op_gt (pe_call (ok_law_grain T) (hr.mono (by omega)) rfl T.law_grain.m T.law_grain.F.kp T.law_grain.b .nil pass0 (pa_cons (pv 0) (pa_cons pe_int pa_nil))) pe_int (nomark _)))))) (pss_one (ps_ret (pe_tup (pa_cons pe_str (pa_cons (pe_call (ok_law_grain T) (hr.mono (by omega)) rfl T.law_grain.m T.law_grain.F.kp T.law_grain.b .nil pass0 (pa_cons (pv 0) (pa_cons (pv 1) pa_nil))) pa_nil))))) pss_nil)
    (pss_one (ps_ret (pe_tup (pa_cons pe_str (pa_cons (pe_call G (hr.mono (by omega)) rfl T.law_term.m T.law_term.F.kp T.law_term.b .nil pass0 (pa_cons (pv 0) (pa_cons (pv 1) (pa_cons (pv 2) (pa_cons (pe_op op_sub (pv 3) pe_int) pa_nil))))) pa_nil))))))), ?_⟩
  refine ⟨_, rfl, pr, _, _, _, rfl, rfl, SqL.of hro, at0, _, _, rfl, rfl, _, rfl, pr, _, _, _, rfl, rfl, hro, rfl, ?_⟩
  have f1 : Fr [ps, pr] H (upd H pr (.lst [.int (ro - 1)])) := Fr.set hro trivial (by simp)
  have s1 : Sk K (upd H pr (.lst [.int (ro - 1)])) ps l k := hs.keep (l' := [pr]) (Fr.set hro trivial (by simp)) (by simpa using hrl) (by simpa using hne.symm)
  have r1 : (upd H pr (.lst [.int (ro - 1)])) pr = some (.lst [.int (ro - 1)]) := upd_same
  apply useK (G := fun (H2 : Hp) => Fr [ps] (upd H pr (.lst [.int (ro - 1)])) H2 ∧ Sk K H2 ps l (k + 1))
  case use =>
    intro key
    refine ⟨_, rfl, _, _, rfl, rfl, _, rfl, ifDec (fun _ => ?wa) (fun h2 => ⟨_, rfl, pr, _, _, _, rfl, rfl, SqL.of r1, at0, _, _, rfl, rfl, _, rfl, ifDec (fun _ => ?wb) (fun h3 => ?wc)⟩)⟩
    case wc =>
      refine ⟨_, rfl, ps, 4, l, k, rfl, s1, hpl, by omega, by decide, by decide, fun H2 way f2 s2 w0 w9 => ⟨_, _, rfl, rfl, _, rfl, ifDec (fun _ => key H2 ⟨f2, s2⟩) (fun _ => ?_)⟩⟩
      obtain ⟨e, rfl⟩ : ∃ e, dd = e + 1 := ⟨dd - 1, by omega⟩
      have te : tb (e + 1) = 2 * tb e + 2 := rfl
      have r2 := f2.at_ _ _ r1 (by simpa using hne)
      refine ⟨_, rfl, _, rfl, _, rfl, _, rfl, _, _, rfl, rfl, ps, pr, m, ro - 1, dI - 1, e, l, k + 1, rfl, by omega, s2, hpl, hrl, hne, by omega, hm, hm12, r2, by omega, by omega, by omega, by omega, fun H3 t v f3 s3 z3 r3 w3 d3 a3 => ⟨line_of (by simp), fun p hp => ?_⟩⟩
      have kp := Fr.new (l := []) (o := .tup [.str "via", v]) hp
      refine q _ (.via t) (.ref p) (f1.trans ((f2.mono (by simp)).trans (f3.trans kp.lift))) ((s3.keep0 kp).mono (by omega)) (by show ((siz t + 1 : Nat) : Int) ≤ ro; omega) ?_ w3 (by show dep t + 1 ≤ e + 1; omega) ⟨p, v, rfl, upd_same, a3.keep kp.tup⟩
      rw [kp.at_ _ _ r3 (by simp)]
      show some (HO.lst [.int (ro - 1 - (siz t : Int))]) = some (HO.lst [.int (ro - ((siz t + 1 : Nat) : Int))])
      rw [show ro - 1 - (siz t : Int) = ro - ((siz t + 1 : Nat) : Int) by omega]
    case wa => exact key _ ⟨Fr.refl _ _, s1.mono (by omega)⟩
    case wb => exact key _ ⟨Fr.refl _ _, s1.mono (by omega)⟩
  case key =>
    rintro H2 ⟨f2, s2⟩
    have r2 := f2.at_ _ _ r1 (by simpa using hne)
    refine ⟨_, rfl, _, rfl, ps, m, l, k + 1, rfl, s2, hpl, by omega, hm, by omega, fun H3 r f3 s3 g0 g9 => ⟨line_of (by simp), fun p hp => ?_⟩⟩
    have kp := Fr.new (l := []) (o := .tup [.str "key", .int r]) hp
    exact q _ (.key r) (.ref p) (f1.trans ((f2.mono (by simp)).trans ((f3.mono (by simp)).trans kp.lift))) ((s3.keep0 kp).mono (by omega)) (by show ((1 : Nat) : Int) ≤ ro; omega) (kp.at_ _ _ (f3.at_ _ _ r2 (by simpa using hne)) (by simp)) ⟨g0, g9⟩ (by show 1 ≤ dd; omega) ⟨p, rfl, upd_same⟩
theorem draw_none {b : Bool} {k : Nat} {f : Addr} {fd : FuncData} : FnOk P w K mg base CX0 k f fd ["sack", "n", "room", "deep"] (spDraw K b 0) := by
  have no : ∀ vs H Q E, ¬ spDraw K b 0 vs H Q E := fun vs H Q E h => by
    obtain ⟨ps, pr, m, ro, dI, dd, l, k, _, _, _, _, _, _, _, _, _, _, _, _, h1, h2, _⟩ := h
    omega
  exact ⟨fun vs H Q E h => absurd h (no vs H Q E), fun A outer s H args us vs Q E _ _ _ _ h => absurd h (no vs H Q E)⟩
theorem ok_draws (T : Txt K w mg) : ∀ n : Nat, FnOk P w K mg base CX0 (n + 3) T.law_term.f T.law_term.fd ["sack", "n", "room", "deep"] (spDraw K true n) ∧ FnOk P w K mg base CX0 (n + 3) T.law_place.f T.law_place.fd ["sack", "n", "room", "deep"] (spDraw K false n)
  | 0 => ⟨draw_none, draw_none⟩
  | n + 1 => ⟨ok_draw_term T (ok_draws T n).1 (ok_draws T n).2, ok_draw_place T (ok_draws T n).1⟩
theorem ok_law_term (T : Txt K w mg) : FnOk P w K mg base CX0 9 T.law_term.f T.law_term.fd ["sack", "n", "room", "deep"] (spDraw K true 6) := (ok_draws T 6).1
theorem ok_law_place (T : Txt K w mg) : FnOk P w K mg base CX0 9 T.law_place.f T.law_place.fd ["sack", "n", "room", "deep"] (spDraw K false 6) := (ok_draws T 6).2
end
end RL

/-! The drawn data: steps, deals, boards. -/
namespace RL
open PySem L2 RlR

section
variable {P : Program} {w : World} {K : PySem.W.Frag} {mg : Str → Option Value} {base : Heap}
theorem draw_new {b : Bool} {H : Hp} {ps pr : Addr} {l : List Addr} {k : Nat} {m ro : Int} {Q : VK} {E : XK} (s : Sk K H ps l k) (hpl : ps ∈ l) (hk : k ≤ 790000) (hm : 0 < m) (hm12 : m ≤ 12) (h1 : 1 ≤ ro) (h12 : ro ≤ 12) (hpr : H pr = none)
    (q : ∀ H' t v, Fr [ps] H H' → Sk K H' ps l (k + 318) → okT m b t → TAt H' t v → Q v H') : spDraw K b 6 [.ref ps, .int m, .ref pr, .int 6] (upd H pr (.lst [.int ro])) Q E := by
  have f1 := Fr.new (l := [ps]) (o := .lst [.int ro]) hpr
  have ne : pr ≠ ps := fun e => s.some (by rw [← e]; exact hpr)
  refine ⟨ps, pr, m, ro, 6, 6, pr :: l, k, rfl, rfl, (s.fresh hpr).keep0 (Fr.new hpr), List.mem_cons_of_mem _ hpl, List.mem_cons_self, ne, by show k + 318 ≤ 800000; omega, hm, hm12, upd_same, h1, h12, by omega, by omega, fun H' t v f s' z _ hw hd ha => ?_⟩
  refine q H' t v (f1.app f fun a ha => ?_) (s'.sub fun x hx => List.mem_cons_of_mem _ hx) ⟨hw, hd, by omega⟩ ha
  simp only [List.mem_cons, List.not_mem_nil, or_false] at ha
  rcases ha with rfl | rfl
  · exact .inl (by simp)
  · exact .inr hpr
def spStepD (K : PySem.W.Frag) : Sp := fun vs H Q _ => ∃ (ps : Addr) (m : Int) (l : List Addr) (k : Nat), vs = [.ref ps, .int m] ∧ Sk K H ps l k ∧ ps ∈ l ∧ k ≤ 700000 ∧ 0 < m ∧ m ≤ 12 ∧ ∀ H' s v, Fr [ps] H H' → Sk K H' ps l (k + 1000) → okS m s → SAt H' s v → Q v H'
theorem ok_law_step (T : Txt K w mg) : FnOk P w K mg base CX0 10 T.law_step.f T.law_step.fd ["sack", "n"] (spStepD K) := by
  refine T.law_step.F.ok sc_law_step (fun vs H Q E h => ?_) (fun cdv A outer s H vs Q E hr h => ?_)
  · obtain ⟨ps, m, l, k, rfl, _⟩ := h
    rfl
  obtain ⟨ps, m, l, k, rfl, hs, hpl, hk, hm, hm12, q⟩ := h
  refine ⟨_, (pss_cons (ps_set (i := 2) sc_law_step.nd rfl (by first | exact Or.inl rfl | exact Or.inr rfl) (pe_ix (ixL (K := K) rfl) (pe_lst (pa_cons pe_int (pa_cons pe_int (pa_cons pe_int (pa_cons pe_int pa_nil))))) (pe_call (ok_law_grain T) (hr.mono (by omega)) rfl T.law_grain.m T.law_grain.F.kp T.law_grain.b .nil pass0 (pa_cons (pv 0) (pa_cons pe_int pa_nil))) (fun _ _ => rfl)))
    (pss_cons (ps_set (i := 3) sc_law_step.nd rfl (by first | exact Or.inl rfl | exact Or.inr rfl) (pe_call (ok_law_grain T) (hr.mono (by omega)) rfl T.law_grain.m T.law_grain.F.kp T.law_grain.b .nil pass0 (pa_cons (pv 0) (pa_cons pe_int pa_nil))))
    (pss_cons (ps_if (pt_cmpR op_lt (pv 3) pe_int (nomark _)) (pss_cons (ps_set (i := 4) sc_law_step.nd rfl (by first | exact Or.inl rfl | exact Or.inr rfl) (pe_call (ok_law_place T) (hr.mono (by omega)) rfl T.law_place.m T.law_place.F.kp T.law_place.b .nil pass0 (pa_cons (pv 0) (pa_cons (pv 1) (pa_cons (pe_lst (pa_cons (pv 2) pa_nil)) (pa_cons pe_int pa_nil))))))
    (pss_one (ps_ret (pe_tup (pa_cons pe_str (pa_cons (pv 4) (pa_cons (pe_call (ok_law_term T) (hr.mono (by omega)) rfl T.law_term.m T.law_term.F.kp T.law_term.b .nil pass0 (pa_cons (pv 0) (pa_cons (pv 1) (pa_cons (pe_lst (pa_cons (pv 2) pa_nil)) (pa_cons pe_int pa_nil))))) pa_nil))))))) pss_nil)
    (pss_cons (ps_if (pt_cmpR op_lt (pv 3) pe_int (nomark _)) (pss_cons (ps_set (i := 5) sc_law_step.nd rfl (by first | exact Or.inl rfl | exact Or.inr rfl) (pe_call (ok_law_term T) (hr.mono (by omega)) rfl T.law_term.m T.law_term.F.kp T.law_term.b .nil pass0 (pa_cons (pv 0) (pa_cons (pv 1) (pa_cons (pe_lst (pa_cons (pv 2) pa_nil)) (pa_cons pe_int pa_nil))))))
    (pss_cons (ps_set (i := 4) sc_law_step.nd rfl (by first | exact Or.inl rfl | exact Or.inr rfl) (pe_call (ok_law_place T) (hr.mono (by omega)) rfl T.law_place.m T.law_place.F.kp T.law_place.b .nil pass0 (pa_cons (pv 0) (pa_cons (pv 1) (pa_cons (pe_lst (pa_cons (pv 2) pa_nil)) (pa_cons pe_int pa_nil))))))
    (pss_one (ps_ret (pe_tup (pa_cons pe_str (pa_cons (pv 5) (pa_cons (pv 4) (pa_cons (pe_call (ok_law_term T) (hr.mono (by omega)) rfl T.law_term.m T.law_term.F.kp T.law_term.b .nil pass0 (pa_cons (pv 0) (pa_cons (pv 1) (pa_cons (pe_lst (pa_cons (pv 2) pa_nil)) (pa_cons pe_int pa_nil))))) pa_nil))))))))) pss_nil)
    (pss_cons (ps_if (pt_cmpR op_eq (pv 3) pe_int (nomark _)) (pss_one (ps_ret (pe_tup (pa_cons pe_str (pa_cons (pe_call (ok_law_term T) (hr.mono (by omega)) rfl T.law_term.m T.law_term.F.kp T.law_term.b .nil pass0 (pa_cons (pv 0) (pa_cons (pv 1) (pa_cons (pe_lst (pa_cons (pv 2) pa_nil)) (pa_cons pe_int pa_nil))))) pa_nil))))) pss_nil)
    (pss_one (ps_ret (pe_tup (pa_cons pe_str (pa_cons (pe_call (ok_law_term T) (hr.mono (by omega)) rfl T.law_term.m T.law_term.F.kp T.law_term.b .nil pass0 (pa_cons (pv 0) (pa_cons (pv 1) (pa_cons (pe_lst (pa_cons (pv 2) pa_nil)) (pa_cons pe_int pa_nil))))) pa_nil)))))))))), ?_⟩
  refine ⟨line_of (by simp), fun D hD => ?_⟩
  have kD := Fr.new (l := [ps]) (o := .lst [.int 3, .int 5, .int 8, .int 12]) hD
  have nD : D ≠ ps := fun e => hs.some (by rw [← e]; exact hD)
  refine ⟨_, rfl, ps, 4, l, k, rfl, hs.keep0 (Fr.new hD), hpl, by omega, by decide, by decide, fun H1 r f1 s1 g0 g4 => ⟨D, _, _, _, rfl, rfl, SqL.of (f1.at_ _ _ upd_same (by simpa using nD)), atI_int (bd := [3, 5, 8, 12]) g0 g4, ?_⟩⟩
  have b := getD_all (P := fun x => 0 ≤ x ∧ x ≤ 12) [3, 5, 8, 12] r.toNat (by decide) (by decide)
  have b1 : 1 ≤ ([3, 5, 8, 12] : List Int).getD r.toNat 0 := by
    have : r = 0 ∨ r = 1 ∨ r = 2 ∨ r = 3 := by omega
    rcases this with rfl | rfl | rfl | rfl <;> decide
  generalize ([3, 5, 8, 12] : List Int).getD r.toNat 0 = ro at b b1
  have f01 := kD.trans f1
  refine ⟨_, rfl, ps, 9, l, k + 1, rfl, s1, hpl, by omega, by decide, by decide, fun H2 way f2 s2 _ _ => ?_⟩
  have f02 := f01.trans f2
  refine ⟨_, rfl, _, _, rfl, rfl, _, rfl, ifDec (fun _ => ?_) (fun _ => ?_)⟩
  · refine ⟨_, rfl, _, rfl, _, rfl, line_of (by simp), fun pr hpr => draw_new (E := E0) s2 hpl (by omega) hm hm12 b1 b.2 hpr fun H3 p v f3 s3 o3 a3 => ?_⟩
    refine ⟨_, rfl, _, rfl, _, rfl, _, rfl, line_of (by simp), fun pr2 hpr2 => draw_new (E := E0) s3 hpl (by omega) hm hm12 b1 b.2 hpr2 fun H4 t u f4 s4 o4 a4 => ⟨line_of (by simp), fun z hz => ?_⟩⟩
    have kz := Fr.new (l := []) (o := .tup [.str "put", v, u]) hz
    exact q _ (.put p t) (.ref z) ((f02.trans (f3.trans f4)).trans kz.lift) ((s4.keep0 kz).mono (by omega)) ⟨o3, o4⟩ ⟨z, v, u, rfl, upd_same, a3.keep (f4.tup.trans kz.tup), a4.keep kz.tup⟩
  · refine ⟨_, rfl, _, _, rfl, rfl, _, rfl, ifDec (fun _ => ?_) (fun _ => ?_)⟩
    · refine ⟨_, rfl, _, rfl, _, rfl, line_of (by simp), fun pr hpr => draw_new (E := E0) s2 hpl (by omega) hm hm12 b1 b.2 hpr fun H3 c v f3 s3 o3 a3 => ?_⟩
      refine ⟨_, rfl, _, rfl, _, rfl, line_of (by simp), fun pr1 hpr1 => draw_new (E := E0) s3 hpl (by omega) hm hm12 b1 b.2 hpr1 fun H4 p u f4 s4 o4 a4 => ?_⟩
      refine ⟨_, rfl, _, rfl, _, rfl, _, rfl, _, rfl, line_of (by simp), fun pr2 hpr2 => draw_new (E := E0) s4 hpl (by omega) hm hm12 b1 b.2 hpr2 fun H5 t x f5 s5 o5 a5 => ⟨line_of (by simp), fun z hz => ?_⟩⟩
      have kz := Fr.new (l := []) (o := .tup [.str "if", v, u, x]) hz
      exact q _ (.iff c p t) (.ref z) ((f02.trans (f3.trans (f4.trans f5))).trans kz.lift) ((s5.keep0 kz).mono (by omega)) ⟨o3, o4, o5⟩ ⟨z, v, u, x, rfl, upd_same, a3.keep (f4.tup.trans (f5.tup.trans kz.tup)), a4.keep (f5.tup.trans kz.tup), a5.keep kz.tup⟩
    · refine ⟨_, rfl, rfl, _, rfl, ifDec (fun _ => ?_) (fun _ => ?_)⟩
      · refine ⟨_, rfl, _, rfl, _, rfl, line_of (by simp), fun pr hpr => draw_new (E := E0) s2 hpl (by omega) hm hm12 b1 b.2 hpr fun H3 t v f3 s3 o3 a3 => ⟨line_of (by simp), fun z hz => ?_⟩⟩
        have kz := Fr.new (l := []) (o := .tup [.str "need", v]) hz
        exact q _ (.need t) (.ref z) ((f02.trans f3).trans kz.lift) ((s3.keep0 kz).mono (by omega)) o3 ⟨z, v, rfl, upd_same, a3.keep kz.tup⟩
      · refine ⟨_, rfl, _, rfl, _, rfl, line_of (by simp), fun pr hpr => draw_new (E := E0) s2 hpl (by omega) hm hm12 b1 b.2 hpr fun H3 t v f3 s3 o3 a3 => ⟨line_of (by simp), fun z hz => ?_⟩⟩
        have kz := Fr.new (l := []) (o := .tup [.str "tell", v]) hz
        exact q _ (.tell t) (.ref z) ((f02.trans f3).trans kz.lift) ((s3.keep0 kz).mono (by omega)) o3 ⟨z, v, rfl, upd_same, a3.keep kz.tup⟩

def spDealD (K : PySem.W.Frag) : Sp := fun vs H Q _ => ∃ (ps : Addr) (m : Int) (l : List Addr) (k : Nat), vs = [.ref ps, .int m] ∧ Sk K H ps l k ∧ ps ∈ l ∧ k ≤ 600000 ∧ 0 < m ∧ m ≤ 12 ∧ ∀ H' ds v, Fr [ps] H H' → Sk K H' ps l (k + 9000) → okD m ds → DAt H' ds v → Q v H'
theorem ok_law_deal (T : Txt K w mg) : FnOk P w K mg base CX0 11 T.law_deal.f T.law_deal.fd ["sack", "n"] (spDealD K) := by
  refine T.law_deal.F.ok sc_law_deal (fun vs H Q E h => ?_) (fun cdv A outer s H vs Q E hr h => ?_)
  · obtain ⟨ps, m, l, k, rfl, _⟩ := h
    rfl
  obtain ⟨ps, m, l, k, rfl, hs, hpl, hk, hm, hm12, q⟩ := h
  refine ⟨_, (pss_cons (ps_set (i := 2) sc_law_deal.nd rfl (by first | exact Or.inl rfl | exact Or.inr rfl) (pe_ix (ixL (K := K) rfl) (pe_lst (pa_cons pe_int (pa_cons pe_int (pa_cons pe_int pa_nil)))) (pe_call (ok_law_grain T) (hr.mono (by omega)) rfl T.law_grain.m T.law_grain.F.kp T.law_grain.b .nil pass0 (pa_cons (pv 0) (pa_cons pe_int pa_nil))) (fun _ _ => rfl)))
    (pss_one (ps_ret (pe_callTy (tupK (K := K) rfl) (by rfl) T.z_tuple bt_tuple (pa_cons (pe_lc rfl sc_law_deal.nd (pi_range1 rfl T.z_range (pa_cons (pe_op op_add pe_int (pe_call (ok_law_grain T) (hr.mono (by omega)) rfl T.law_grain.m T.law_grain.F.kp T.law_grain.b .nil pass0 (pa_cons (pv 0) (pa_cons (pv 2) pa_nil)))) pa_nil)) (blkOk_by (own := [("turn", 3)]) (N := ["sack", "n", "most", "turn"]) (sc := defScope s_law_deal) (by decide +kernel)) (fun _ _ _ _ _ => (pg_name (i := 3) sc_law_deal.nd rfl (by first | exact Or.inl rfl | exact Or.inr rfl))) (fun _ _ _ _ _ => pts_nil) (fun _ _ _ _ _ => (pe_call (ok_law_step T) (hr.mono (by omega)) rfl T.law_step.m T.law_step.F.kp T.law_step.b .nil pass0 (pa_cons (pv 0) (pa_cons (pv 1) pa_nil))))) pa_nil))))), ?_⟩
  refine ⟨line_of (by simp), fun D hD => ?_⟩
  have kD := Fr.new (l := [ps]) (o := .lst [.int 3, .int 5, .int 8]) hD
  have nD : D ≠ ps := fun e => hs.some (by rw [← e]; exact hD)
  refine ⟨_, rfl, ps, 3, l, k, rfl, hs.keep0 (Fr.new hD), hpl, by omega, by decide, by decide, fun H1 r f1 s1 g0 g4 => ⟨D, _, _, _, rfl, rfl, SqL.of (f1.at_ _ _ upd_same (by simpa using nD)), atI_int (bd := [3, 5, 8]) g0 g4, ?_⟩⟩
  have b1 : 3 ≤ ([3, 5, 8] : List Int).getD r.toNat 0 ∧ ([3, 5, 8] : List Int).getD r.toNat 0 ≤ 8 := by
    have : r = 0 ∨ r = 1 ∨ r = 2 := by omega
    rcases this with rfl | rfl | rfl <;> decide
  generalize ([3, 5, 8] : List Int).getD r.toNat 0 = ro at b1
  have f01 := kD.trans f1
  refine ⟨_, rfl, _, rfl, ps, ro, l, k + 1, rfl, s1, hpl, by omega, by omega, by omega, fun H2 r2 f2 s2 g20 g21 => ⟨_, _, rfl, rfl, _, rfl, by omega, by omega, fun B hB => ?_⟩⟩
  have f02 := f01.trans f2
  have nB : B ≠ ps := fun e => s2.some (by rw [← e]; exact hB)
  refine lc_it (walk_range (lo := 0) (n := (1 + r2).toNat)) (fun i H' => ∃ (ss : List S) (us : List V), Fr [ps] H2 H' ∧ Sk K H' ps (B :: l) (k + 2 + 1000 * i) ∧ H' B = some (.lst us) ∧ Paired (SAt H') ss us ∧ ss.length = i ∧ ∀ s ∈ ss, okS m s)
    ⟨[], [], Fr.new hB, (s2.fresh hB).keep0 (Fr.new hB), upd_same, .nil, rfl, by simp⟩ (fun _ _ _ _ => trivial) ?_ ?_
  · rintro i x H3 H3' hi ⟨ss, us, f3, s3, hus, hp, hl, hok⟩ ⟨rfl, rfl⟩
    refine ⟨rfl, _, rfl, _, rfl, ps, m, B :: l, _, rfl, s3, List.mem_cons_of_mem _ hpl, by omega, hm, hm12, fun H4 s v f4 s4 o4 a4 => ?_⟩
    have hus4 := f4.at_ _ _ hus (by simpa using nB)
    have hlen := hp.length
    have f5 : Fr [B] H4 (upd H4 B (.lst (us ++ [v]))) := Fr.set hus4 trivial (by simp)
    refine ⟨us, hus4, line_lt (by omega), ss ++ [s], us ++ [v], (f3.trans f4).set1 hus4 trivial hB, (s4.keep f5 (by simp) (by simpa using nB.symm)).mono (by omega), upd_same, pair_app (Paired.mapP hp fun _ _ z => z.keep (f4.tup.trans f5.tup)) (.cons (a4.keep f5.tup) .nil), by rw [List.length_append, List.length_singleton, hl], fun s' hs' => ?_⟩
    rcases List.mem_append.mp hs' with hs' | hs'
    · exact hok s' hs'
    · rw [List.mem_singleton.mp hs']
      exact o4
  · rintro H3 ⟨ss, us, f3, s3, hus, hp, hl, hok⟩
    refine ⟨B, us, rfl, .inl ⟨SqL.of hus, fun t ht => ?_⟩⟩
    have kt := Fr.new (l := []) (o := .tup us) ht
    exact q _ ss (.ref t) ((f02.trans f3).trans kt.lift) (((s3.keep0 kt).sub fun x hx => List.mem_cons_of_mem _ hx).mono (by omega)) ⟨by omega, by omega, hok⟩ ⟨t, us, rfl, upd_same, Paired.mapP hp fun _ _ z => z.keep kt.tup⟩

def spBoardD (K : PySem.W.Frag) : Sp := fun vs H Q _ => ∃ (ps : Addr) (l : List Addr) (k : Nat), vs = [.ref ps, .int 12] ∧ Sk K H ps l k ∧ ps ∈ l ∧ k ≤ 600000 ∧ ∀ H' b v, Fr [ps] H H' → Sk K H' ps l (k + 50) → okB b → BAt H' b v → Q v H'
theorem ok_law_board (T : Txt K w mg) : FnOk P w K mg base CX0 4 T.law_board.f T.law_board.fd ["sack", "most"] (spBoardD K) := by
  refine T.law_board.F.ok sc_law_board (fun vs H Q E h => ?_) (fun cdv A outer s H vs Q E hr h => ?_)
  · obtain ⟨ps, l, k, rfl, _⟩ := h
    rfl
  obtain ⟨ps, l, k, rfl, hs, hpl, hk, q⟩ := h
  refine ⟨_, (pss_one (ps_ret (pe_callTy (tupK (K := K) rfl) (by rfl) T.z_tuple bt_tuple (pa_cons (pe_lc rfl sc_law_board.nd (pi_range1 rfl T.z_range (pa_cons (pe_op op_add pe_int (pe_call (ok_law_grain T) (hr.mono (by omega)) rfl T.law_grain.m T.law_grain.F.kp T.law_grain.b .nil pass0 (pa_cons (pv 0) (pa_cons (pv 1) pa_nil)))) pa_nil)) (blkOk_by (own := [("turn", 2)]) (N := ["sack", "most", "turn"]) (sc := defScope s_law_board) (by decide +kernel)) (fun _ _ _ _ _ => (pg_name (i := 2) sc_law_board.nd rfl (by first | exact Or.inl rfl | exact Or.inr rfl))) (fun _ _ _ _ _ => pts_nil) (fun _ _ _ _ _ => (pe_call (ok_law_worth T) (hr.mono (by omega)) rfl T.law_worth.m T.law_worth.F.kp T.law_worth.b .nil pass0 (pa_cons (pv 0) pa_nil)))) pa_nil)))), ?_⟩
  refine ⟨_, rfl, _, rfl, ps, 12, l, k, rfl, hs, hpl, by omega, by decide, by decide, fun H2 r2 f2 s2 g20 g21 => ⟨_, _, rfl, rfl, _, rfl, by omega, by omega, fun B hB => ?_⟩⟩
  have nB : B ≠ ps := fun e => s2.some (by rw [← e]; exact hB)
  refine lc_it (walk_range (lo := 0) (n := (1 + r2).toNat)) (fun i H' => ∃ (b : List Int), Fr [ps] H2 H' ∧ Sk K H' ps (B :: l) (k + 1 + 2 * i) ∧ H' B = some (.lst (b.map V.int)) ∧ b.length = i ∧ ∀ x ∈ b, 0 ≤ x ∧ x ≤ 999999)
    ⟨[], Fr.new hB, (s2.fresh hB).keep0 (Fr.new hB), upd_same, rfl, by simp⟩ (fun _ _ _ _ => trivial) ?_ ?_
  · rintro i x H3 H3' hi ⟨b, f3, s3, hus, hl, hok⟩ ⟨rfl, rfl⟩
    refine ⟨rfl, _, rfl, ps, B :: l, _, rfl, s3, List.mem_cons_of_mem _ hpl, by omega, fun H4 r f4 s4 g0 g9 => ?_⟩
    have hus4 := f4.at_ _ _ hus (by simpa using nB)
    have f5 : Fr [B] H4 (upd H4 B (.lst (b.map V.int ++ [.int r]))) := Fr.set hus4 trivial (by simp)
    refine ⟨_, hus4, line_lt (by rw [List.length_map]; omega), b ++ [r], (f3.trans f4).set1 hus4 trivial hB, (s4.keep f5 (by simp) (by simpa using nB.symm)).mono (by omega), ?_, by rw [List.length_append, List.length_singleton, hl], fun s' hs' => ?_⟩
    · rw [upd_same, List.map_append]
      rfl
    rcases List.mem_append.mp hs' with hs' | hs'
    · exact hok s' hs'
    · rw [List.mem_singleton.mp hs']
      exact ⟨g0, g9⟩
  · rintro H3 ⟨b, f3, s3, hus, hl, hok⟩
    refine ⟨B, _, rfl, .inl ⟨SqL.of hus, fun t ht => ?_⟩⟩
    have kt := Fr.new (l := []) (o := .tup (b.map V.int)) ht
    exact q _ b (.ref t) ((f2.trans f3).trans kt.lift) (((s3.keep0 kt).sub fun x hx => List.mem_cons_of_mem _ hx).mono (by omega)) ⟨by omega, by omega, hok⟩ ⟨t, rfl, upd_same⟩

/-! ### what a term comes to, once more -/
theorem ok_lreck (T : Txt K w mg) {n : Nat} (G : FnOk P w K mg base CX0 (n + 2) T.law_reckon.f T.law_reckon.fd ["term", "here", "looks"] (spEv true n)) (G2 : FnOk P w K mg base CX0 (n + 2) T.law_key.f T.law_key.fd ["place", "here", "looks"] (spEv false n)) :
    FnOk P w K mg base CX0 (n + 3) T.law_reckon.f T.law_reckon.fd ["term", "here", "looks"] (spEv true (n + 1)) := by
  refine T.law_reckon.F.ok sc_law_reckon (fun vs H Q E h => ?_) (fun cdv A outer s H vs Q E hr h => ?_)
  · obtain ⟨t, v, pb, pl, bd, ls, m, rfl, _⟩ := h
    rfl
  obtain ⟨t, v, pb, pl, bd, ls, m, rfl, ha, hw, hd, hb, hl, hne, hm, h0, hz, q⟩ := h
  refine ⟨_, (pss_cons (ps_if (pt_cmpR op_eq (pe_ix (ixT (K := K) rfl) (pv 0) pe_int (fun _ _ => rfl)) pe_str (nomark _)) (pss_one (ps_ret (pe_ix (ixT (K := K) rfl) (pv 0) pe_int (fun _ _ => rfl)))) pss_nil)
    (pss_cons (ps_if (pt_cmpR op_eq (pe_ix (ixT (K := K) rfl) (pv 0) pe_int (fun _ _ => rfl)) pe_str (nomark _)) (pss_cons (ps_set (i := 3) sc_law_reckon.nd rfl (by first | exact Or.inl rfl | exact Or.inr rfl) (pe_call G2 (hr.mono (by omega)) rfl T.law_key.m T.law_key.F.kp T.law_key.b .nil pass0 (pa_cons (pe_ix (ixT (K := K) rfl) (pv 0) pe_int (fun _ _ => rfl)) (pa_cons (pv 1) (pa_cons (pv 2) pa_nil)))))
    (pss_cons (ps_expr (pe_bm PySem.F.plainAttrs_list PySem.F.slot_list_append PySem.F.type_list_append mt_append (pv 2) (pa_cons (pv 3) pa_nil)))
    (pss_one (ps_ret (pe_ix (ixL (K := K) rfl) (pv 1) (pv 3) (fun _ _ => rfl)))))) pss_nil)
    (pss_cons (ps_set (i := 4) sc_law_reckon.nd rfl (by first | exact Or.inl rfl | exact Or.inr rfl) (pe_call G (hr.mono (by omega)) rfl T.law_reckon.m T.law_reckon.F.kp T.law_reckon.b .nil pass0 (pa_cons (pe_ix (ixT (K := K) rfl) (pv 0) pe_int (fun _ _ => rfl)) (pa_cons (pv 1) (pa_cons (pv 2) pa_nil)))))
    (pss_cons (ps_set (i := 5) sc_law_reckon.nd rfl (by first | exact Or.inl rfl | exact Or.inr rfl) (pe_call G (hr.mono (by omega)) rfl T.law_reckon.m T.law_reckon.F.kp T.law_reckon.b .nil pass0 (pa_cons (pe_ix (ixT (K := K) rfl) (pv 0) pe_int (fun _ _ => rfl)) (pa_cons (pv 1) (pa_cons (pv 2) pa_nil)))))
    (pss_cons (ps_if (pt_cmpR op_eq (pe_ix (ixT (K := K) rfl) (pv 0) pe_int (fun _ _ => rfl)) pe_str (nomark _)) (pss_one (ps_ret (pe_op op_mod (pe_op op_add (pv 4) (pv 5)) pe_int))) pss_nil)
    (pss_cons (ps_if (pt_cmpR op_eq (pe_ix (ixT (K := K) rfl) (pv 0) pe_int (fun _ _ => rfl)) pe_str (nomark _)) (pss_one (ps_ret (pe_op op_mod (pe_op op_sub (pv 4) (pv 5)) pe_int))) pss_nil)
    (pss_one (ps_ret (pe_ifExp (pt_cmpR op_eq (pe_ix (ixT (K := K) rfl) (pv 0) pe_int (fun _ _ => rfl)) pe_str (nomark _)) (pe_callTy call_int1 (by rfl) T.z_int bt_int (pa_cons (pe_cmpR op_lt (pv 4) (pv 5) (nomark _)) pa_nil)) (pe_callTy call_int1 (by rfl) T.z_int bt_int (pa_cons (pe_cmpR op_eq (pv 4) (pv 5) (nomark _)) pa_nil))))))))))), ?_⟩
  cases t with
  | num c =>
    obtain ⟨p, rfl, hp⟩ := ha
    refine ⟨_, rfl, p, _, _, _, rfl, rfl, SqT.of hp, at0, rfl, _, rfl, ifD rfl ⟨_, rfl, p, _, _, _, rfl, rfl, SqT.of hp, at1, q H (Fr.refl _ _) ?_⟩⟩
    rw [show lk bd (.num c) = [] from rfl, List.append_nil]
    exact hl
  | key c => exact hw.elim
  | via t => exact hw.elim
  | look t =>
    obtain ⟨p, u, rfl, hp, hu⟩ := ha
    have hd : dep t + 1 ≤ n + 1 := hd
    have hz : ls.length + (siz t + 1) ≤ 50000 := hz
    refine ⟨_, rfl, p, _, _, _, rfl, rfl, SqT.of hp, at0, rfl, _, rfl, ifN (by decide +kernel) ?_⟩
    refine ⟨_, rfl, p, _, _, _, rfl, rfl, SqT.of hp, at0, rfl, _, rfl, ifD rfl ?_⟩
    refine ⟨_, rfl, p, _, _, _, rfl, rfl, SqT.of hp, at1, _, rfl, _, rfl, t, u, pb, pl, bd, ls, m, rfl, hu, hw, by omega, hb, hl, hne, hm, h0, by omega, fun H1 f1 h1 => ?_⟩
    have hk := lk_len bd t
    refine ⟨_, rfl, .inl ⟨rfl, _, SqL.of h1⟩, _, rfl, pl, _, _, rfl, rfl, h1, line_lt (by rw [List.length_map, List.length_append]; omega), ?_⟩
    have f2 : Fr [pl] H1 (upd H1 pl (.lst ((ls ++ lk bd t).map V.int ++ [.int (ev bd t)]))) := Fr.set h1 trivial (by simp)
    have hb2 : (upd H1 pl (.lst ((ls ++ lk bd t).map V.int ++ [.int (ev bd t)]))) pb = some (.lst (bd.map V.int)) := f2.at_ _ _ (f1.at_ _ _ hb (by simp [hne])) (by simp [hne])
    obtain ⟨k0, k1⟩ := ev_key hm h0 t hw
    refine ⟨_, rfl, _, rfl, pb, _, _, _, rfl, rfl, SqL.of hb2, atI_int k0 (by omega), q _ (f1.trans f2) ?_⟩
    rw [upd_same, show lk bd (.look t) = lk bd t ++ [ev bd t] from rfl, ← List.append_assoc, List.map_append (l₁ := ls ++ lk bd t)]
    rfl
  | two o x y =>
    obtain ⟨p, u1, u2, rfl, hp, h1, h2⟩ := ha
    have hd : max (dep x) (dep y) + 1 ≤ n + 1 := hd
    have hz : ls.length + (siz x + siz y + 1) ≤ 50000 := hz
    have hk := lk_len bd x
    refine ⟨_, rfl, p, _, _, _, rfl, rfl, SqT.of hp, at0, rfl, _, rfl, ifN (by cases o <;> decide +kernel) ?_⟩
    refine ⟨_, rfl, p, _, _, _, rfl, rfl, SqT.of hp, at0, rfl, _, rfl, ifN (by cases o <;> decide +kernel) ?_⟩
    refine ⟨_, rfl, p, _, _, _, rfl, rfl, SqT.of hp, at1, _, rfl, _, rfl, x, u1, pb, pl, bd, ls, m, rfl, h1, hw.1, by omega, hb, hl, hne, hm, h0, by omega, fun H1 f1 g1 => ?_⟩
    refine ⟨_, rfl, p, _, _, _, rfl, rfl, SqT.of (f1.tup _ _ hp), at2, _, rfl, _, rfl, y, u2, pb, pl, bd, ls ++ lk bd x, m, rfl, h2.keep f1.tup, hw.2, by omega, f1.at_ _ _ hb (by simp [hne]), g1, hne, hm, h0, by rw [List.length_append]; omega, fun H2 f2 g2 => ?_⟩
    have hp2 := f2.tup _ _ (f1.tup _ _ hp)
    have q' : Q (.int (opv o (ev bd x) (ev bd y))) H2 := q H2 (f1.trans f2) (by rw [g2, List.append_assoc]; rfl)
    cases o with
    | sum => exact ⟨_, rfl, p, _, _, _, rfl, rfl, SqT.of hp2, at0, rfl, _, rfl, ifD rfl ⟨_, rfl, _, rfl, _, _, rfl, rfl, _, _, rfl, rfl, (by show (0 : Int) < 1000000; decide), q'⟩⟩
    | less => exact ⟨_, rfl, p, _, _, _, rfl, rfl, SqT.of hp2, at0, rfl, _, rfl, ifN (by decide +kernel) ⟨_, rfl, p, _, _, _, rfl, rfl, SqT.of hp2, at0, rfl, _, rfl, ifD rfl ⟨_, rfl, _, rfl, _, _, rfl, rfl, _, _, rfl, rfl, (by show (0 : Int) < 1000000; decide), q'⟩⟩⟩
    | under =>
      refine ⟨_, rfl, p, _, _, _, rfl, rfl, SqT.of hp2, at0, rfl, _, rfl, ifN (by decide +kernel) ⟨_, rfl, p, _, _, _, rfl, rfl, SqT.of hp2, at0, rfl, _, rfl, ifN (by decide +kernel) ⟨_, rfl, p, _, _, _, rfl, rfl, SqT.of hp2, at0, rfl, _, rfl, ifD rfl ⟨_, rfl, _, rfl, _, _, rfl, rfl, .inr ⟨_, rfl, ?_⟩⟩⟩⟩⟩
      show Q (.int (if decide (ev bd x < ev bd y) = true then 1 else 0)) H2
      rw [show (if decide (ev bd x < ev bd y) = true then (1 : Int) else 0) = opv .under (ev bd x) (ev bd y) from by simp [opv]]
      exact q'
    | same =>
      refine ⟨_, rfl, p, _, _, _, rfl, rfl, SqT.of hp2, at0, rfl, _, rfl, ifN (by decide +kernel) ⟨_, rfl, p, _, _, _, rfl, rfl, SqT.of hp2, at0, rfl, _, rfl, ifN (by decide +kernel) ⟨_, rfl, p, _, _, _, rfl, rfl, SqT.of hp2, at0, rfl, _, rfl, ifN (by decide +kernel) ⟨_, rfl, _, rfl, rfl, .inr ⟨_, rfl, ?_⟩⟩⟩⟩⟩
      show Q (.int (if decide (V.int (ev bd x) = V.int (ev bd y)) = true then 1 else 0)) H2
      rw [show (if decide (V.int (ev bd x) = V.int (ev bd y)) = true then (1 : Int) else 0) = opv .same (ev bd x) (ev bd y) from by simp [opv]]
      exact q'
theorem ok_lkey (T : Txt K w mg) {n : Nat} (G : FnOk P w K mg base CX0 (n + 2) T.law_reckon.f T.law_reckon.fd ["term", "here", "looks"] (spEv true n)) :
    FnOk P w K mg base CX0 (n + 3) T.law_key.f T.law_key.fd ["place", "here", "looks"] (spEv false (n + 1)) := by
  refine T.law_key.F.ok sc_law_key (fun vs H Q E h => ?_) (fun cdv A outer s H vs Q E hr h => ?_)
  · obtain ⟨t, v, pb, pl, bd, ls, m, rfl, _⟩ := h
    rfl
  obtain ⟨t, v, pb, pl, bd, ls, m, rfl, ha, hw, hd, hb, hl, hne, hm, h0, hz, q⟩ := h
  refine ⟨_, (pss_cons (ps_if (pt_cmpR op_eq (pe_ix (ixT (K := K) rfl) (pv 0) pe_int (fun _ _ => rfl)) pe_str (nomark _)) (pss_one (ps_ret (pe_ix (ixT (K := K) rfl) (pv 0) pe_int (fun _ _ => rfl)))) pss_nil)
    (pss_one (ps_ret (pe_op op_mod (pe_call G (hr.mono (by omega)) rfl T.law_reckon.m T.law_reckon.F.kp T.law_reckon.b .nil pass0 (pa_cons (pe_ix (ixT (K := K) rfl) (pv 0) pe_int (fun _ _ => rfl)) (pa_cons (pv 1) (pa_cons (pv 2) pa_nil)))) (pe_callB (lenK (K := K) rfl) (by rfl) T.z_len bt_len (pa_cons (pv 1) pa_nil)))))), ?_⟩
  cases t with
  | num c => exact hw.elim
  | look c => exact hw.elim
  | two o a b => exact hw.elim
  | key c =>
    obtain ⟨p, rfl, hp⟩ := ha
    refine ⟨_, rfl, p, _, _, _, rfl, rfl, SqT.of hp, at0, rfl, _, rfl, ifD rfl ⟨_, rfl, p, _, _, _, rfl, rfl, SqT.of hp, at1, q H (Fr.refl _ _) ?_⟩⟩
    rw [show lk bd (.key c) = [] from rfl, List.append_nil]
    exact hl
  | via t =>
    obtain ⟨p, u, rfl, hp, hu⟩ := ha
    have hd : dep t + 1 ≤ n + 1 := hd
    have hz : ls.length + (siz t + 1) ≤ 50000 := hz
    refine ⟨_, rfl, p, _, _, _, rfl, rfl, SqT.of hp, at0, rfl, _, rfl, ifN (by decide +kernel) ?_⟩
    refine ⟨_, rfl, p, _, _, _, rfl, rfl, SqT.of hp, at1, _, rfl, _, rfl, t, u, pb, pl, bd, ls, m, rfl, hu, hw, by omega, hb, hl, hne, hm, h0, by omega, fun H1 f1 h1 => ?_⟩
    refine ⟨_, rfl, pb, _, rfl, .inl (SqL.of (f1.at_ _ _ hb (by simp [hne]))), _, _, rfl, rfl, by rw [List.length_map]; omega, ?_⟩
    show Q (.int (ev bd t % ((bd.map V.int).length : Int))) H1
    rw [List.length_map]
    exact q H1 f1 h1
theorem ok_levs (T : Txt K w mg) : ∀ n : Nat, FnOk P w K mg base CX0 (n + 2) T.law_reckon.f T.law_reckon.fd ["term", "here", "looks"] (spEv true n) ∧ FnOk P w K mg base CX0 (n + 2) T.law_key.f T.law_key.fd ["place", "here", "looks"] (spEv false n)
  | 0 => ⟨ev_none rfl, ev_none rfl⟩
  | n + 1 => ⟨ok_lreck T (ok_levs T n).1 (ok_levs T n).2, ok_lkey T (ok_levs T n).1⟩
theorem ok_law_reckon (T : Txt K w mg) : FnOk P w K mg base CX0 9 T.law_reckon.f T.law_reckon.fd ["term", "here", "looks"] (spEv true 7) := (ok_levs T 7).1
theorem ok_law_key (T : Txt K w mg) : FnOk P w K mg base CX0 9 T.law_key.f T.law_key.fd ["place", "here", "looks"] (spEv false 7) := (ok_levs T 7).2
end
end RL

/-! A deal gone through once more. -/
namespace RL
open PySem L2 RlR

theorem runD_app : ∀ (r : List S) (n : Nat) (s : List S) (d : D), runD n (r ++ s) d = runD (n + r.length) s (runD n r d)
  | [], n, s, d => rfl
  | q :: r, n, s, d => by
    show runD (n + 1) (r ++ s) (oneD n q d) = runD (n + (r.length + 1)) s (runD (n + 1) r (oneD n q d))
    rw [runD_app r (n + 1) s (oneD n q d), Nat.add_assoc, Nat.add_comm 1]
/-- an answer at v; its list none of what H0 knows -/
def AAt (H0 H : Hp) : A → V → Prop
  | .nothing n, v => ∃ p, v = .ref p ∧ H p = some (.tup [.str "nothing", .int (n : Nat)])
  | .done l, v => ∃ p q, v = .ref p ∧ H p = some (.tup [.str "done", .ref q]) ∧ H q = some (.lst (l.map V.int)) ∧ H0 q = none
  | .strange, v => ∃ p, v = .ref p ∧ H p = some (.tup [.str "strange"])
theorem AAt.keepL {H0 H H' : Hp} {l : List Addr} (f : Fr l H H') (hl : ∀ a ∈ l, H0 a ≠ none) : ∀ {a : RL.A} {v : V}, AAt H0 H a v → AAt H0 H' a v
  | .nothing _, _, ⟨p, e, h⟩ => ⟨p, e, f.tup _ _ h⟩
  | .done _, _, ⟨p, q, e, h, h', z⟩ => ⟨p, q, e, f.tup _ _ h, f.at_ _ _ h' (fun m => hl _ m z), z⟩
  | .strange, _, ⟨p, e, h⟩ => ⟨p, e, f.tup _ _ h⟩
theorem AAt.keep {H0 H H' : Hp} (f : Fr [] H H') {a : RL.A} {v : V} (h : AAt H0 H a v) : AAt H0 H' a v := h.keepL f (by simp)
theorem AAt.weak {H0 H1 H : Hp} (k : ∀ q, H1 q = none → H0 q = none) : ∀ {a : RL.A} {v : V}, AAt H1 H a v → AAt H0 H a v
  | .nothing _, _, ⟨p, e, h⟩ => ⟨p, e, h⟩
  | .done _, _, ⟨p, q, e, h, h', z⟩ => ⟨p, q, e, h, h', k _ z⟩
  | .strange, _, ⟨p, e, h⟩ => ⟨p, e, h⟩
/-- (board, answer, looks, puts) at v -/
def GaAt (H0 H : Hp) (r : List Int × A × List Int × List Int) (v : V) : Prop := ∃ p u a kl kp, v = .ref p ∧ H p = some (.tup [u, a, .ref kl, .ref kp]) ∧ BAt H r.1 u ∧ AAt H0 H r.2.1 a ∧ H kl = some (.lst (r.2.2.1.map V.int)) ∧ H kp = some (.lst (r.2.2.2.map V.int))
structure LnAt (H : Hp) (ph pk pp pt : Addr) (d : D) : Prop where
  here : H ph = some (.lst (d.here.map V.int))
  looks : H pk = some (.lst (d.looks.map V.int))
  puts : H pp = some (.lst (d.puts.map V.int))
  told : H pt = some (.lst (d.told.map V.int))
  n1 : ph ≠ pk
  n2 : ph ≠ pp
  n3 : ph ≠ pt
  n4 : pk ≠ pp
  n5 : pk ≠ pt
  n6 : pp ≠ pt
theorem LnAt.keep {H H' : Hp} {ph pk pp pt : Addr} {d : D} (h : LnAt H ph pk pp pt d) (f : Fr [] H H') : LnAt H' ph pk pp pt d :=
  ⟨f.at_ _ _ h.here (by simp), f.at_ _ _ h.looks (by simp), f.at_ _ _ h.puts (by simp), f.at_ _ _ h.told (by simp), h.n1, h.n2, h.n3, h.n4, h.n5, h.n6⟩
theorem LnAt.looked {H H' : Hp} {ph pk pp pt : Addr} {d : D} {l : List Int} (h : LnAt H ph pk pp pt d) (f : Fr [pk] H H') (e : H' pk = some (.lst (l.map V.int))) : LnAt H' ph pk pp pt { d with looks := l } :=
  ⟨f.at_ _ _ h.here (by simpa using h.n1), e, f.at_ _ _ h.puts (by simpa using h.n4.symm), f.at_ _ _ h.told (by simpa using h.n5.symm), h.n1, h.n2, h.n3, h.n4, h.n5, h.n6⟩
theorem neg1 {xs : List V} {y : V} : atI (xs ++ [y]) (-1) = some y := atI_last
theorem neg2 {xs : List V} {y z : V} : atI (xs ++ [y, z]) (-2) = some y := by
  have h : ixN (xs.length + 2) (-2) = some xs.length := by
    unfold ixN
    rw [if_neg (by omega), if_pos (by omega)]
    congr 1
    omega
  unfold atI
  rw [show (xs ++ [y, z]).length = xs.length + 2 by simp, h]
  simp
section
variable {P : Program} {w : World} {K : PySem.W.Frag} {mg : Str → Option Value} {base : Heap}
def spGoneA : Sp := fun vs H Q _ => ∃ (ds : List S) (v : V) (b : List Int) (u : V) (m : Int), vs = [v, u] ∧ DAt H ds v ∧ BAt H b u ∧ okD m ds ∧ (b.length : Int) = m ∧ 0 < m ∧ m ≤ 12 ∧ ∀ v' H', Fr [] H H' → GaAt H H' (gn ds b) v' → Q v' H'
theorem ok_law_gone (T : Txt K w mg) : FnOk P w K mg base CX0 10 T.law_gone.f T.law_gone.fd ["deal", "board"] spGoneA := by
  refine T.law_gone.F.ok sc_law_gone (fun vs H Q E h => ?_) (fun cdv A outer s H vs Q E hr h => ?_)
  · obtain ⟨ds, v, b, u, m, rfl, _⟩ := h
    rfl
  obtain ⟨ds, v, b, u, m, rfl, hd, hb, ho, hm, h0, h12, q⟩ := h
  obtain ⟨pa, us, rfl, hp, hus⟩ := id hd
  obtain ⟨pb, rfl, hpb⟩ := id hb
  have hlen := hus.length
  have ho8 := ho.2.1
  refine ⟨_, (pss_cons (ps_asg (pe_tup (pa_cons (pe_callTy (listK (K := K) rfl) (by rfl) T.z_list bt_list (pa_cons (pv 1) pa_nil)) (pa_cons (pe_lst pa_nil) (pa_cons (pe_lst pa_nil) (pa_cons (pe_lst pa_nil) pa_nil))))) (pgT (K := K) (n := 4) rfl rfl (pgs_cons (pg_name (i := 2) sc_law_gone.nd rfl (by first | exact Or.inl rfl | exact Or.inr rfl)) (pgs_cons (pg_name (i := 3) sc_law_gone.nd rfl (by first | exact Or.inl rfl | exact Or.inr rfl)) (pgs_cons (pg_name (i := 4) sc_law_gone.nd rfl (by first | exact Or.inl rfl | exact Or.inr rfl)) (pgs_cons (pg_name (i := 5) sc_law_gone.nd rfl (by first | exact Or.inl rfl | exact Or.inr rfl)) pgs_nil)))) (by rfl) (by rfl)))
    (pss_cons (ps_for PassesOwn.never rfl (piE (K := K) rfl rfl T.z_enumerate (pa_cons (pv 0) pa_nil)) (pgT (K := K) (n := 2) rfl rfl (pgs_cons (pg_name (i := 6) sc_law_gone.nd rfl (by first | exact Or.inl rfl | exact Or.inr rfl)) (pgs_cons (pg_name (i := 7) sc_law_gone.nd rfl (by first | exact Or.inl rfl | exact Or.inr rfl)) pgs_nil)) (by rfl) (by rfl)) (pss_one (ps_if (pt_cmpR op_eq (pe_ix (ixT (K := K) rfl) (pv 7) pe_int (fun _ _ => rfl)) pe_str (nomark _)) (pss_one (ps_expr (pe_bm PySem.F.plainAttrs_list PySem.F.slot_list_append PySem.F.type_list_append mt_append (pv 5) (pa_cons (pe_call (ok_law_reckon T) (hr.mono (by omega)) rfl T.law_reckon.m T.law_reckon.F.kp T.law_reckon.b .nil pass0 (pa_cons (pe_ix (ixT (K := K) rfl) (pv 7) pe_int (fun _ _ => rfl)) (pa_cons (pv 2) (pa_cons (pv 3) pa_nil)))) pa_nil)))) (pss_one (ps_if (pt_cmpR op_eq (pe_ix (ixT (K := K) rfl) (pv 7) pe_int (fun _ _ => rfl)) pe_str (nomark _)) (pss_one (ps_if (pt_cmpR op_eq (pe_call (ok_law_reckon T) (hr.mono (by omega)) rfl T.law_reckon.m T.law_reckon.F.kp T.law_reckon.b .nil pass0 (pa_cons (pe_ix (ixT (K := K) rfl) (pv 7) pe_int (fun _ _ => rfl)) (pa_cons (pv 2) (pa_cons (pv 3) pa_nil)))) pe_int (nomark _)) (pss_one (ps_ret (pe_tup (pa_cons (pv 1) (pa_cons (pe_tup (pa_cons pe_str (pa_cons (pv 6) pa_nil))) (pa_cons (pv 3) (pa_cons (pe_lst pa_nil) pa_nil))))))) pss_nil)) (pss_one (ps_if (PW.pt (pw_or (pt_cmpR op_eq (pe_ix (ixT (K := K) rfl) (pv 7) pe_int (fun _ _ => rfl)) pe_str (nomark _)) (pw_or1 (pt_cmpR op_ne (pe_call (ok_law_reckon T) (hr.mono (by omega)) rfl T.law_reckon.m T.law_reckon.F.kp T.law_reckon.b .nil pass0 (pa_cons (pe_ix (ixT (K := K) rfl) (pv 7) pe_int (fun _ _ => rfl)) (pa_cons (pv 2) (pa_cons (pv 3) pa_nil)))) pe_int (nomark _))))) (pss_cons (ps_expr (pe_bm PySem.F.plainAttrs_list PySem.F.slot_list_append PySem.F.type_list_append mt_append (pv 4) (pa_cons (pe_call (ok_law_key T) (hr.mono (by omega)) rfl T.law_key.m T.law_key.F.kp T.law_key.b .nil pass0 (pa_cons (pe_ix (ixT (K := K) rfl) (pv 7) (pe_un un_neg pe_int) (fun _ _ => rfl)) (pa_cons (pv 2) (pa_cons (pv 3) pa_nil)))) pa_nil)))
    (pss_one (ps_asg (pe_call (ok_law_reckon T) (hr.mono (by omega)) rfl T.law_reckon.m T.law_reckon.F.kp T.law_reckon.b .nil pass0 (pa_cons (pe_ix (ixT (K := K) rfl) (pv 7) (pe_un un_neg pe_int) (fun _ _ => rfl)) (pa_cons (pv 2) (pa_cons (pv 3) pa_nil)))) (pg_sub (pv 2) (pe_ix (ixL (K := K) rfl) (pv 4) (pe_un un_neg pe_int) (fun _ _ => rfl)) set_list)))) pss_nil)))))))
    (pss_one (ps_ret (pe_tup (pa_cons (pe_callTy (tupK (K := K) rfl) (by rfl) T.z_tuple bt_tuple (pa_cons (pv 2) pa_nil)) (pa_cons (pe_tup (pa_cons pe_str (pa_cons (pv 5) pa_nil))) (pa_cons (pv 3) (pa_cons (pv 4) pa_nil))))))))), ?_⟩
  refine ⟨_, rfl, pb, _, rfl, .inr (SqT.of hpb), fun ph hph => ⟨Nat.zero_le _, fun pk hpk => ⟨Nat.zero_le _, fun pp hpp => ⟨Nat.zero_le _, fun pt hpt => ⟨line_of (by simp), fun z hz => ⟨z, _, rfl, SqT.of upd_same, rfl, _, _, rfl, _, _, rfl, _, _, rfl, _, _, rfl, rfl, ?_⟩⟩⟩⟩⟩⟩
  have f1 := Fr.new (l := []) (o := .lst (b.map V.int)) hph
  have f2 := Fr.new (l := []) (o := .lst []) hpk
  have f3 := Fr.new (l := []) (o := .lst []) hpp
  have f4 := Fr.new (l := []) (o := .lst []) hpt
  have f5 := Fr.new (l := []) (o := .tup [.ref ph, .ref pk, .ref pp, .ref pt]) hz
  have a1 := (f2.trans (f3.trans (f4.trans f5))).at_ _ _ upd_same (by simp)
  have a2 := (f3.trans (f4.trans f5)).at_ _ _ upd_same (by simp)
  have a3 := (f4.trans f5).at_ _ _ upd_same (by simp)
  have a4 := f5.at_ _ _ upd_same (by simp)
  have n1 : ph ≠ pk := ne_of_none upd_same hpk
  have n2 : ph ≠ pp := ne_of_none (f2.at_ _ _ upd_same (by simp)) hpp
  have n3 : ph ≠ pt := ne_of_none ((f2.trans f3).at_ _ _ upd_same (by simp)) hpt
  have n4 : pk ≠ pp := ne_of_none upd_same hpp
  have n5 : pk ≠ pt := ne_of_none (f3.at_ _ _ upd_same (by simp)) hpt
  have n6 : pp ≠ pt := ne_of_none upd_same hpt
  have z1 : H ph = none := hph
  have z2 : H pk = none := f1.fresh hpk
  have z3 : H pp = none := (f1.trans f2).fresh hpp
  have z4 : H pt = none := (f1.trans (f2.trans f3)).fresh hpt
  have f05 := f1.trans (f2.trans (f3.trans (f4.trans f5)))
  have hN : ∀ a ∈ [ph, pk, pp, pt], a ∈ ([] : List Addr) ∨ H a = none := fun a ha => .inr (by
    simp only [List.mem_cons, List.not_mem_nil, or_false] at ha
    rcases ha with rfl | rfl | rfl | rfl <;> assumption)
  refine ⟨_, rfl, pa, us, rfl, SqT.of (f05.tup _ _ hp), for_it walk_enumT (fun i σ H' => ∃ o1 o2, σ = [some (.ref pa), some (.ref pb), some (.ref ph), some (.ref pk), some (.ref pp), some (.ref pt), o1, o2] ∧ Fr [] H H' ∧ LnAt H' ph pk pp pt (runD 0 (ds.take i) (newD b)) ∧ (runD 0 (ds.take i) (newD b)).stop = none)
    ⟨_, _, rfl, f05, ⟨a1, a2, a3, a4, n1, n2, n3, n4, n5, n6⟩, rfl⟩ (fun i σ H' _ ⟨_, _, _, f, _⟩ => SqT.of (f.tup _ _ hp)) ?_ ?_⟩
  · rintro i z σ H2 H2' hi ⟨o1, o2, rfl, g2, ln, hst⟩ ⟨U, y, y2, rfl, hU, rfl, ey, ey2⟩
    obtain rfl : V.int (i : Nat) = y := Option.some.inj ey
    have g3 : Fr [] H (upd H2 U (.tup [.int (i : Nat), y2])) := g2.trans (Fr.new hU)
    have l3 := ln.keep (Fr.new (l := []) (o := .tup [.int (i : Nat), y2]) hU)
    refine ⟨U, _, rfl, SqT.of upd_same, rfl, _, _, rfl, _, _, rfl, rfl, ?_⟩
    obtain ⟨t, ht, hty⟩ := pair_right hus ey2
    have htk : runD 0 (ds.take (i + 1)) (newD b) = oneD i t (runD 0 (ds.take i) (newD b)) := by
      rw [List.take_add_one, ht]
      show runD 0 (ds.take i ++ [t]) _ = _
      rw [runD_snoc, Nat.zero_add, List.length_take, Nat.min_eq_left (by omega)]
    have hbd := runD_bound (ds.take i) 0 (newD b) fun s hs => ho.2.2 s (List.mem_of_mem_take hs)
    have htl : (ds.take i).length ≤ 8 := by rw [List.length_take]; omega
    have e01 : (newD b).looks.length = 0 := rfl
    have e02 : (newD b).puts.length = 0 := rfl
    have e03 : (newD b).told.length = 0 := rfl
    have hml : ((runD 0 (ds.take i) (newD b)).here.length : Int) = m := by rw [runD_len]; exact hm
    have hot := ho.2.2 t (List.mem_of_getElem? ht)
    have hty3 := hty.keep g3.tup
    rw [oneD, if_pos hst] at htk
    generalize hd0 : runD 0 (ds.take i) (newD b) = d at ln l3 htk hbd hml hst
    generalize upd H2 U (.tup [.int (i : Nat), y2]) = H3 at g3 l3 hty3
    cases t with
    | tell t =>
      obtain ⟨a, x, rfl, hpa, hx⟩ := hty3
      have hz := hot.2.2
      refine ⟨_, rfl, a, _, _, _, rfl, rfl, SqT.of hpa, at0, rfl, _, rfl, ifD rfl ?_⟩
      refine ⟨_, rfl, .inl ⟨rfl, _, SqL.of l3.told⟩, _, rfl, a, _, _, _, rfl, rfl, SqT.of hpa, at1, _, rfl, _, rfl, t, x, ph, pk, d.here, d.looks, m, rfl, hx, hot.1, Nat.le_succ_of_le hot.2.1, l3.here, l3.looks, n1, hml, h0, by omega, fun H4 f4 h4 => ?_⟩
      have l4 := l3.looked f4 h4
      have ht4 := l4.told
      refine ⟨pt, _, _, rfl, rfl, ht4, line_lt (by rw [List.length_map]; show d.told.length < _; omega), ?_⟩
      have f5 : Fr [pt] H4 (upd H4 pt (.lst (d.told.map V.int ++ [.int (ev d.here t)]))) := Fr.set ht4 trivial (by simp)
      rw [htk]
      refine ⟨_, _, rfl, (g3.app (f4.mono (by simp)) hN).app (f5.mono (by simp)) hN, ⟨f5.at_ _ _ l4.here (by simpa using n3), f5.at_ _ _ l4.looks (by simpa using n5), f5.at_ _ _ l4.puts (by simpa using n6), ?_, n1, n2, n3, n4, n5, n6⟩, hst⟩
      rw [upd_same]
      show _ = some (HO.lst ((d.told ++ [ev d.here t]).map V.int))
      rw [List.map_append]
      rfl
    | need t =>
      obtain ⟨a, x, rfl, hpa, hx⟩ := hty3
      have hz := hot.2.2
      refine ⟨_, rfl, a, _, _, _, rfl, rfl, SqT.of hpa, at0, rfl, _, rfl, ifN (by decide +kernel) ?_⟩
      refine ⟨_, rfl, a, _, _, _, rfl, rfl, SqT.of hpa, at0, rfl, _, rfl, ifD rfl ?_⟩
      refine ⟨_, rfl, a, _, _, _, rfl, rfl, SqT.of hpa, at1, _, rfl, _, rfl, t, x, ph, pk, d.here, d.looks, m, rfl, hx, hot.1, Nat.le_succ_of_le hot.2.1, l3.here, l3.looks, n1, hml, h0, by omega, fun H4 f4 h4 => ⟨rfl, _, rfl, ?_⟩⟩
      have l4 := l3.looked f4 h4
      have g4 := g3.app (f4.mono (by simp)) hN
      by_cases hz0 : ev d.here t = 0
      · refine ifEq hz0 ⟨_, rfl, _, rfl, line_of (by simp), fun pn hpn => ⟨_, rfl, Nat.zero_le _, fun pe hpe => ⟨line_of (by simp), fun pz hpz => ?_⟩⟩⟩
        have k1 := Fr.new (l := []) (o := .tup [.str "nothing", .int (i : Nat)]) hpn
        have k2 := Fr.new (l := []) (o := .lst []) hpe
        have k3 := Fr.new (l := []) (o := .tup [.ref pb, .ref pn, .ref pk, .ref pe]) hpz
        have hgn : gn ds b = (b, .nothing i, d.looks ++ lk d.here t, []) := by
          have hrun : runD 0 ds (newD b) = { d with looks := d.looks ++ lk d.here t, stop := some i } := by
            conv => lhs; rw [← List.take_append_drop (i + 1) ds]
            rw [runD_app, htk]
            show runD _ _ { d with looks := d.looks ++ lk d.here t, stop := if ev d.here t = 0 then some i else d.stop } = _
            rw [if_pos hz0]
            exact runD_stop _ _ _ (by simp)
          unfold gn
          rw [hrun]
          rfl
        refine q _ _ (g4.trans (k1.trans (k2.trans k3))) ⟨pz, _, _, _, _, rfl, upd_same, ?_, ?_, ?_, ?_⟩
        · rw [hgn]
          exact hb.keep (g4.trans (k1.trans (k2.trans k3))).tup
        · rw [hgn]
          exact ⟨pn, rfl, k3.tup _ _ (k2.tup _ _ upd_same)⟩
        · rw [hgn]
          exact (k1.trans (k2.trans k3)).at_ _ _ h4 (by simp)
        · rw [hgn]
          exact k3.at_ _ _ upd_same (by simp)
      · rw [htk]
        refine ifEqN hz0 ⟨_, _, rfl, g4, ?_, ?_⟩
        · show LnAt H4 ph pk pp pt { here := d.here, looks := d.looks ++ lk d.here t, puts := d.puts, told := d.told, stop := if ev d.here t = 0 then some i else d.stop }
          rw [if_neg hz0]
          exact l4
        · show (if ev d.here t = 0 then some i else d.stop) = none
          rw [if_neg hz0]
          exact hst
    | put p t =>
      obtain ⟨a, x1, x2, rfl, hpa, hx1, hx2⟩ := hty3
      refine ⟨_, rfl, a, _, _, _, rfl, rfl, SqT.of hpa, at0, rfl, _, rfl, ifN (by decide +kernel) ?_⟩
      refine ⟨_, rfl, a, _, _, _, rfl, rfl, SqT.of hpa, at0, rfl, _, rfl, ifN (by decide +kernel) ?_⟩
      refine ⟨_, rfl, a, _, _, _, rfl, rfl, SqT.of hpa, at0, rfl, _, rfl, ifD rfl (iteT ?_)⟩
      refine ⟨_, rfl, .inl ⟨rfl, _, SqL.of l3.puts⟩, _, rfl, _, rfl, a, _, _, _, rfl, rfl, SqT.of hpa, neg2 (xs := [V.str "put"]), _, rfl, _, rfl, p, x1, ph, pk, d.here, d.looks, m, rfl, hx1, hot.1.1, Nat.le_succ_of_le hot.1.2.1, l3.here, l3.looks, n1, hml, h0, (by have := hot.1.2.2; omega), fun H5 f5 h5 => ?_⟩
      obtain ⟨k0, k1⟩ := ev_key hml h0 p hot.1.1
      have hkp := lk_len d.here p
      have hzp := hot.1.2.2
      have hzt := hot.2.2.2
      have l5 := l3.looked f5 h5
      have hp5 := l5.puts
      refine ⟨pp, _, _, rfl, rfl, hp5, line_lt (by rw [List.length_map]; show d.puts.length < _; omega), ?_⟩
      have f6 : Fr [pp] H5 (upd H5 pp (.lst (d.puts.map V.int ++ [.int (ev d.here p)]))) := Fr.set hp5 trivial (by simp)
      have hpa6 := f6.tup _ _ (f5.tup _ _ hpa)
      have hh6 := f6.at_ _ _ l5.here (by simpa using n2)
      have hk6 := f6.at_ _ _ l5.looks (by simpa using n4)
      have ht6 := f6.at_ _ _ l5.told (by simpa using n6.symm)
      have hp6 : (upd H5 pp (.lst (d.puts.map V.int ++ [.int (ev d.here p)]))) pp = some (.lst (d.puts.map V.int ++ [.int (ev d.here p)])) := upd_same
      generalize upd H5 pp (.lst (d.puts.map V.int ++ [.int (ev d.here p)])) = H6 at f6 hpa6 hh6 hk6 ht6 hp6
      refine ⟨_, rfl, _, rfl, a, _, _, _, rfl, rfl, SqT.of hpa6, neg1 (xs := [V.str "put", x1]), _, rfl, _, rfl, t, x2, ph, pk, d.here, d.looks ++ lk d.here p, m, rfl, (hx2).keep (f5.tup.trans f6.tup), hot.2.1, Nat.le_succ_of_le hot.2.2.1, hh6, hk6, n1, hml, h0, (by simp only [List.length_append]; omega), fun H7 f7 h7 => ?_⟩
      have hh7 := f7.at_ _ _ hh6 (by simpa using n1)
      have hp7 := f7.at_ _ _ hp6 (by simpa using n4.symm)
      have ht7 := f7.at_ _ _ ht6 (by simpa using n5.symm)
      refine ⟨_, rfl, _, rfl, _, rfl, pp, _, _, _, rfl, rfl, SqL.of hp7, neg1, ph, _, _, _, rfl, rfl, hh7, ixN_int k0 (by rw [List.length_map]; show ev d.here p < (d.here.length : Int); omega), ?_⟩
      have f8 : Fr [ph] H7 (upd H7 ph (.lst ((d.here.map V.int).set (ev d.here p).toNat (.int (ev d.here t))))) := Fr.set hh7 trivial (by simp)
      have g8 := (((g3.app (f5.mono (by simp)) hN).app (f6.mono (by simp)) hN).app (f7.mono (by simp)) hN).app (f8.mono (by simp)) hN
      rw [htk]
      refine ⟨_, _, rfl, g8, ⟨?_, ?_, ?_, f8.at_ _ _ ht7 (by simpa using n3.symm), n1, n2, n3, n4, n5, n6⟩, hst⟩
      · rw [upd_same, map_set]
        rfl
      · rw [f8.at_ _ _ h7 (by simpa using n1.symm)]
        show some (HO.lst ((d.looks ++ lk d.here p ++ lk d.here t).map V.int)) = some (HO.lst ((d.looks ++ (lk d.here p ++ lk d.here t)).map V.int))
        rw [List.append_assoc]
      · rw [f8.at_ _ _ hp7 (by simpa using n2.symm)]
        show _ = some (HO.lst ((d.puts ++ [ev d.here p]).map V.int))
        rw [List.map_append]
        rfl
    | iff c p t =>
      obtain ⟨a, x0, x1, x2, rfl, hpa, hx0, hx1, hx2⟩ := hty3
      have hkc := lk_len d.here c
      have hzc := hot.1.2.2
      refine ⟨_, rfl, a, _, _, _, rfl, rfl, SqT.of hpa, at0, rfl, _, rfl, ifN (by decide +kernel) ?_⟩
      refine ⟨_, rfl, a, _, _, _, rfl, rfl, SqT.of hpa, at0, rfl, _, rfl, ifN (by decide +kernel) ?_⟩
      refine ⟨_, rfl, a, _, _, _, rfl, rfl, SqT.of hpa, at0, rfl, _, rfl, ifN (by decide +kernel) ?_⟩
      refine ⟨_, rfl, a, _, _, _, rfl, rfl, SqT.of hpa, at1, _, rfl, _, rfl, c, x0, ph, pk, d.here, d.looks, m, rfl, hx0, hot.1.1, Nat.le_succ_of_le hot.1.2.1, l3.here, l3.looks, n1, hml, h0, by omega, fun H4 f4 h4 => ⟨rfl, _, rfl, ?_⟩⟩
      have l4 := l3.looked f4 h4
      have g4 := g3.app (f4.mono (by simp)) hN
      have hpa := f4.tup _ _ hpa
      have hst' := hst
      rw [htk]
      by_cases hz0 : ev d.here c = 0
      · refine ifNeN hz0 ?_
        show ∃ o1 o2, _ ∧ _ ∧ LnAt H4 ph pk pp pt (if ev d.here c = 0 then { d with looks := d.looks ++ lk d.here c } else putD p t { d with looks := d.looks ++ lk d.here c }) ∧ (if ev d.here c = 0 then { d with looks := d.looks ++ lk d.here c } else putD p t { d with looks := d.looks ++ lk d.here c } : D).stop = none
        rw [if_pos hz0]
        exact ⟨_, _, rfl, g4, l4, hst⟩
      · refine ifNe hz0 ?_
        refine ⟨_, rfl, .inl ⟨rfl, _, SqL.of l4.puts⟩, _, rfl, _, rfl, a, _, _, _, rfl, rfl, SqT.of hpa, neg2 (xs := [V.str "if", x0]), _, rfl, _, rfl, p, x1, ph, pk, d.here, (d.looks ++ lk d.here c), m, rfl, hx1.keep f4.tup, hot.2.1.1, Nat.le_succ_of_le hot.2.1.2.1, l4.here, l4.looks, n1, hml, h0, (by have := hot.2.1.2.2; simp only [List.length_append]; omega), fun H5 f5 h5 => ?_⟩
        obtain ⟨k0, k1⟩ := ev_key hml h0 p hot.2.1.1
        have hkp := lk_len d.here p
        have hzp := hot.2.1.2.2
        have hzt := hot.2.2.2.2
        have l5 := l4.looked f5 h5
        have hp5 := l5.puts
        refine ⟨pp, _, _, rfl, rfl, hp5, line_lt (by rw [List.length_map]; show d.puts.length < _; omega), ?_⟩
        have f6 : Fr [pp] H5 (upd H5 pp (.lst (d.puts.map V.int ++ [.int (ev d.here p)]))) := Fr.set hp5 trivial (by simp)
        have hpa6 := f6.tup _ _ (f5.tup _ _ hpa)
        have hh6 := f6.at_ _ _ l5.here (by simpa using n2)
        have hk6 := f6.at_ _ _ l5.looks (by simpa using n4)
        have ht6 := f6.at_ _ _ l5.told (by simpa using n6.symm)
        have hp6 : (upd H5 pp (.lst (d.puts.map V.int ++ [.int (ev d.here p)]))) pp = some (.lst (d.puts.map V.int ++ [.int (ev d.here p)])) := upd_same
        generalize upd H5 pp (.lst (d.puts.map V.int ++ [.int (ev d.here p)])) = H6 at f6 hpa6 hh6 hk6 ht6 hp6
        refine ⟨_, rfl, _, rfl, a, _, _, _, rfl, rfl, SqT.of hpa6, neg1 (xs := [V.str "if", x0, x1]), _, rfl, _, rfl, t, x2, ph, pk, d.here, (d.looks ++ lk d.here c) ++ lk d.here p, m, rfl, (hx2.keep f4.tup).keep (f5.tup.trans f6.tup), hot.2.2.1, Nat.le_succ_of_le hot.2.2.2.1, hh6, hk6, n1, hml, h0, (by simp only [List.length_append]; omega), fun H7 f7 h7 => ?_⟩
        have hh7 := f7.at_ _ _ hh6 (by simpa using n1)
        have hp7 := f7.at_ _ _ hp6 (by simpa using n4.symm)
        have ht7 := f7.at_ _ _ ht6 (by simpa using n5.symm)
        refine ⟨_, rfl, _, rfl, _, rfl, pp, _, _, _, rfl, rfl, SqL.of hp7, neg1, ph, _, _, _, rfl, rfl, hh7, ixN_int k0 (by rw [List.length_map]; show ev d.here p < (d.here.length : Int); omega), ?_⟩
        have f8 : Fr [ph] H7 (upd H7 ph (.lst ((d.here.map V.int).set (ev d.here p).toNat (.int (ev d.here t))))) := Fr.set hh7 trivial (by simp)
        have g8 := (((g4.app (f5.mono (by simp)) hN).app (f6.mono (by simp)) hN).app (f7.mono (by simp)) hN).app (f8.mono (by simp)) hN
        show ∃ o1 o2, _ ∧ _ ∧ LnAt _ ph pk pp pt (if ev d.here c = 0 then { d with looks := d.looks ++ lk d.here c } else putD p t { d with looks := d.looks ++ lk d.here c } : D) ∧ (if ev d.here c = 0 then { d with looks := d.looks ++ lk d.here c } else putD p t { d with looks := d.looks ++ lk d.here c } : D).stop = none
        rw [if_neg hz0]
        refine ⟨_, _, rfl, g8, ⟨?_, ?_, ?_, f8.at_ _ _ ht7 (by simpa using n3.symm), n1, n2, n3, n4, n5, n6⟩, hst⟩
        · rw [upd_same, map_set]
          rfl
        · rw [f8.at_ _ _ h7 (by simpa using n1.symm)]
          show some (HO.lst (((d.looks ++ lk d.here c) ++ lk d.here p ++ lk d.here t).map V.int)) = some (HO.lst (((d.looks ++ lk d.here c) ++ (lk d.here p ++ lk d.here t)).map V.int))
          rw [List.append_assoc]
        · rw [f8.at_ _ _ hp7 (by simpa using n2.symm)]
          show _ = some (HO.lst ((d.puts ++ [ev d.here p]).map V.int))
          rw [List.map_append]
          rfl
  · rintro σ H2 ⟨o1, o2, rfl, g2, ln, hst⟩
    rw [show us.length = ds.length from hlen.symm, List.take_length] at ln hst
    have hgn : gn ds b = ((runD 0 ds (newD b)).here, .done (runD 0 ds (newD b)).told, (runD 0 ds (newD b)).looks, (runD 0 ds (newD b)).puts) := by
      unfold gn outD
      rw [hst]
    refine ⟨_, rfl, ph, _, rfl, .inl ⟨SqL.of ln.here, fun pn hpn => ⟨_, rfl, line_of (by simp), fun pd hpd => ⟨_, rfl, _, rfl, line_of (by simp), fun pz hpz => ?_⟩⟩⟩⟩
    have k1 := Fr.new (l := []) (o := .tup ((runD 0 ds (newD b)).here.map V.int)) hpn
    have k2 := Fr.new (l := []) (o := .tup [.str "done", .ref pt]) hpd
    have k3 := Fr.new (l := []) (o := .tup [.ref pn, .ref pd, .ref pk, .ref pp]) hpz
    have k13 := k1.trans (k2.trans k3)
    refine q _ _ (g2.trans k13) ⟨pz, _, _, _, _, rfl, upd_same, ?_, ?_, ?_, ?_⟩
    · rw [hgn]
      exact ⟨pn, rfl, k3.tup _ _ (k2.tup _ _ upd_same)⟩
    · rw [hgn]
      exact ⟨pd, pt, rfl, k3.tup _ _ upd_same, k13.at_ _ _ ln.told (by simp), z4⟩
    · rw [hgn]
      exact k13.at_ _ _ ln.looks (by simp)
    · rw [hgn]
      exact k13.at_ _ _ ln.puts (by simp)
end
end RL

/-! Rows gone through once more; the drawn rows. -/
namespace RL
open PySem L2 RlR

theorem ans_at : ∀ (r : List Laid) (b : List Int) (j : Nat) (l : Laid), r[j]? = some l → (ans b r)[j]? = some (dl l (bat b r j)).2
  | [], _, _, _, h => by simp at h
  | q :: r, b, 0, l, h => by
    have e : q = l := Option.some.inj h
    subst e
    rfl
  | q :: r, b, j + 1, l, h => by
    show (ans (dl q b).1 r)[j]? = _
    exact ans_at r (dl q b).1 j l h
theorem dpall_ints {K : PySem.W.Frag} {H : Hp} : ∀ ns : List Int, DpAll K H (ns.map V.int) (ns.map PyData.int) ∧ PyData.canLayAll0 (ns.map PyData.int) = true ∧ PyData.depthAll (ns.map PyData.int) = 0
  | [] => ⟨.nil, by simp [PyData.canLayAll0], by simp [PyData.depthAll]⟩
  | x :: r => by
    obtain ⟨h1, h2, h3⟩ := dpall_ints (K := K) (H := H) r
    refine ⟨.cons (.int x) h1, ?_, ?_⟩
    · show PyData.canLayAll0 (PyData.int x :: r.map PyData.int) = true
      unfold PyData.canLayAll0
      rw [h2]
      simp [PyData.canLay0]
    · show PyData.depthAll (PyData.int x :: r.map PyData.int) = 0
      unfold PyData.depthAll
      rw [h3]
      simp [PyData.depth]
theorem erase_map : ∀ (ns : List Int) (k : Nat), (ns.map V.int).eraseIdx k = (ns.eraseIdx k).map V.int
  | [], _ => rfl
  | x :: r, 0 => rfl
  | x :: r, k + 1 => by
    show V.int x :: (r.map V.int).eraseIdx k = V.int x :: (r.eraseIdx k).map V.int
    rw [erase_map r k]
section
variable {P : Program} {w : World} {K : PySem.W.Frag} {mg : Str → Option Value} {base : Heap}
def spLaidA : Sp := fun vs H Q _ => ∃ (l : Laid) (v : V) (b : List Int) (u : V) (m : Int), vs = [v, u] ∧ LAt H l v ∧ BAt H b u ∧ okL m l ∧ (b.length : Int) = m ∧ 0 < m ∧ m ≤ 12 ∧ ∀ p H' u' a, Fr [] H H' → H' p = some (.tup [u', a]) → BAt H' (dl l b).1 u' → AAt H H' (dl l b).2 a → Q (.ref p) H'
theorem ok_law_laid (T : Txt K w mg) : FnOk P w K mg base CX0 11 T.law_laid.f T.law_laid.fd ["laid", "board"] spLaidA := by
  refine T.law_laid.F.ok sc_law_laid (fun vs H Q E h => ?_) (fun cdv A outer s H vs Q E hr h => ?_)
  · obtain ⟨l, v, b, u, m, rfl, _⟩ := h
    rfl
  obtain ⟨l, v, b, u, m, rfl, ⟨a, x1, x2, rfl, ha, hd, ⟨ka, rfl, hk⟩⟩, hb, ho, hm, h0, h12, q⟩ := h
  refine ⟨_, (pss_cons (ps_asg (pe_call (ok_law_gone T) (hr.mono (by omega)) rfl T.law_gone.m T.law_gone.F.kp T.law_gone.b .nil pass0 (pa_cons (pe_ix (ixT (K := K) rfl) (pv 0) pe_int (fun _ _ => rfl)) (pa_cons (pv 1) pa_nil))) (pgT (K := K) (n := 4) rfl rfl (pgs_cons (pg_name (i := 2) sc_law_laid.nd rfl (by first | exact Or.inl rfl | exact Or.inr rfl)) (pgs_cons (pg_name (i := 3) sc_law_laid.nd rfl (by first | exact Or.inl rfl | exact Or.inr rfl)) (pgs_cons (pg_name (i := 4) sc_law_laid.nd rfl (by first | exact Or.inl rfl | exact Or.inr rfl)) (pgs_cons (pg_name (i := 5) sc_law_laid.nd rfl (by first | exact Or.inl rfl | exact Or.inr rfl)) pgs_nil)))) (by rfl) (by rfl)))
    (pss_cons (ps_if (pt_not (pt_val (pe_callB (allK (K := K) rfl rfl) (by rfl) T.z_all bt_all (pa_cons (pe_lc rfl sc_law_laid.nd (piL (K := K) rfl (pe_op op_cat (pv 4) (pv 5))) (blkOk_by (own := [("key", 6)]) (N := ["laid", "board", "last", "answer", "looks", "puts", "key"]) (sc := defScope s_law_laid) (by decide +kernel)) (fun _ _ _ _ _ => (pg_name (i := 6) sc_law_laid.nd rfl (by first | exact Or.inl rfl | exact Or.inr rfl))) (fun _ _ _ _ _ => pts_nil) (fun _ _ _ _ _ => (pe_cmpR (opIn (K := K) rfl) (pv 6) (pe_ix (ixT (K := K) rfl) (pv 0) pe_int (fun _ _ => rfl)) (by rfl)))) pa_nil)))) (pss_one (ps_ret (pe_tup (pa_cons (pv 1) (pa_cons (pe_tup (pa_cons pe_str pa_nil)) pa_nil))))) pss_nil)
    (pss_one (ps_ret (pe_tup (pa_cons (pv 2) (pa_cons (pv 3) pa_nil))))))), ?_⟩
  refine ⟨_, rfl, a, _, _, _, rfl, rfl, SqT.of ha, at0, _, rfl, l.1, x1, b, u, m, rfl, hd, hb, ho.1, hm, h0, h12, fun v' H1 f1 g => ?_⟩
  obtain ⟨p, u', an, kl, kp, rfl, hp, hu', han, hkl, hkp⟩ := g
  obtain ⟨g1, g2⟩ := gn_bound (b := b) ho.1
  refine ⟨p, _, rfl, SqT.of hp, rfl, _, _, rfl, _, _, rfl, _, _, rfl, _, _, rfl, rfl, ?_⟩
  refine ⟨_, rfl, _, rfl, kl, kp, _, _, rfl, rfl, hkl, hkp, line_of (by rw [List.length_map, List.length_map]; omega), fun c hc => ?_⟩
  rw [← List.map_append]
  have k1 := Fr.new (l := []) (o := .lst (((gn l.1 b).2.2.1 ++ (gn l.1 b).2.2.2).map V.int)) hc
  have hc1 : (upd H1 c (.lst (((gn l.1 b).2.2.1 ++ (gn l.1 b).2.2.2).map V.int))) c = some (.lst (((gn l.1 b).2.2.1 ++ (gn l.1 b).2.2.2).map V.int)) := upd_same
  have hk2 := (f1.trans k1).tup _ _ hk
  have ha2 := (f1.trans k1).tup _ _ ha
  refine ⟨c, rfl, ⟨_, SqL.of hc1⟩, fun D hD => lc_map (xs := ((gn l.1 b).2.2.1 ++ (gn l.1 b).2.2.2).map V.int) walk_list hD (fun y => match y with | .int k => V.bl (decide (k ∈ l.2)) | _ => .non) (by rw [List.length_map, List.length_append]; omega) (fun H' f => SqL.of (f.at_ _ _ hc1 (by simp))) (fun _ => rfl) (fun y hy H3 f3 R r => ?_) (fun H3 f3 hl => ?_)⟩
  · obtain ⟨k, hk', rfl⟩ := List.mem_map.mp hy
    refine ⟨_, rfl, _, rfl, a, _, _, _, rfl, rfl, SqT.of (f3.tup _ _ ha2), at1, ka, _, rfl, .inr (SqT.of (f3.tup _ _ hk2)), rfl, flat_ints _, ?_⟩
    show R (.bl (inV (.int k) (l.2.map V.int))) H3
    rw [inV_int]
    exact r H3 (Fr.refl _ _)
  · have e : List.map (fun y => match y with | V.int k => V.bl (decide (k ∈ l.2)) | _ => .non) (((gn l.1 b).2.2.1 ++ (gn l.1 b).2.2.2).map V.int) = (((gn l.1 b).2.2.1 ++ (gn l.1 b).2.2.2).map fun k => decide (k ∈ l.2)).map V.bl := by
      rw [List.map_map, List.map_map]
      rfl
    rw [e] at hl
    refine ⟨D, _, rfl, SqL.of hl, _, rfl, ?_⟩
    have f03 : Fr [] H H3 := (f1.trans k1).trans f3
    have f13 : Fr [] H1 H3 := k1.trans f3
    have hall : (((gn l.1 b).2.2.1 ++ (gn l.1 b).2.2.2).map fun k => decide (k ∈ l.2)).all id = inAll l.2 ((gn l.1 b).2.2.1 ++ (gn l.1 b).2.2.2) := by
      unfold inAll
      rw [List.all_map]
      rfl
    rw [hall]
    by_cases hz : inAll l.2 ((gn l.1 b).2.2.1 ++ (gn l.1 b).2.2.2) = true
    · rw [hz]
      refine iteF ⟨_, rfl, _, rfl, line_of (by simp), fun p' hp' => ?_⟩
      have k4 := Fr.new (l := []) (o := .tup [u', an]) hp'
      refine q p' _ u' an (f03.trans k4) upd_same ?_ ?_
      · unfold dl
        rw [if_pos hz]
        exact hu'.keep (f13.trans k4).tup
      · unfold dl
        rw [if_pos hz]
        exact han.keep (f13.trans k4)
    · have hz' := hz
      rw [Bool.not_eq_true] at hz
      rw [hz]
      refine iteT ⟨_, rfl, line_of (by simp), fun ps hps => ⟨line_of (by simp), fun p' hp' => ?_⟩⟩
      have k4 := Fr.new (l := []) (o := .tup [.str "strange"]) hps
      have k5 := Fr.new (l := []) (o := .tup [u, .ref ps]) hp'
      refine q p' _ u (.ref ps) (f03.trans (k4.trans k5)) upd_same ?_ ?_
      · unfold dl
        rw [if_neg hz']
        exact hb.keep (f03.trans (k4.trans k5)).tup
      · unfold dl
        rw [if_neg hz']
        exact ⟨ps, rfl, k5.tup _ _ upd_same⟩

def spRunA : Sp := fun vs H Q _ => ∃ (r : List Laid) (v : V) (b : List Int) (u : V) (m : Int), vs = [u, v] ∧ RAt H r v ∧ BAt H b u ∧ okR m r ∧ (b.length : Int) = m ∧ 0 < m ∧ m ≤ 12 ∧
  ∀ p H' bl al us u' zs, Fr [] H H' → H' p = some (.tup [.ref bl, .ref al]) → H' bl = some (.lst (us ++ [u'])) → BAt H' (lastB b r) u' → H' al = some (.lst zs) → Paired (AAt H H') (ans b r) zs → Q (.ref p) H'
theorem ok_law_run (T : Txt K w mg) : FnOk P w K mg base CX0 12 T.law_run.f T.law_run.fd ["board", "row"] spRunA := by
  refine T.law_run.F.ok sc_law_run (fun vs H Q E h => ?_) (fun cdv A outer s H vs Q E hr h => ?_)
  · obtain ⟨r, v, b, u, m, rfl, _⟩ := h
    rfl
  obtain ⟨r, v, b, u, m, rfl, ⟨a, ws, rfl, ha, hws⟩, hb, ⟨h40, ho⟩, hm, h0, h12, q⟩ := h
  have hlen := hws.length
  refine ⟨_, (pss_cons (ps_par (i := 2) (j := 3) rfl sc_law_run.nd rfl rfl (by decide) rfl rfl (pa_cons (pe_lst (pa_cons (pv 0) pa_nil)) (pa_cons (pe_lst pa_nil) pa_nil)) (by rfl))
    (pss_cons (ps_for PassesOwn.never rfl (piT (K := K) rfl (pv 1)) (pg_name (i := 4) sc_law_run.nd rfl (by first | exact Or.inl rfl | exact Or.inr rfl)) (pss_cons (ps_asg (pe_call (ok_law_laid T) (hr.mono (by omega)) rfl T.law_laid.m T.law_laid.F.kp T.law_laid.b .nil pass0 (pa_cons (pv 4) (pa_cons (pe_ix (ixL (K := K) rfl) (pv 2) (pe_un un_neg pe_int) (fun _ _ => rfl)) pa_nil))) (pgT (K := K) (n := 2) rfl rfl (pgs_cons (pg_name (i := 5) sc_law_run.nd rfl (by first | exact Or.inl rfl | exact Or.inr rfl)) (pgs_cons (pg_name (i := 6) sc_law_run.nd rfl (by first | exact Or.inl rfl | exact Or.inr rfl)) pgs_nil)) (by rfl) (by rfl)))
    (pss_cons (ps_expr (pe_bm PySem.F.plainAttrs_list PySem.F.slot_list_append PySem.F.type_list_append mt_append (pv 2) (pa_cons (pv 5) pa_nil)))
    (pss_one (ps_expr (pe_bm PySem.F.plainAttrs_list PySem.F.slot_list_append PySem.F.type_list_append mt_append (pv 3) (pa_cons (pv 6) pa_nil)))))))
    (pss_one (ps_ret (pe_tup (pa_cons (pv 2) (pa_cons (pv 3) pa_nil))))))), ?_⟩
  refine ⟨_, rfl, line_of (by simp), fun B hB => ⟨Nat.zero_le _, fun N hN => ⟨_, _, rfl, ?_⟩⟩⟩
  have f1 : Fr [] H (upd H B (.lst [u])) := Fr.new hB
  have f2 := f1.trans (Fr.new (l := []) (o := .lst []) hN)
  have zN := f1.fresh hN
  have neBN : B ≠ N := ne_of_none upd_same hN
  have B2 := (Fr.new (l := []) (o := .lst []) hN).at_ _ _ upd_same (by simp)
  have N2 : (upd (upd H B (.lst [u])) N (.lst [])) N = some (.lst []) := upd_same
  generalize hH2 : upd (upd H B (.lst [u])) N (.lst []) = H2 at f2 B2 N2
  refine ⟨_, rfl, a, rfl, ⟨_, SqT.of (f2.tup _ _ ha)⟩, for_it walk_tup (fun i σ H' => ∃ ub o1 o2 o3 us zs, σ = [some u, some (.ref a), some (.ref B), some (.ref N), o1, o2, o3] ∧ Fr [] H H' ∧ BAt H' (bat b r i) ub ∧ H' B = some (.lst (us ++ [ub])) ∧ us.length = i ∧ H' N = some (.lst zs) ∧ Paired (AAt H2 H') ((ans b r).take i) zs ∧ Fr [B, N] H2 H')
    ⟨u, _, _, _, [], [], rfl, f2, by rw [bat_zero]; exact hb.keep f2.tup, B2, rfl, N2, .nil, Fr.refl _ _⟩ (fun i σ H' _ ⟨_, _, _, _, _, _, _, f, _⟩ => SqT.of (f.tup _ _ ha)) ?_ ?_⟩
  · rintro i x σ H3 H3' hi ⟨ub, o1, o2, o3, us, zs, rfl, f3, hub, h3, hul, h4, hzs, f23⟩ ⟨rfl, hx⟩
    obtain ⟨l, hl, hlx⟩ := pair_right hws hx
    have hbl := bat_len r b i (by omega)
    have hzl := hzs.length
    rw [List.length_take, ans_len] at hzl
    refine ⟨_, rfl, _, rfl, _, rfl, B, _, _, _, rfl, rfl, SqL.of h3, neg1, l, x, bat b r i, ub, m, rfl, hlx.keep f3.tup, hub, ho l (List.mem_of_getElem? hl), by rw [hbl]; exact hm, h0, h12, fun p H4 u' an f4 hp hu' han => ?_⟩
    have h5 := f4.at_ _ _ h3 (by simp)
    have h6 := f4.at_ _ _ h4 (by simp)
    refine ⟨p, _, rfl, SqT.of hp, rfl, _, _, rfl, _, _, rfl, rfl, ?_⟩
    refine ⟨_, rfl, .inl ⟨rfl, _, SqL.of h5⟩, _, rfl, B, _, _, rfl, rfl, h5, line_lt (by rw [List.length_append, List.length_singleton]; omega), ?_⟩
    have f5 : Fr [B] H4 (upd H4 B (.lst (us ++ [ub] ++ [u']))) := Fr.set h5 trivial (by simp)
    have h7 := f5.at_ _ _ h6 (by simpa using neBN.symm)
    refine ⟨_, rfl, .inl ⟨rfl, _, SqL.of h7⟩, _, rfl, N, _, _, rfl, rfl, h7, line_lt (by omega), ?_⟩
    have f6 : Fr [N] _ (upd (upd H4 B (.lst (us ++ [ub] ++ [u']))) N (.lst (zs ++ [an]))) := Fr.set h7 trivial (by simp)
    have f06 := ((f3.trans f4).own f5 hB).own f6 zN
    refine ⟨u', _, _, _, us ++ [ub], zs ++ [an], rfl, f06, ?_, f6.at_ _ _ upd_same (by simpa using neBN), by rw [List.length_append, List.length_singleton]; omega, upd_same, ?_, (f23.trans f4.lift).trans ((f5.mono (by simp)).trans (f6.mono (by simp)))⟩
    · rw [bat_succ r b i l hl]
      exact hu'.keep (f5.tup.trans f6.tup)
    · rw [List.take_add_one, ans_at r b i l hl]
      have hB2 : ∀ a ∈ [B], H2 a ≠ none := fun a ha => by rw [List.mem_singleton.mp ha, B2]; simp
      have hN2 : ∀ a ∈ [N], H2 a ≠ none := fun a ha => by rw [List.mem_singleton.mp ha, N2]; simp
      refine pair_app (Paired.mapP hzs fun _ _ z => ((z.keep f4).keepL f5 hB2).keepL f6 hN2) (.cons ?_ .nil)
      exact ((han.weak fun q hq => f23.fresh hq).keepL f5 hB2).keepL f6 hN2
  · rintro σ H3 ⟨ub, o1, o2, o3, us, zs, rfl, f3, hub, h3, hul, h4, hzs, f23⟩
    refine ⟨_, rfl, _, rfl, line_of (by simp), fun p hp => ?_⟩
    have f4 := Fr.new (l := []) (o := .tup [.ref B, .ref N]) hp
    refine q p _ B N us ub zs (f3.trans f4) upd_same (f4.at_ _ _ h3 (by simp)) ?_ (f4.at_ _ _ h4 (by simp)) ?_
    · rw [← bat_last, hlen]
      exact hub.keep f4.tup
    · rw [show ws.length = (ans b r).length by rw [ans_len, hlen], List.take_length] at hzs
      exact Paired.mapP hzs fun _ _ z => (z.keep f4).weak fun q hq => f2.fresh hq
end
end RL

/-! The drawn rows, owners; what is due. -/
namespace RL
open PySem L2 RlR

section
variable {P : Program} {w : World} {K : PySem.W.Frag} {mg : Str → Option Value} {base : Heap}
def spLaidOn (K : PySem.W.Frag) : Sp := fun vs H Q _ => ∃ (ps : Addr) (l : List Addr) (k : Nat) (ds : List S) (v : V) (b : List Int) (u : V) (m : Int), vs = [.ref ps, v, u] ∧ Sk K H ps l k ∧ ps ∈ l ∧ k ≤ 600000 ∧ DAt H ds v ∧ BAt H b u ∧ okD m ds ∧ (b.length : Int) = m ∧ 0 < m ∧ m ≤ 12 ∧
  ∀ H' ks v', Fr [ps] H H' → Sk K H' ps l (k + 9) → okK m ks → LAt H' (ds, ks) v' → Q v' H'
theorem ok_law_laid_on (T : Txt K w mg) : FnOk P w K mg base CX0 11 T.law_laid_on.f T.law_laid_on.fd ["sack", "deal", "board"] (spLaidOn K) := by
  refine T.law_laid_on.F.ok sc_law_laid_on (fun vs H Q E h => ?_) (fun cdv A outer s H vs Q E hr h => ?_)
  · obtain ⟨ps, l, k, ds, v, b, u, m, rfl, _⟩ := h
    rfl
  obtain ⟨ps, l, k, ds, v, b, u, m, rfl, hs, hpl, hk, hd, ⟨pb, rfl, hb⟩, ho, hm, h0, h12, q⟩ := h
  refine ⟨_, (pss_cons (ps_set (i := 3) sc_law_laid_on.nd rfl (by first | exact Or.inl rfl | exact Or.inr rfl) (pe_callB (lenK (K := K) rfl) (by rfl) T.z_len bt_len (pa_cons (pv 2) pa_nil)))
    (pss_cons (ps_asg (pe_slice (slA (K := K) rfl) (pe_call (ok_law_gone T) (hr.mono (by omega)) rfl T.law_gone.m T.law_gone.F.kp T.law_gone.b .nil pass0 (pa_cons (pv 1) (pa_cons (pv 2) pa_nil))) (po_some pe_int) po_none) (pgT (K := K) (n := 2) rfl rfl (pgs_cons (pg_name (i := 4) sc_law_laid_on.nd rfl (by first | exact Or.inl rfl | exact Or.inr rfl)) (pgs_cons (pg_name (i := 5) sc_law_laid_on.nd rfl (by first | exact Or.inl rfl | exact Or.inr rfl)) pgs_nil)) (by rfl) (by rfl)))
    (pss_cons (ps_set (i := 6) sc_law_laid_on.nd rfl (by first | exact Or.inl rfl | exact Or.inr rfl) (pe_op op_cat (pv 4) (pv 5)))
    (pss_cons (ps_for PassesOwn.never rfl (pi_range1 rfl T.z_range (pa_cons (pe_call (ok_law_grain T) (hr.mono (by omega)) rfl T.law_grain.m T.law_grain.F.kp T.law_grain.b .nil pass0 (pa_cons (pv 0) (pa_cons pe_int pa_nil))) pa_nil)) (pg_name (i := 7) sc_law_laid_on.nd rfl (by first | exact Or.inl rfl | exact Or.inr rfl)) (pss_one (ps_expr (pe_bm PySem.F.plainAttrs_list PySem.F.slot_list_append PySem.F.type_list_append mt_append (pv 6) (pa_cons (pe_call (ok_law_grain T) (hr.mono (by omega)) rfl T.law_grain.m T.law_grain.F.kp T.law_grain.b .nil pass0 (pa_cons (pv 0) (pa_cons (pv 3) pa_nil))) pa_nil)))))
    (pss_cons (ps_set (i := 8) sc_law_laid_on.nd rfl (by first | exact Or.inl rfl | exact Or.inr rfl) (pe_callB (sortedSK (K := K) (w := w) rfl rfl rfl) (by rfl) T.z_sorted bt_sorted (pa_cons (pe_callTy (setK (K := K) (w := w) rfl rfl rfl) (by rfl) T.z_set bt_set (pa_cons (pv 6) pa_nil)) pa_nil)))
    (pss_cons (ps_if (PW.pt (pw_and (pt_cmpR op_gt (pe_callB (lenK (K := K) rfl) (by rfl) T.z_len bt_len (pa_cons (pv 8) pa_nil)) pe_int (nomark _)) (pw_and1 (pt_cmpR op_eq (pe_call (ok_law_grain T) (hr.mono (by omega)) rfl T.law_grain.m T.law_grain.F.kp T.law_grain.b .nil pass0 (pa_cons (pv 0) (pa_cons pe_int pa_nil))) pe_int (nomark _))))) (pss_one (ps_expr (pe_bm PySem.F.plainAttrs_list PySem.F.slot_list_pop PySem.F.type_list_pop mt_popAt (pv 8) (pa_cons (pe_call (ok_law_grain T) (hr.mono (by omega)) rfl T.law_grain.m T.law_grain.F.kp T.law_grain.b .nil pass0 (pa_cons (pv 0) (pa_cons (pe_callB (lenK (K := K) rfl) (by rfl) T.z_len bt_len (pa_cons (pv 8) pa_nil)) pa_nil))) pa_nil)))) pss_nil)
    (pss_cons (ps_if (pt_cmpR (eqD (K := K) rfl hr.units) (pv 8) (pe_lst pa_nil) (nomark _)) (pss_one (ps_set (i := 8) sc_law_laid_on.nd rfl (by first | exact Or.inl rfl | exact Or.inr rfl) (pe_lst (pa_cons (pe_call (ok_law_grain T) (hr.mono (by omega)) rfl T.law_grain.m T.law_grain.F.kp T.law_grain.b .nil pass0 (pa_cons (pv 0) (pa_cons (pv 3) pa_nil))) pa_nil)))) pss_nil)
    (pss_one (ps_ret (pe_tup (pa_cons (pv 1) (pa_cons (pe_callTy (tupK (K := K) rfl) (by rfl) T.z_tuple bt_tuple (pa_cons (pv 8) pa_nil)) pa_nil)))))))))))), ?_⟩
  refine ⟨_, rfl, pb, _, rfl, .inr (SqT.of hb), ?_⟩
  rw [List.length_map, hm]
  refine ⟨_, rfl, _, rfl, ds, v, b, .ref pb, m, rfl, hd, ⟨pb, rfl, hb⟩, ho, hm, h0, h12, fun v' H1 f1 g => ?_⟩
  obtain ⟨p, u', an, kl, kp, rfl, hp, hu', han, hkl, hkp⟩ := g
  obtain ⟨g1, g2⟩ := gn_bound (b := b) ho
  obtain ⟨g3, g4⟩ := gn_keys ho hm h0
  refine ⟨_, rfl, p, _, rfl, SqT.of hp, fun z => absurd z.1 (show ¬ ((2 : Nat) = 0) by decide), fun _ c hc => ⟨c, _, rfl, SqT.of upd_same, rfl, _, _, rfl, _, _, rfl, rfl, ?_⟩⟩
  have k1 := Fr.new (l := []) (o := .tup (cutV [u', an, .ref kl, .ref kp] (some 2) none)) hc
  have hkl1 := k1.at_ _ _ hkl (by simp)
  have hkp1 := k1.at_ _ _ hkp (by simp)
  refine ⟨_, rfl, _, rfl, kl, kp, _, _, rfl, rfl, hkl1, hkp1, line_of (by rw [List.length_map, List.length_map]; omega), fun Y hY => ?_⟩
  rw [← List.map_append]
  have k2 := Fr.new (l := []) (o := .lst (((gn ds b).2.2.1 ++ (gn ds b).2.2.2).map V.int)) hY
  have f03 : Fr [] H _ := (f1.trans k1).trans k2
  have s3 := (((hs.keep0 f1).keep0 k1).fresh hY).keep0 k2
  have hY3 : (upd (upd H1 c (.tup (cutV [u', an, .ref kl, .ref kp] (some 2) none))) Y (.lst (((gn ds b).2.2.1 ++ (gn ds b).2.2.2).map V.int))) Y = some (.lst (((gn ds b).2.2.1 ++ (gn ds b).2.2.2).map V.int)) := upd_same
  have zY : H Y = none := f1.fresh (k1.fresh hY)
  have nY : Y ≠ ps := fun e => hs.some (by rw [← e]; exact zY)
  generalize upd (upd H1 c (.tup (cutV [u', an, .ref kl, .ref kp] (some 2) none))) Y (.lst (((gn ds b).2.2.1 ++ (gn ds b).2.2.2).map V.int)) = H3 at f03 s3 hY3
  have hin0 : ∀ k ∈ (gn ds b).2.2.1 ++ (gn ds b).2.2.2, 0 ≤ k ∧ k < m := fun k hk => (List.mem_append.mp hk).elim (g3 k) (g4 k)
  have hln0 : ((gn ds b).2.2.1 ++ (gn ds b).2.2.2).length ≤ 296 := by rw [List.length_append]; omega
  generalize (gn ds b).2.2.1 ++ (gn ds b).2.2.2 = ks0 at hY3 hin0 hln0
  refine ⟨_, rfl, ps, 3, Y :: l, k, rfl, s3, List.mem_cons_of_mem _ hpl, by omega, by decide, by decide, fun H4 t f4 s4 t0 t3 => ⟨_, rfl, by omega, by omega, ?_⟩⟩
  have hY4 := f4.at_ _ _ hY3 (by simpa using nY)
  have f04 : Fr [ps] H H4 := f03.lift.trans f4
  refine for_it (walk_range (lo := 0) (n := t.toNat)) (fun i σ H' => ∃ (ks : List Int) (o : Option V), σ = [some (.ref ps), some v, some (.ref pb), some (.int m), some (.ref kl), some (.ref kp), some (.ref Y), o, none] ∧ Fr [ps] H H' ∧ Sk K H' ps (Y :: l) (k + 1 + i) ∧ H' Y = some (.lst (ks.map V.int)) ∧ ks.length ≤ 296 + i ∧ ∀ k ∈ ks, 0 ≤ k ∧ k < m)
    ⟨ks0, none, rfl, f04, s4, hY4, hln0, hin0⟩ (fun _ _ _ _ _ => trivial) ?_ ?_
  · rintro i x σ H5 H5' hi ⟨ks, o, rfl, f5, s5, hY5, hl5, hin5⟩ ⟨rfl, rfl⟩
    refine ⟨_, rfl, .inl ⟨rfl, _, SqL.of hY5⟩, _, rfl, _, rfl, ps, m, Y :: l, _, rfl, s5, List.mem_cons_of_mem _ hpl, by omega, h0, by omega, fun H6 r f6 s6 r0 r1 => ?_⟩
    have hY6 := f6.at_ _ _ hY5 (by simpa using nY)
    refine ⟨Y, _, _, rfl, rfl, hY6, line_lt (by rw [List.length_map]; omega), ?_⟩
    have f7 : Fr [Y] H6 (upd H6 Y (.lst (ks.map V.int ++ [.int r]))) := Fr.set hY6 trivial (by simp)
    refine ⟨ks ++ [r], _, rfl, (f5.trans f6).own f7 zY, (s6.keep f7 (by simp) (by simpa using nY.symm)).mono (by omega), ?_, by rw [List.length_append, List.length_singleton]; omega, fun k hk => ?_⟩
    · rw [upd_same, List.map_append]
      rfl
    · rcases List.mem_append.mp hk with hk | hk
      · exact hin5 k hk
      · rw [List.mem_singleton.mp hk]
        exact ⟨r0, r1⟩
  · rintro σ H5 ⟨ks, o, rfl, f5, s5, hY5, hl5, hin5⟩
    refine ⟨_, rfl, Y, ks, rfl, .inl (SqL.of hY5), by omega, fun z cc hcc hz => ?_⟩
    have hc12 : cc ≤ 12 := hcc _ fun k hk => in12 (by have := hin5 k hk; omega)
    refine ⟨z, _, cc, rfl, upd_same, by omega, fun ns Sm hns hni hnl hSm => ?_⟩
    have k6 := Fr.new (l := []) (o := SetO w z (fun j => decide (j ∈ ks)) cc) hz
    have k7 := Fr.new (l := []) (o := .lst (ns.map V.int)) hSm
    have zS : H Sm = none := f5.fresh (k6.fresh hSm)
    have nS : Sm ≠ ps := fun e => hs.some (by rw [← e]; exact zS)
    have f7 : Fr [ps] H _ := (f5.trans k6.lift).trans k7.lift
    have s7 := ((s5.keep0 k6).fresh hSm).keep0 k7
    have h7 : (upd (upd H5 z (SetO w z (fun j => decide (j ∈ ks)) cc)) Sm (.lst (ns.map V.int))) Sm = some (.lst (ns.map V.int)) := upd_same
    generalize upd (upd H5 z (SetO w z (fun j => decide (j ∈ ks)) cc)) Sm (.lst (ns.map V.int)) = H7 at f7 s7 h7
    have hnin : ∀ k ∈ ns, 0 ≤ k ∧ k < m := fun k hk => hin5 k (by have := (hni k).mp hk; exact of_decide_eq_true this)
    apply useK (G := fun H8 => ∃ ns : List Int, Fr [ps] H H8 ∧ Sk K H8 ps (Sm :: Y :: l) (k + 7) ∧ H8 Sm = some (.lst (ns.map V.int)) ∧ ns.length ≤ 12 ∧ ns.Pairwise (· < ·) ∧ ∀ k ∈ ns, 0 ≤ k ∧ k < m)
    case use =>
      intro key
      refine ⟨_, rfl, Sm, _, rfl, .inl (SqL.of h7), _, _, rfl, rfl, _, rfl, ifDec (fun hl1 => ?_) (fun _ => ?_)⟩
      · rw [List.length_map] at hl1
        refine ⟨_, rfl, ps, 5, Sm :: Y :: l, _, rfl, s7, List.mem_cons_of_mem _ (List.mem_cons_of_mem _ hpl), by omega, by decide, by decide, fun H8 r f8 s8 r0 r5 => ⟨rfl, _, rfl, ifDec (fun _ => ?pa) (fun _ => ?pb)⟩⟩
        case pb => exact key H8 ⟨ns, f7.trans f8, s8.mono (by omega), f8.at_ _ _ h7 (by simpa using nS), by omega, hns, hnin⟩
        case pa =>
          have h8 := f8.at_ _ _ h7 (by simpa using nS)
          refine ⟨_, rfl, .inl ⟨rfl, _, SqL.of h8⟩, _, rfl, _, rfl, Sm, _, rfl, .inl (SqL.of h8), ps, (ns.length : Int), Sm :: Y :: l, _, by rw [List.length_map]; rfl, s8, List.mem_cons_of_mem _ (List.mem_cons_of_mem _ hpl), by omega, by omega, by omega, fun H9 r9 f9 s9 t0 t1 => ?_⟩
          have h9 := f9.at_ _ _ h8 (by simpa using nS)
          have hix := ixN_int (n := (ns.map V.int).length) t0 (by rw [List.length_map]; exact t1)
          obtain ⟨q1, q2, q3, q4⟩ := ixN_seq hix
          refine ⟨Sm, _, r9, r9.toNat, _, rfl, rfl, h9, by omega, by omega, q1, List.getElem?_eq_getElem q2, ?_⟩
          rw [erase_map]
          have f10 : Fr [Sm] H9 (upd H9 Sm (.lst ((ns.eraseIdx r9.toNat).map V.int))) := Fr.set h9 trivial (by simp)
          refine key _ ⟨ns.eraseIdx r9.toNat, ((f7.trans f8).trans f9).own f10 zS, (s9.keep f10 (by simp) (by simpa using nS.symm)).mono (by omega), upd_same, ?_, hns.sublist (List.eraseIdx_sublist _ _), fun k hk => hnin k (List.mem_of_mem_eraseIdx hk)⟩
          have := (List.eraseIdx_sublist ns r9.toNat).length_le
          omega
      · exact key H7 ⟨ns, f7, s7.mono (by omega), h7, by omega, hns, hnin⟩
    case key =>
      rintro H8 ⟨ns, f8, s8, h8, hn12, hns, hnin⟩
      have fin : ∀ (H9 : Hp) (Sn : Addr) (ns : List Int), Fr [ps] H H9 → Sk K H9 ps l (k + 9) → H9 Sn = some (.lst (ns.map V.int)) → 1 ≤ ns.length → ns.length ≤ 12 → ns.Pairwise (· < ·) → (∀ k ∈ ns, 0 ≤ k ∧ k < m) → ∀ t, H9 t = none → ∀ p, (upd H9 t (.tup (ns.map V.int))) p = none → Q (.ref p) (upd (upd H9 t (.tup (ns.map V.int))) p (.tup [v, .ref t])) := fun H9 Sn ns f9 s9 h9 n1 n12 hp hi t ht p hp' => by
        have k1 := Fr.new (l := []) (o := .tup (ns.map V.int)) ht
        have k2 := Fr.new (l := []) (o := .tup [v, .ref t]) hp'
        exact q _ ns (.ref p) (f9.trans (k1.trans k2).lift) (s9.keep0 (k1.trans k2)) ⟨n1, n12, hi, hp⟩ ⟨p, v, .ref t, rfl, upd_same, hd.keep (f9.tup.trans (k1.trans k2).tup), t, rfl, k2.tup _ _ upd_same⟩
      refine ⟨_, rfl, Nat.zero_le _, fun e he => ?_⟩
      have ke := Fr.new (l := []) (o := .lst []) he
      obtain ⟨d1, d2, d3⟩ := dpall_ints (K := K) (H := upd H8 e (.lst [])) ns
      refine ⟨.list (ns.map PyData.int), .list [], .lst (SqL.of (ke.at_ _ _ h8 (by simp))) d1, .lst (SqL.of upd_same) .nil, shaped_lst d2 (by omega), by decide +kernel, _, rfl, ?_⟩
      cases ns with
      | nil =>
        refine iteT ?_
        refine ⟨_, rfl, _, rfl, ps, m, Sm :: Y :: l, _, rfl, s8.keep0 ke, List.mem_cons_of_mem _ (List.mem_cons_of_mem _ hpl), by omega, h0, by omega, fun H9 r f9 s9 r0 r1 => ⟨line_of (by simp), fun Sn hSn => ?_⟩⟩
        have k9 := Fr.new (l := []) (o := .lst [.int r]) hSn
        refine ⟨_, rfl, _, rfl, Sn, _, rfl, .inl ⟨SqL.of upd_same, fun t ht => ⟨line_of (by simp), fun p hp' => ?_⟩⟩⟩
        exact fin _ Sn [r] ((f8.trans ke.lift).trans (f9.trans k9.lift)) (((s9.keep0 k9).sub fun x hx => List.mem_cons_of_mem _ (List.mem_cons_of_mem _ hx)).mono (by omega)) upd_same (by simp) (by simp) (by simp) (fun k hk => by rw [List.mem_singleton.mp hk]; exact ⟨r0, r1⟩) t ht p hp'
      | cons n0 ns' =>
        refine iteF ?_
        refine ⟨_, rfl, _, rfl, Sm, _, rfl, .inl ⟨SqL.of (ke.at_ _ _ h8 (by simp)), fun t ht => ⟨line_of (by simp), fun p hp' => ?_⟩⟩⟩
        exact fin _ Sm (n0 :: ns') (f8.trans ke.lift) (((s8.keep0 ke).sub fun x hx => List.mem_cons_of_mem _ (List.mem_cons_of_mem _ hx)).mono (by omega)) (ke.at_ _ _ h8 (by simp)) (by simp) hn12 hns hnin t ht p hp'

def spRowD (K : PySem.W.Frag) : Sp := fun vs H Q _ => ∃ (ps : Addr) (l : List Addr) (k : Nat) (b : List Int) (u : V) (m : Int), vs = [.ref ps, u, .int 7] ∧ Sk K H ps l k ∧ ps ∈ l ∧ k ≤ 500000 ∧ BAt H b u ∧ (b.length : Int) = m ∧ 0 < m ∧ m ≤ 12 ∧
  ∀ H' r v', Fr [ps] H H' → Sk K H' ps l (k + 60000) → okR m r → RAt H' r v' → Q v' H'
theorem ok_law_laid_row (T : Txt K w mg) : FnOk P w K mg base CX0 13 T.law_laid_row.f T.law_laid_row.fd ["sack", "board", "most"] (spRowD K) := by
  refine T.law_laid_row.F.ok sc_law_laid_row (fun vs H Q E h => ?_) (fun cdv A outer s H vs Q E hr h => ?_)
  · obtain ⟨ps, l, k, b, u, m, rfl, _⟩ := h
    rfl
  obtain ⟨ps, l, k, b, u, m, rfl, hs, hpl, hk, ⟨pb, rfl, hb⟩, hm, h0, h12, q⟩ := h
  refine ⟨_, (pss_cons (ps_set (i := 3) sc_law_laid_row.nd rfl (by first | exact Or.inl rfl | exact Or.inr rfl) (pe_lst pa_nil))
    (pss_cons (ps_set (i := 4) sc_law_laid_row.nd rfl (by first | exact Or.inl rfl | exact Or.inr rfl) (pv 1))
    (pss_cons (ps_for PassesOwn.never rfl (pi_range1 rfl T.z_range (pa_cons (pe_call (ok_law_grain T) (hr.mono (by omega)) rfl T.law_grain.m T.law_grain.F.kp T.law_grain.b .nil pass0 (pa_cons (pv 0) (pa_cons (pv 2) pa_nil))) pa_nil)) (pg_name (i := 5) sc_law_laid_row.nd rfl (by first | exact Or.inl rfl | exact Or.inr rfl)) (pss_cons (ps_set (i := 6) sc_law_laid_row.nd rfl (by first | exact Or.inl rfl | exact Or.inr rfl) (pe_call (ok_law_deal T) (hr.mono (by omega)) rfl T.law_deal.m T.law_deal.F.kp T.law_deal.b .nil pass0 (pa_cons (pv 0) (pa_cons (pe_callB (lenK (K := K) rfl) (by rfl) T.z_len bt_len (pa_cons (pv 1) pa_nil)) pa_nil))))
    (pss_cons (ps_expr (pe_bm PySem.F.plainAttrs_list PySem.F.slot_list_append PySem.F.type_list_append mt_append (pv 3) (pa_cons (pe_call (ok_law_laid_on T) (hr.mono (by omega)) rfl T.law_laid_on.m T.law_laid_on.F.kp T.law_laid_on.b .nil pass0 (pa_cons (pv 0) (pa_cons (pv 6) (pa_cons (pv 4) pa_nil)))) pa_nil)))
    (pss_one (ps_set (i := 4) sc_law_laid_row.nd rfl (by first | exact Or.inl rfl | exact Or.inr rfl) (pe_ix (ixT (K := K) rfl) (pe_call (ok_law_laid T) (hr.mono (by omega)) rfl T.law_laid.m T.law_laid.F.kp T.law_laid.b .nil pass0 (pa_cons (pe_ix (ixL (K := K) rfl) (pv 3) (pe_un un_neg pe_int) (fun _ _ => rfl)) (pa_cons (pv 4) pa_nil))) pe_int (fun _ _ => rfl)))))))
    (pss_one (ps_ret (pe_callTy (tupK (K := K) rfl) (by rfl) T.z_tuple bt_tuple (pa_cons (pv 3) pa_nil))))))), ?_⟩
  refine ⟨Nat.zero_le _, fun R hR => ?_⟩
  have k1 := Fr.new (l := []) (o := .lst []) hR
  have nR : R ≠ ps := fun e => hs.some (by rw [← e]; exact hR)
  refine ⟨_, rfl, _, rfl, _, rfl, ps, 7, R :: l, k, rfl, (hs.fresh hR).keep0 k1, List.mem_cons_of_mem _ hpl, by omega, by decide, by decide, fun H2 t f2 s2 t0 t7 => ⟨_, rfl, by omega, by omega, ?_⟩⟩
  have hR2 := f2.at_ _ _ (upd_same : (upd H R (.lst [])) R = _) (by simpa using nR)
  refine for_it (walk_range (lo := 0) (n := t.toNat)) (fun i σ H' => ∃ (r : List Laid) (us : List V) (bd : List Int) (ub : V) (o1 o2 : Option V), σ = [some (.ref ps), some (.ref pb), some (.int 7), some (.ref R), some ub, o1, o2] ∧ Fr [ps] H H' ∧ Sk K H' ps (R :: l) (k + 1 + 9020 * i) ∧ H' R = some (.lst us) ∧ Paired (LAt H') r us ∧ r.length = i ∧ (∀ l ∈ r, okL m l) ∧ BAt H' bd ub ∧ (bd.length : Int) = m)
    ⟨[], [], b, .ref pb, _, _, rfl, k1.lift.trans f2, s2, hR2, .nil, rfl, by simp, ⟨pb, rfl, f2.tup _ _ (k1.tup _ _ hb)⟩, hm⟩ (fun _ _ _ _ _ => trivial) ?_ ?_
  · rintro i x σ H3 H3' hi ⟨r, us, bd, ub, o1, o2, rfl, f3, s3, hR3, hp, hrl, hok, hbd, hbm⟩ ⟨rfl, rfl⟩
    have hb3 := f3.tup _ _ hb
    refine ⟨_, rfl, _, rfl, pb, _, rfl, .inr (SqT.of hb3), ps, m, R :: l, _, by rw [List.length_map, hm]; rfl, s3, List.mem_cons_of_mem _ hpl, by omega, h0, h12, fun H4 ds dv f4 s4 od ad => ?_⟩
    have hR4 := f4.at_ _ _ hR3 (by simpa using nR)
    refine ⟨_, rfl, .inl ⟨rfl, _, SqL.of hR4⟩, _, rfl, _, rfl, _, rfl, ps, R :: l, _, ds, dv, bd, ub, m, rfl, s4, List.mem_cons_of_mem _ hpl, by omega, ad, hbd.keep f4.tup, od, hbm, h0, h12, fun H5 ks lv f5 s5 ok5 al5 => ?_⟩
    have hR5 := f5.at_ _ _ hR4 (by simpa using nR)
    have hpl5 := hp.length
    refine ⟨R, _, _, rfl, rfl, hR5, line_lt (by omega), ?_⟩
    have f6 : Fr [R] H5 (upd H5 R (.lst (us ++ [lv]))) := Fr.set hR5 trivial (by simp)
    have s6 := s5.keep f6 (by simp) (by simpa using nR.symm)
    have hR6 : (upd H5 R (.lst (us ++ [lv]))) R = some (.lst (us ++ [lv])) := upd_same
    generalize upd H5 R (.lst (us ++ [lv])) = H6 at f6 s6 hR6
    have t46 := f4.tup.trans (f5.tup.trans f6.tup)
    refine ⟨_, rfl, _, rfl, R, _, _, _, rfl, rfl, SqL.of hR6, neg1, _, rfl, (ds, ks), lv, bd, ub, m, rfl, al5.keep f6.tup, hbd.keep t46, ⟨od, ok5⟩, hbm, h0, h12, fun p H7 u' an f7 hp7 hu7 _ => ⟨p, _, _, _, rfl, rfl, SqT.of hp7, at0, ?_⟩⟩
    refine ⟨r ++ [(ds, ks)], us ++ [lv], (dl (ds, ks) bd).1, u', _, _, rfl, ((f3.trans (f4.trans f5)).own f6 hR).trans f7.lift, (s6.keep0 f7).mono (by omega), f7.at_ _ _ hR6 (by simp), pair_app (Paired.mapP hp fun _ _ z => z.keep (t46.trans f7.tup)) (.cons (al5.keep (f6.tup.trans f7.tup)) .nil), by rw [List.length_append, List.length_singleton, hrl], fun l' hl' => ?_, hu7, by rw [dl_len]; exact hbm⟩
    rcases List.mem_append.mp hl' with hl' | hl'
    · exact hok l' hl'
    · rw [List.mem_singleton.mp hl']
      exact ⟨od, ok5⟩
  · rintro σ H3 ⟨r, us, bd, ub, o1, o2, rfl, f3, s3, hR3, hp, hrl, hok, hbd, hbm⟩
    refine ⟨_, rfl, R, us, rfl, .inl ⟨SqL.of hR3, fun z hz => ?_⟩⟩
    have kz := Fr.new (l := []) (o := .tup us) hz
    exact q _ r (.ref z) (f3.trans kz.lift) (((s3.keep0 kz).sub fun x hx => List.mem_cons_of_mem _ hx).mono (by omega)) ⟨by omega, hok⟩ ⟨z, us, rfl, upd_same, Paired.mapP hp fun _ _ y => y.keep kz.tup⟩

def spOwnersD (K : PySem.W.Frag) : Sp := fun vs H Q _ => ∃ (ps : Addr) (l : List Addr) (k : Nat) (n : Nat), vs = [.ref ps, .int (n : Nat)] ∧ Sk K H ps l k ∧ ps ∈ l ∧ k ≤ 600000 ∧ n ≤ 12 ∧
  ∀ H' os v', Fr [ps] H H' → Sk K H' ps l (k + 20) → os.length = n → (∀ g ∈ os, 0 ≤ g ∧ g ≤ 4) → BAt H' os v' → Q v' H'
theorem ok_law_owners (T : Txt K w mg) : FnOk P w K mg base CX0 3 T.law_owners.f T.law_owners.fd ["sack", "n"] (spOwnersD K) := by
  refine T.law_owners.F.ok sc_law_owners (fun vs H Q E h => ?_) (fun cdv A outer s H vs Q E hr h => ?_)
  · obtain ⟨ps, l, k, n, rfl, _⟩ := h
    rfl
  obtain ⟨ps, l, k, n, rfl, hs, hpl, hk, hn, q⟩ := h
  refine ⟨_, (pss_cons (ps_set (i := 2) sc_law_owners.nd rfl (by first | exact Or.inl rfl | exact Or.inr rfl) (pe_op op_add pe_int (pe_call (ok_law_grain T) (hr.mono (by omega)) rfl T.law_grain.m T.law_grain.F.kp T.law_grain.b .nil pass0 (pa_cons (pv 0) (pa_cons pe_int pa_nil)))))
    (pss_cons (ps_set (i := 3) sc_law_owners.nd rfl (by first | exact Or.inl rfl | exact Or.inr rfl) (pe_call (ok_law_grain T) (hr.mono (by omega)) rfl T.law_grain.m T.law_grain.F.kp T.law_grain.b .nil pass0 (pa_cons (pv 0) (pa_cons pe_int pa_nil))))
    (pss_one (ps_ret (pe_callTy (tupK (K := K) rfl) (by rfl) T.z_tuple bt_tuple (pa_cons (pe_lc rfl sc_law_owners.nd (pi_range1 rfl T.z_range (pa_cons (pv 1) pa_nil)) (blkOk_by (own := [("key", 4)]) (N := ["sack", "n", "many", "first", "key"]) (sc := defScope s_law_owners) (by decide +kernel)) (fun _ _ _ _ _ => (pg_name (i := 4) sc_law_owners.nd rfl (by first | exact Or.inl rfl | exact Or.inr rfl))) (fun _ _ _ _ _ => pts_nil) (fun _ _ _ _ _ => (pe_op op_mod (pe_op op_add (pv 3) (pe_op op_mul pe_int (pe_call (ok_law_grain T) (hr.mono (by omega)) rfl T.law_grain.m T.law_grain.F.kp T.law_grain.b .nil pass0 (pa_cons (pv 0) (pa_cons (pv 2) pa_nil))))) pe_int))) pa_nil)))))), ?_⟩
  refine ⟨_, rfl, ps, 5, l, k, rfl, hs, hpl, by omega, by decide, by decide, fun H1 m1 f1 s1 a0 a5 => ⟨_, _, rfl, rfl, ?_⟩⟩
  refine ⟨_, rfl, ps, 5, l, k + 1, rfl, s1, hpl, by omega, by decide, by decide, fun H2 fi f2 s2 b0 b5 => ?_⟩
  refine ⟨_, rfl, _, rfl, by omega, by omega, fun B hB => ?_⟩
  have nB : B ≠ ps := fun e => s2.some (by rw [← e]; exact hB)
  refine lc_it (walk_range (lo := 0) (n := (n : Int).toNat)) (fun i H' => ∃ (b : List Int), Fr [ps] H2 H' ∧ Sk K H' ps (B :: l) (k + 2 + i) ∧ H' B = some (.lst (b.map V.int)) ∧ b.length = i ∧ ∀ x ∈ b, 0 ≤ x ∧ x ≤ 4)
    ⟨[], Fr.new hB, (s2.fresh hB).keep0 (Fr.new hB), upd_same, rfl, by simp⟩ (fun _ _ _ _ => trivial) ?_ ?_
  · rintro i x H3 H3' hi ⟨b, f3, s3, hus, hl, hok⟩ ⟨rfl, rfl⟩
    refine ⟨rfl, _, rfl, _, rfl, _, rfl, ps, 1 + m1, B :: l, _, rfl, s3, List.mem_cons_of_mem _ hpl, by omega, by omega, by omega, fun H4 r f4 s4 g0 g9 => ⟨_, _, rfl, rfl, mulL (by decide) (by decide), _, _, rfl, rfl, _, _, rfl, rfl, (by show (0 : Int) < 5; decide), ?_⟩⟩
    have hus4 := f4.at_ _ _ hus (by simpa using nB)
    have b5 := modB (fi + 2 * r) (j := 5) (by decide)
    have f5 : Fr [B] H4 (upd H4 B (.lst (b.map V.int ++ [.int ((fi + 2 * r) % 5)]))) := Fr.set hus4 trivial (by simp)
    refine ⟨_, hus4, line_lt (by rw [List.length_map]; omega), b ++ [(fi + 2 * r) % 5], (f3.trans f4).set1 hus4 trivial hB, (s4.keep f5 (by simp) (by simpa using nB.symm)).mono (by omega), ?_, by rw [List.length_append, List.length_singleton, hl], fun s' hs' => ?_⟩
    · rw [upd_same, List.map_append]
      rfl
    rcases List.mem_append.mp hs' with hs' | hs'
    · exact hok s' hs'
    · rw [List.mem_singleton.mp hs']
      omega
  · rintro H3 ⟨b, f3, s3, hus, hl, hok⟩
    refine ⟨B, _, rfl, .inl ⟨SqL.of hus, fun t ht => ?_⟩⟩
    have kt := Fr.new (l := []) (o := .tup (b.map V.int)) ht
    exact q _ b (.ref t) (((f1.trans f2).trans f3).trans kt.lift) (((s3.keep0 kt).sub fun x hx => List.mem_cons_of_mem _ hx).mono (by omega)) (by omega) hok ⟨t, rfl, upd_same⟩

theorem merge_own (os bd : List Int) (h : Int) : ∀ n : Nat, mergeK [] (ownP os bd h n) = ownP os bd h n
  | 0 => rfl
  | n + 1 => by
    have ih := merge_own os bd h n
    by_cases e : os.getD n 0 = h
    · have hs : ownP os bd h (n + 1) = ownP os bd h n ++ [(ki (n : Nat), V.int (bd.getD n 0))] := by
        unfold ownP
        rw [List.range_succ, List.filter_append, List.map_append, List.filter_cons, if_pos (decide_eq_true e)]
        rfl
      conv => lhs; rw [hs]
      unfold mergeK at ih ⊢
      rw [List.foldl_append, ih]
      exact ownP_yes e
    · rw [ownP_no e]
      exact ih
def spDueD : Sp := fun vs H Q _ => ∃ (os b : List Int) (vo vb : V), vs = [vo, vb] ∧ BAt H os vo ∧ BAt H b vb ∧ os.length = b.length ∧ b.length ≤ 12 ∧
  ∀ p H' (gs : List Int) (f : Int → Addr), Fr [] H H' → H' p = some (.dK (gs.map fun g => (ki g, V.ref (f g)))) → gs.Nodup → (∀ g, g ∈ gs ↔ g ∈ os) → (∀ g ∈ gs, H' (f g) = some (.dK (ownL os b g))) → Q (.ref p) H'
theorem ok_law_due (T : Txt K w mg) : FnOk P w K mg base CX0 1 T.law_due.f T.law_due.fd ["owners", "board"] spDueD := by
  refine T.law_due.F.ok sc_law_due (fun vs H Q E h => ?_) (fun cdv A outer s H vs Q E hr h => ?_)
  · obtain ⟨os, b, vo, vb, rfl, _⟩ := h
    rfl
  obtain ⟨os, b, vo, vb, rfl, ⟨oa, rfl, hos⟩, ⟨ba, rfl, hb⟩, hol, h12, q⟩ := h
  refine ⟨_, (pss_cons (ps_set (i := 2) sc_law_due.nd rfl (by first | exact Or.inl rfl | exact Or.inr rfl) pe_dnewK)
    (pss_cons (ps_for PassesOwn.never rfl (piT (K := K) rfl (pv 0)) (pg_name (i := 3) sc_law_due.nd rfl (by first | exact Or.inl rfl | exact Or.inr rfl)) (pss_one (ps_dput (hu_of hr) (pv 2) (pv 3) (pe_callTy (dictPK (K := K) rfl rfl) (by rfl) T.z_dict bt_dict (pa_cons (pe_lc rfl sc_law_due.nd (pi_range1 rfl T.z_range (pa_cons (pe_callB (lenK (K := K) rfl) (by rfl) T.z_len bt_len (pa_cons (pv 1) pa_nil)) pa_nil)) (blkOk_by (own := [("key", 4)]) (N := ["owners", "board", "found", "house", "key"]) (sc := defScope s_law_due) (by decide +kernel)) (fun _ _ _ _ _ => (pg_name (i := 4) sc_law_due.nd rfl (by first | exact Or.inl rfl | exact Or.inr rfl))) (fun _ _ _ _ _ => (pts_one (pt_cmpR op_eq (pe_ix (ixT (K := K) rfl) (pv 0) (pv 4) (fun _ _ => rfl)) (pv 3) (nomark _)))) (fun _ _ _ _ _ => (pe_tup (pa_cons (pv 4) (pa_cons (pe_ix (ixT (K := K) rfl) (pv 1) (pv 4) (fun _ _ => rfl)) pa_nil))))) pa_nil)) rfl)))
    (pss_one (ps_ret (pv 2))))), ?_⟩
  refine fun F hF => ?_
  have kF := Fr.new (l := []) (o := .dK []) hF
  refine ⟨_, rfl, oa, rfl, ⟨_, SqT.of (kF.tup _ _ hos)⟩, for_it (walk_tup (xs := os.map V.int)) (fun i σ H' => ∃ (gs : List Int) (f : Int → Addr) (o1 o2 : Option V), σ = [some (.ref oa), some (.ref ba), some (.ref F), o1, o2] ∧ Fr [] H H' ∧ H' F = some (.dK (gs.map fun g => (ki g, V.ref (f g)))) ∧ gs.length ≤ i ∧ gs.Nodup ∧ (∀ g, g ∈ gs ↔ g ∈ os.take i) ∧ ∀ g ∈ gs, H' (f g) = some (.dK (ownL os b g)) ∧ f g ≠ F)
    ⟨[], fun _ => F, _, _, rfl, kF, upd_same, Nat.le_refl _, List.nodup_nil, fun g => by simp, by simp⟩ (fun i σ H' _ ⟨_, _, _, _, _, f, _⟩ => SqT.of (f.tup _ _ hos)) ?_ ?_⟩
  · rintro i y σ H1 H1' hi ⟨gs, f, o1, o2, rfl, f1, hF1, hgl, hnd, hin, hall⟩ ⟨rfl, hy⟩
    rw [List.getElem?_map, Option.map_eq_some_iff] at hy
    obtain ⟨h, hhi, rfl⟩ := hy
    rw [List.length_map] at hi
    have hb1 := f1.tup _ _ hb
    have hos1 := f1.tup _ _ hos
    refine ⟨_, rfl, ba, _, rfl, .inr (SqT.of hb1), _, rfl, by rw [List.length_map]; omega, by rw [List.length_map]; omega, fun D hD => ?_⟩
    refine lc_it (walk_range (lo := 0) (n := (b.map V.int).length)) (fun n H' => ∃ ps : List Addr, Fr [] H1' H' ∧ H' D = some (.lst (ps.map V.ref)) ∧ Paired (fun p (kv : Key × V) => H' p = some (.tup [kV kv.1, kv.2])) ps (ownP os b h n))
      ⟨[], Fr.new hD, upd_same, .nil⟩ (fun _ _ _ _ => trivial) ?_ ?_
    · rintro n x H2 H2' hn ⟨ps, f2, hD2, hp2⟩ ⟨rfl, rfl⟩
      rw [List.length_map] at hn
      have en : (0 + (n : Int)).toNat = n := by omega
      refine ⟨rfl, _, rfl, _, rfl, oa, _, _, _, rfl, rfl, SqT.of (f2.tup _ _ hos1), atI_int (k := 0 + (n : Int)) (by omega) (by omega), _, rfl, rfl, _, rfl, ?_⟩
      rw [en]
      refine ifDec (fun e => ?_) (fun e => ⟨ps, f2, hD2, by rw [ownP_no fun z => e (by rw [z])]; exact hp2⟩)
      refine ⟨_, rfl, _, rfl, _, rfl, ba, _, _, _, rfl, rfl, SqT.of (f2.tup _ _ hb1), atI_int (k := 0 + (n : Int)) (by omega) (by omega), line_of (by simp), fun t ht => ?_⟩
      rw [en]
      have kt := Fr.new (l := []) (o := .tup [.int (0 + (n : Int)), .int (b.getD n 0)]) ht
      have hD3 := kt.at_ _ _ hD2 (by simp)
      have hpl := hp2.length
      have hpl2 := ownP_len os b h n
      refine ⟨_, hD3, line_lt (by rw [List.length_map]; omega), ps ++ [t], (f2.trans kt).set1 hD3 trivial hD, by rw [upd_same, List.map_append]; rfl, ?_⟩
      have f4 : Fr [D] _ (upd (upd H2' t (.tup [.int (0 + (n : Int)), .int (b.getD n 0)])) D (.lst (ps.map V.ref ++ [.ref t]))) := Fr.set hD3 trivial (by simp)
      have hs : ownP os b h (n + 1) = ownP os b h n ++ [(ki (n : Nat), V.int (b.getD n 0))] := by
        unfold ownP
        rw [List.range_succ, List.filter_append, List.map_append, List.filter_cons, if_pos (decide_eq_true (V.int.inj e))]
        rfl
      rw [hs]
      refine pair_app (Paired.mapP hp2 fun _ _ z => f4.tup _ _ (kt.tup _ _ z)) (.cons ?_ .nil)
      rw [f4.tup _ _ upd_same]
      show some (HO.tup [.int (0 + (n : Int)), .int (b.getD n 0)]) = some (HO.tup [.int (n : Int), .int (b.getD n 0)])
      rw [Int.zero_add]
    · rintro H2 ⟨ps, f2, hD2, hp2⟩
      rw [List.length_map] at hp2
      refine ⟨D, ps, _, rfl, SqL.of hD2, Paired.mapP hp2 fun _ _ z => SqT.of z, fun z hz => ?_⟩
      rw [merge_own]
      have eo : ownP os b h b.length = ownL os b h := by rw [← hol]; rfl
      rw [eo]
      have k3 := Fr.new (l := []) (o := .dK (ownL os b h)) hz
      have hF3 := k3.at_ _ _ (f2.at_ _ _ hF1 (by simp)) (by simp)
      have nzF : z ≠ F := (ne_of_none (f2.at_ _ _ hF1 (by simp)) hz).symm
      refine ⟨_, rfl, _, rfl, F, _, rfl, DPut.k (k := ki h) hF3 (line_lt (by rw [List.length_map]; omega)), ?_⟩
      have k4 : Fr [F] _ (upd (upd H2 z (.dK (ownL os b h))) F (.dK (putK (gs.map fun g => (ki g, V.ref (f g))) (ki h) (.ref z)))) := Fr.set hF3 trivial (by simp)
      have f04 := ((f1.trans f2).trans k3).own k4 hF
      have hz4 := k4.at_ _ _ (upd_same : (upd H2 z (.dK (ownL os b h))) z = _) (by simpa using nzF)
      have old : ∀ g ∈ gs, (upd (upd H2 z (.dK (ownL os b h))) F (.dK (putK (gs.map fun g => (ki g, V.ref (f g))) (ki h) (.ref z)))) (f g) = some (.dK (ownL os b g)) ∧ f g ≠ F := fun g hg => by
        obtain ⟨e1, e2⟩ := hall g hg
        exact ⟨k4.at_ _ _ (k3.at_ _ _ (f2.at_ _ _ e1 (by simp)) (by simp)) (by simpa using e2), e2⟩
      by_cases hg : h ∈ gs
      · refine ⟨gs, fun g => if g = h then z else f g, _, _, rfl, f04, ?_, by omega, hnd, fun g => ?_, fun g hgg => ?_⟩
        · rw [upd_same, putK_at (by rw [valV_mapK, if_pos hg]; rfl), List.map_map]
          congr 2
          refine List.map_congr_left fun g _ => ?_
          show (if ki g = ki h then (ki g, V.ref z) else (ki g, V.ref (f g))) = (ki g, V.ref (if g = h then z else f g))
          by_cases e : g = h
          · rw [if_pos (by rw [e]), if_pos e]
          · rw [if_neg fun y => e (Sum.inl.inj y), if_neg e]
        · rw [hin, List.take_add_one, hhi, List.mem_append]
          refine ⟨.inl, fun y => y.elim id fun y => ?_⟩
          have : g = h := by simpa using y
          rw [this]
          exact (hin h).mp hg
        · dsimp only
          by_cases e : g = h
          · subst e
            rw [if_pos rfl]
            exact ⟨hz4, nzF⟩
          · rw [if_neg e]
            exact old g hgg
      · refine ⟨gs ++ [h], fun g => if g = h then z else f g, _, _, rfl, f04, ?_, by rw [List.length_append, List.length_singleton]; omega, ?_, fun g => ?_, fun g hgg => ?_⟩
        · rw [upd_same, putK_new _ (by rw [valV_mapK, if_neg hg]), List.map_append]
          congr 3
          · refine List.map_congr_left fun g hg' => ?_
            show (ki g, V.ref (f g)) = (ki g, V.ref (if g = h then z else f g))
            rw [if_neg fun e => hg (by rw [← e]; exact hg')]
          · show _ = [(ki h, V.ref (if h = h then z else f h))]
            rw [if_pos rfl]
        · rw [List.nodup_append]
          exact ⟨hnd, by simp, fun a ha c hc e => hg (by rw [← List.mem_singleton.mp hc, ← e]; exact ha)⟩
        · rw [List.mem_append, hin, List.take_add_one, hhi, List.mem_append]
          simp
        · dsimp only
          by_cases e : g = h
          · subst e
            rw [if_pos rfl]
            exact ⟨hz4, nzF⟩
          · rw [if_neg e]
            exact old g ((List.mem_append.mp hgg).resolve_right fun y => e (List.mem_singleton.mp y))
  · rintro σ H1 ⟨gs, f, o1, o2, rfl, f1, hF1, hgl, hnd, hin, hall⟩
    rw [List.length_map, List.take_length] at hin
    exact ⟨_, rfl, q F H1 gs f f1 hF1 hnd hin fun g hg => (hall g hg).1⟩
end
end RL

/-! The law. -/
namespace RL
open PySem L2 RlR

theorem bat_take : ∀ (r : List Laid) (b : List Int) (j : Nat), j ≤ r.length → bat b r j = lastB b (r.take j)
  | [], b, 0, _ => rfl
  | l :: r, b, 0, _ => rfl
  | l :: r, b, j + 1, h => by
    show bat (dl l b).1 r j = lastB (dl l b).1 (r.take j)
    exact bat_take r (dl l b).1 j (Nat.le_of_succ_le_succ h)
theorem keepL_snoc : ∀ (r : List Laid) (b : List Int) (l : Laid), keepL b (r ++ [l]) = keepL b r ++ (if (dl l (lastB b r)).2 = .strange then [] else [l])
  | [], b, l => rfl
  | q :: r, b, l => by
    have ih := keepL_snoc r (dl q b).1 l
    show (if (dl q b).2 = .strange then keepL (dl q b).1 (r ++ [l]) else q :: keepL (dl q b).1 (r ++ [l])) = (if (dl q b).2 = .strange then keepL (dl q b).1 r else q :: keepL (dl q b).1 r) ++ (if (dl l (lastB (dl q b).1 r)).2 = .strange then [] else [l])
    rw [ih]
    by_cases h : (dl q b).2 = .strange
    · rw [if_pos h, if_pos h]
    · rw [if_neg h, if_neg h]
      rfl
theorem keepL_sub : ∀ (r : List Laid) (b : List Int), (keepL b r).length ≤ r.length ∧ ∀ l ∈ keepL b r, l ∈ r
  | [], _ => ⟨Nat.le_refl _, fun l h => h⟩
  | q :: r, b => by
    obtain ⟨h1, h2⟩ := keepL_sub r (dl q b).1
    show (if (dl q b).2 = .strange then keepL (dl q b).1 r else q :: keepL (dl q b).1 r).length ≤ r.length + 1 ∧ ∀ l ∈ (if (dl q b).2 = .strange then keepL (dl q b).1 r else q :: keepL (dl q b).1 r), l ∈ q :: r
    split
    · exact ⟨by omega, fun l hl => List.mem_cons_of_mem _ (h2 l hl)⟩
    · refine ⟨by rw [List.length_cons]; omega, fun l hl => ?_⟩
      rcases List.mem_cons.mp hl with rfl | hl
      · exact List.mem_cons_self
      · exact List.mem_cons_of_mem _ (h2 l hl)
theorem okR.keepL {m : Int} {r : List Laid} {b : List Int} (h : okR m r) : okR m (RL.keepL b r) := ⟨Nat.le_trans (keepL_sub r b).1 h.1, fun l hl => h.2 l ((keepL_sub r b).2 l hl)⟩
theorem last_len (r : List Laid) (b : List Int) : (lastB b r).length = b.length := by
  rw [← bat_last]
  exact bat_len r b r.length (Nat.le_refl _)
theorem atI_nat0 {xs : List V} {j : Nat} {v : V} (h : xs[j]? = some v) : atI xs (0 + (j : Int)) = some v := by
  rw [Int.zero_add]
  exact atI_nat h
/-- an answer as data -/
def pdA : RL.A → PyData
  | .nothing n => .tuple [.str "nothing", .int (n : Nat)]
  | .done l => .tuple [.str "done", .list (l.map PyData.int)]
  | .strange => .tuple [.str "strange"]
theorem AAt.dp {K : PySem.W.Frag} {H0 H : Hp} : ∀ {a : RL.A} {v : V}, AAt H0 H a v → Dp K H v (pdA a)
  | .nothing _, _, ⟨p, e, h⟩ => by subst e; exact .tup (SqT.of h) (.cons (.str _) (.cons (.int _) .nil))
  | .done l, _, ⟨p, q, e, h, h', _⟩ => by subst e; exact .tup (SqT.of h) (.cons (.str _) (.cons (.lst (SqL.of h') (dpall_ints l).1) .nil))
  | .strange, _, ⟨p, e, h⟩ => by subst e; exact .tup (SqT.of h) (.cons (.str _) .nil)
theorem pdA_shaped : ∀ a : RL.A, SeqAt.shaped (pdA a) = true
  | .nothing n => shaped_tup (by simp only [PyData.canLay0, PyData.canLayAll0, Bool.and_true]; decide +kernel) (by simp [PyData.depth, PyData.depthAll])
  | .done l => by
    obtain ⟨_, h2, h3⟩ := dpall_ints (K := default) (H := fun _ => none) l
    refine shaped_tup ?_ ?_
    · simp only [PyData.canLay0, PyData.canLayAll0, h2, Bool.and_true]
      decide +kernel
    · simp [PyData.depth, PyData.depthAll, h3]
  | .strange => by decide +kernel
theorem pdA_eqv : ∀ a : RL.A, PyData.eqv (pdA a) (.tuple [.str "strange"]) = decide (a = .strange)
  | .nothing n => by
    simp only [pdA, PyData.eqv, PyData.eqvAll, Bool.and_false]
    rw [decide_eq_false (by simp)]
  | .done l => by
    simp only [pdA, PyData.eqv, PyData.eqvAll, Bool.and_false]
    rw [decide_eq_false (by simp)]
  | .strange => by decide +kernel
theorem eqv_ints : ∀ ns : List Int, PyData.eqvAll (ns.map PyData.int) (ns.map PyData.int) = true
  | [] => by simp [PyData.eqvAll]
  | x :: r => by
    show PyData.eqvAll (PyData.int x :: r.map PyData.int) (PyData.int x :: r.map PyData.int) = true
    unfold PyData.eqvAll
    rw [eqv_ints r]
    simp [PyData.eqv]
theorem own_self {os bd : List Int} {h : Int} : ∀ p ∈ ownL os bd h, valV (ownL os bd h) p.1 = some p.2 ∧ flatB p.2 = true := fun p hp => by
  obtain ⟨k, hk, rfl⟩ := List.mem_map.mp hp
  exact ⟨valV_mapN (f := fun k => V.int (bd.getD k 0)) hk, rfl⟩
section
variable {P : Program} {w : World} {K : PySem.W.Frag} {mg : Str → Option Value} {base : Heap}
def spLaw (K : PySem.W.Frag) : Sp := fun vs H Q _ => ∃ (a : Addr) (ns : List Int), vs = [.ref a] ∧ SqL K H a (ns.map V.int) ∧ ns.length ≤ 63 ∧ ∀ H', Q (.bl true) H'
/-- what finish has told -/
def Found (H0 H : Hp) (os bd : List Int) (pf : Addr) : Prop := ∃ (hs : List Int) (f : Int → Addr), hs.Pairwise (· < ·) ∧ (∀ g, g ∈ hs ↔ g ∈ os) ∧ hs.length ≤ 5 ∧ H pf = some (.dK (hs.map fun h => (ki h, V.ref (f h)))) ∧ H0 pf = none ∧ ∀ h ∈ hs, H (f h) = some (.dK (ownL os bd h)) ∧ H0 (f h) = none ∧ f h ≠ pf
theorem ok_law (T : Txt K w mg) : FnOk P w K mg base CX0 24 T.law.f T.law.fd ["script"] (spLaw K) := by
  refine T.law.F.ok sc_law (fun vs H Q E h => ?_) (fun cdv A outer s H vs Q E hr h => ?_)
  · obtain ⟨a, ns, rfl, _⟩ := h
    rfl
  obtain ⟨a, ns, rfl, hsq, hns, q⟩ := h
  refine ⟨_, (pss_cons (ps_set (i := 1) sc_law.nd rfl (by first | exact Or.inl rfl | exact Or.inr rfl) (pe_lst (pa_cons (pv 0) (pa_cons pe_int (pa_cons pe_int pa_nil)))))
    (pss_cons (ps_for PassesOwn.never rfl (pi_range1 rfl T.z_range (pa_cons pe_int pa_nil)) (pg_name (i := 2) sc_law.nd rfl (by first | exact Or.inl rfl | exact Or.inr rfl)) (pss_cons (ps_if (PW.pt (pw_and (pt_cmpR op_gt (pv 2) pe_int (nomark _)) (pw_and1 (pt_cmpR op_ge (pe_ix (ixL (K := K) rfl) (pv 1) pe_int (fun _ _ => rfl)) (pe_callB (lenK (K := K) rfl) (by rfl) T.z_len bt_len (pa_cons (pv 0) pa_nil)) (nomark _))))) (pss_one ps_break) pss_nil)
    (pss_cons (ps_set (i := 3) sc_law.nd rfl (by first | exact Or.inl rfl | exact Or.inr rfl) (pe_call (ok_law_board T) (hr.mono (by omega)) rfl T.law_board.m T.law_board.F.kp T.law_board.b .nil pass0 (pa_cons (pv 1) (pa_cons pe_int pa_nil))))
    (pss_cons (ps_set (i := 4) sc_law.nd rfl (by first | exact Or.inl rfl | exact Or.inr rfl) (pe_callB (lenK (K := K) rfl) (by rfl) T.z_len bt_len (pa_cons (pv 3) pa_nil)))
    (pss_cons (ps_set (i := 5) sc_law.nd rfl (by first | exact Or.inl rfl | exact Or.inr rfl) (pe_call (ok_law_laid_row T) (hr.mono (by omega)) rfl T.law_laid_row.m T.law_laid_row.F.kp T.law_laid_row.b .nil pass0 (pa_cons (pv 1) (pa_cons (pv 3) (pa_cons pe_int pa_nil)))))
    (pss_cons (ps_asg (pe_call (ok_law_run T) (hr.mono (by omega)) rfl T.law_run.m T.law_run.F.kp T.law_run.b .nil pass0 (pa_cons (pv 3) (pa_cons (pv 5) pa_nil))) (pgT (K := K) (n := 2) rfl rfl (pgs_cons (pg_name (i := 6) sc_law.nd rfl (by first | exact Or.inl rfl | exact Or.inr rfl)) (pgs_cons (pg_name (i := 7) sc_law.nd rfl (by first | exact Or.inl rfl | exact Or.inr rfl)) pgs_nil)) (by rfl) (by rfl)))
    (pss_cons (ps_set (i := 8) sc_law.nd rfl (by first | exact Or.inl rfl | exact Or.inr rfl) (pe_callTy (tupK (K := K) rfl) (by rfl) T.z_tuple bt_tuple (pa_cons (pe_lc rfl sc_law.nd (pi_range1 rfl T.z_range (pa_cons (pe_callB (lenK (K := K) rfl) (by rfl) T.z_len bt_len (pa_cons (pv 5) pa_nil)) pa_nil)) (blkOk_by (own := [("at", 15)]) (N := ["script", "sack", "k", "board", "n", "row", "stood", "answers", "fewer", "some", "owners", "due", "found", "turn", "house", "at", "key"]) (sc := defScope s_law) (by decide +kernel)) (fun _ _ _ _ _ => (pg_name (i := 15) sc_law.nd rfl (by first | exact Or.inl rfl | exact Or.inr rfl))) (fun _ _ _ _ _ => (pts_one (pt_cmpR (neD (K := K) rfl hr.units) (pe_ix (ixL (K := K) rfl) (pv 7) (pv 15) (fun _ _ => rfl)) (pe_tup (pa_cons pe_str pa_nil)) (nomark _)))) (fun _ _ _ _ _ => (pe_ix (ixT (K := K) rfl) (pv 5) (pv 15) (fun _ _ => rfl)))) pa_nil)))
    (pss_cons (ps_if (pt_cmpR (neD (K := K) rfl hr.units) (pe_ix (ixT (K := K) rfl) (pe_call (ok_run_laid T) (hr.mono (by omega)) rfl T.run_laid.m T.run_laid.F.kp T.run_laid.b .nil pass0 (pa_cons (pv 3) (pa_cons (pv 5) pa_nil))) pe_int (fun _ _ => rfl)) (pe_ix (ixL (K := K) rfl) (pv 6) (pe_un un_neg pe_int) (fun _ _ => rfl)) (nomark _)) (pss_one (ps_ret pe_bl)) pss_nil)
    (pss_cons (ps_set (i := 9) sc_law.nd rfl (by first | exact Or.inl rfl | exact Or.inr rfl) (pe_lst (pa_cons (pe_call (ok_law_owners T) (hr.mono (by omega)) rfl T.law_owners.m T.law_owners.F.kp T.law_owners.b .nil pass0 (pa_cons (pv 1) (pa_cons (pv 4) pa_nil))) (pa_cons (pe_op (repA (K := K) rfl) (pe_tup (pa_cons (pe_call (ok_law_grain T) (hr.mono (by omega)) rfl T.law_grain.m T.law_grain.F.kp T.law_grain.b .nil pass0 (pa_cons (pv 1) (pa_cons pe_int pa_nil))) pa_nil)) (pv 4)) (pa_cons (pe_callTy (tupK (K := K) rfl) (by rfl) T.z_tuple bt_tuple (pa_cons (pe_lc rfl sc_law.nd (pi_range1 rfl T.z_range (pa_cons (pv 4) pa_nil)) (blkOk_by (own := [("key", 16)]) (N := ["script", "sack", "k", "board", "n", "row", "stood", "answers", "fewer", "some", "owners", "due", "found", "turn", "house", "at", "key"]) (sc := defScope s_law) (by decide +kernel)) (fun _ _ _ _ _ => (pg_name (i := 16) sc_law.nd rfl (by first | exact Or.inl rfl | exact Or.inr rfl))) (fun _ _ _ _ _ => pts_nil) (fun _ _ _ _ _ => (pe_op op_mod (pv 16) pe_int))) pa_nil)) pa_nil)))))
    (pss_cons (ps_set (i := 10) sc_law.nd rfl (by first | exact Or.inl rfl | exact Or.inr rfl) (pe_ix (ixL (K := K) rfl) (pv 9) (pe_call (ok_law_grain T) (hr.mono (by omega)) rfl T.law_grain.m T.law_grain.F.kp T.law_grain.b .nil pass0 (pa_cons (pv 1) (pa_cons pe_int pa_nil))) (fun _ _ => rfl)))
    (pss_cons (ps_set (i := 11) sc_law.nd rfl (by first | exact Or.inl rfl | exact Or.inr rfl) (pe_call (ok_law_due T) (hr.mono (by omega)) rfl T.law_due.m T.law_due.F.kp T.law_due.b .nil pass0 (pa_cons (pv 10) (pa_cons (pe_ix (ixL (K := K) rfl) (pv 6) (pe_un un_neg pe_int) (fun _ _ => rfl)) pa_nil))))
    (pss_cons (ps_set (i := 12) sc_law.nd rfl (by first | exact Or.inl rfl | exact Or.inr rfl) (pe_call (ok_finish T) (hr.mono (by omega)) rfl T.finish.m T.finish.F.kp T.finish.b .nil pass0 (pa_cons (pv 10) (pa_cons (pv 3) (pa_cons (pv 5) pa_nil)))))
    (pss_one (ps_for PassesOwn.never rfl (pi_range1 rfl T.z_range (pa_cons pe_int pa_nil)) (pg_name (i := 13) sc_law.nd rfl (by first | exact Or.inl rfl | exact Or.inr rfl)) (pss_cons (ps_if (PW.pt (pw_or (pt_not (pt_val (pe_callB call_is2 (by rfl) T.z_isinstance bt_isinstance (pa_cons (pv 12) (pa_cons (pe_bltn (v := .ty "dict") rfl T.z_dict bt_dict rfl) pa_nil))))) (pw_or1 (pt_cmpR (neV (K := K) rfl hr.units) (pv 12) (pv 11) (nomark _))))) (pss_one (ps_ret pe_bl)) pss_nil)
    (pss_cons (ps_lock (ps_for PassesOwn.never rfl (pi_keys (pv 12)) (pg_name (i := 14) sc_law.nd rfl (by first | exact Or.inl rfl | exact Or.inr rfl)) (pss_cons (ps_if (pt_not (pt_val (pe_callB call_is2 (by rfl) T.z_isinstance bt_isinstance (pa_cons (pe_dget (hu_of hr) (pv 12) (pv 14) (fun _ _ => rfl)) (pa_cons (pe_bltn (v := .ty "dict") rfl T.z_dict bt_dict rfl) pa_nil))))) (pss_one (ps_ret pe_bl)) pss_nil)
    (pss_one (ps_expr (pe_dclear (pe_dget (hu_of hr) (pv 12) (pv 14) (fun _ _ => rfl))))))))
    (pss_one (ps_if (pt_cmpR op_eq (pv 13) pe_int (nomark _)) (pss_one (ps_set (i := 12) sc_law.nd rfl (by first | exact Or.inl rfl | exact Or.inr rfl) (pe_call (ok_finish T) (hr.mono (by omega)) rfl T.finish.m T.finish.F.kp T.finish.b .nil pass0 (pa_cons (pv 10) (pa_cons (pv 3) (pa_cons (pv 8) pa_nil)))))) pss_nil))))))))))))))))))
    (pss_one (ps_ret pe_bl)))), ?_⟩
  refine ⟨_, rfl, line_of (by simp), fun ps hps => ⟨_, rfl, by decide, by decide, ?_⟩⟩
  have k0 := Fr.new (l := []) (o := .lst [.ref a, .int 0, .int 0]) hps
  have sc0 : Scr K H a ns [ps] := by
    rcases hsq with h | h
    · refine .inl ⟨h, fun m => ?_⟩
      rw [List.mem_singleton.mp m] at h
      rcases h with h | ⟨o, h⟩ <;> rw [hps] at h <;> cases h
    · exact .inr (.inr h)
  refine for_it (walk_range (lo := 0) (n := 2)) (fun i σ H' => ∃ (o2 o3 o4 o5 o6 o7 o8 o9 o10 o11 o12 o13 o14 : Option V), σ = [some (.ref a), some (.ref ps), o2, o3, o4, o5, o6, o7, o8, o9, o10, o11, o12, o13, o14, none, none] ∧ Scr K H' a ns [ps] ∧ Sk K H' ps [ps] (100000 * i))
    ⟨_, _, _, _, _, _, _, _, _, _, _, _, _, rfl, sc0.keep k0 (by simp), ⟨a, ns, 0, 0, upd_same, sc0.keep k0 (by simp), Nat.le_refl _, hns⟩⟩ (fun _ _ _ _ _ => trivial) ?_ ?_
  · rintro i x σ H1 H1' hi ⟨o2, o3, o4, o5, o6, o7, o8, o9, o10, o11, o12, o13, o14, rfl, sc1, s1⟩ ⟨rfl, rfl⟩
    apply use0
    case use =>
      intro key
      refine ⟨_, rfl, _, _, rfl, rfl, _, rfl, ifDec (fun _ => ?_) (fun _ => key)⟩
      obtain ⟨a', sc', k', x', h1', _⟩ := id s1
      refine ⟨_, rfl, ps, _, _, _, rfl, rfl, SqL.of h1', at1, _, rfl, a, _, rfl, .inl sc1.sq, _, _, rfl, rfl, _, rfl, ifDec (fun _ => q _) (fun _ => key)⟩
    case key =>
    have pm : ps ∈ [ps] := List.mem_singleton.mpr rfl
    refine ⟨_, rfl, ps, [ps], _, rfl, s1, pm, by omega, fun H2 b bv f2 s2 okb hb => ?_⟩
    obtain ⟨pb, rfl, hpb⟩ := hb
    obtain ⟨hb1, hb2, hb3⟩ := id okb
    refine ⟨_, rfl, pb, _, rfl, .inr (SqT.of hpb), ?_⟩
    rw [List.length_map]
    refine ⟨_, rfl, _, rfl, ps, [ps], _, b, .ref pb, (b.length : Int), rfl, s2, pm, by omega, ⟨pb, rfl, hpb⟩, rfl, by omega, by omega, fun H3 r rv f3 s3 okr hrv => ?_⟩
    have hb3' := f3.tup _ _ hpb
    obtain ⟨ra, rs, rfl, hra, hrs⟩ := id hrv
    have hrl := hrs.length
    have h40 := okr.1
    refine ⟨_, rfl, _, rfl, r, .ref ra, b, .ref pb, (b.length : Int), rfl, hrv, ⟨pb, rfl, hb3'⟩, okr, rfl, by omega, by omega, fun p H4 bl al us u' zs f4 hp hbl hu' hal hzs => ⟨p, _, rfl, SqT.of hp, rfl, _, _, rfl, _, _, rfl, rfl, ?_⟩⟩
    have hra4 := f4.tup _ _ hra
    have hzl := hzs.length
    rw [ans_len] at hzl
    refine ⟨_, rfl, ra, _, rfl, .inr (SqT.of hra4), _, rfl, by omega, by omega, fun D hD => ?_⟩
    refine lc_it (walk_range (lo := 0) (n := rs.length)) (fun i H' => ∃ us : List V, Fr [] H4 H' ∧ H' D = some (.lst us) ∧ Paired (LAt H') (keepL b (r.take i)) us)
      ⟨[], Fr.new hD, upd_same, .nil⟩ (fun _ _ _ _ => trivial) ?_ ?_
    · rintro n x H5 H5' hn ⟨us5, f5, hD5, hp5⟩ ⟨rfl, rfl⟩
      have hnr : n < r.length := by omega
      obtain ⟨l, hl⟩ : ∃ l, r[n]? = some l := ⟨_, List.getElem?_eq_getElem hnr⟩
      have hzn : n < zs.length := by omega
      obtain ⟨az, haz, hazz⟩ := pair_right hzs (List.getElem?_eq_getElem hzn)
      rw [ans_at r b n l hl] at haz
      cases haz
      have hrn : n < rs.length := by omega
      obtain ⟨l', hl', hll⟩ := pair_right hrs (List.getElem?_eq_getElem hrn)
      rw [hl] at hl'
      cases hl'
      have hal5 := f5.at_ _ _ hal (by simp)
      have hkt : keepL b (r.take (n + 1)) = keepL b (r.take n) ++ (if (dl l (bat b r n)).2 = .strange then [] else [l]) := by
        rw [List.take_add_one, hl, bat_take r b n (by omega)]
        exact keepL_snoc (r.take n) b l
      rw [hkt]
      have hfew : us5.length ≤ 40 := by
        rw [← hp5.length]
        exact Nat.le_trans (keepL_sub _ _).1 (by rw [List.length_take]; omega)
      refine ⟨rfl, _, rfl, _, rfl, al, _, _, _, rfl, rfl, SqL.of hal5, atI_nat0 (List.getElem?_eq_getElem hzn), line_of (by simp), fun t ht => ?_⟩
      have kt := Fr.new (l := []) (o := .tup [.str "strange"]) ht
      refine ⟨pdA _, .tuple [.str "strange"], ((hazz.keep f5).keep kt).dp, .tup (SqT.of upd_same) (.cons (.str _) .nil), pdA_shaped _, by decide +kernel, _, rfl, ?_⟩
      rw [pdA_eqv]
      have hD6 := kt.at_ _ _ hD5 (by simp)
      by_cases hst : (dl l (bat b r n)).2 = .strange
      · rw [decide_eq_true hst, if_pos hst, List.append_nil]
        exact ⟨us5, f5.trans kt, hD6, Paired.mapP hp5 fun _ _ z => z.keep kt.tup⟩
      · rw [decide_eq_false hst, if_neg hst]
        refine ⟨_, rfl, _, rfl, ra, _, _, _, rfl, rfl, SqT.of ((f5.trans kt).tup _ _ hra4), atI_nat0 (List.getElem?_eq_getElem hrn), us5, hD6, line_lt (by omega), us5 ++ [rs[n]], (f5.trans kt).set1 hD6 trivial hD, upd_same, ?_⟩
        have f7 : Fr [D] _ (upd (upd H5' t (.tup [.str "strange"])) D (.lst (us5 ++ [rs[n]]))) := Fr.set hD6 trivial (by simp)
        exact pair_app (Paired.mapP hp5 fun _ _ z => z.keep (kt.tup.trans f7.tup)) (.cons (hll.keep (f4.tup.trans (f5.tup.trans (kt.tup.trans f7.tup)))) .nil)
    rintro H5 ⟨us5, f5, hD5, hp5⟩
    rw [← hrl, List.take_length] at hp5
    refine ⟨D, us5, rfl, .inl ⟨SqL.of hD5, fun fw hfw => ?_⟩⟩
    have k6 := Fr.new (l := []) (o := .tup us5) hfw
    have hfew : RAt (upd H5 fw (.tup us5)) (keepL b r) (.ref fw) := ⟨fw, us5, rfl, upd_same, Paired.mapP hp5 fun _ _ z => z.keep k6.tup⟩
    have f46 := f5.trans k6
    have s6 := (s3.keep0 f4).keep0 f46
    have hpb6 := f46.tup _ _ (f4.tup _ _ hb3')
    have hrv6 := (hrv.keep f4.tup).keep f46.tup
    have hbl6 := f46.at_ _ _ hbl (by simp)
    have hu6 := hu'.keep f46.tup
    generalize upd H5 fw (.tup us5) = H6 at k6 hfew f46 s6 hpb6 hrv6 hbl6 hu6
    refine ⟨_, rfl, _, rfl, r, .ref ra, b, .ref pb, (b.length : Int), rfl, hrv6, ⟨pb, rfl, hpb6⟩, okb, okr, rfl, fun p7 H7 u7 x7 f7 hp7 hu7 => ?_⟩
    have hbl7 := f7.at_ _ _ hbl6 (by simp)
    have hu7' := hu6.keep f7.tup
    obtain ⟨ua, rfl, hua⟩ := hu7
    obtain ⟨ub, rfl, hub⟩ := id hu7'
    obtain ⟨d1, d2, d3⟩ := dpall_ints (K := K) (H := H7) (lastB b r)
    refine ⟨p7, _, _, _, rfl, rfl, SqT.of hp7, at0, _, rfl, _, rfl, bl, _, _, _, rfl, rfl, SqL.of hbl7, neg1, .tuple _, .tuple _, .tup (SqT.of hua) d1, .tup (SqT.of hub) d1, shaped_tup d2 (by omega), shaped_tup d2 (by omega), _, rfl, ?_⟩
    rw [show PyData.eqv (.tuple ((lastB b r).map PyData.int)) (.tuple ((lastB b r).map PyData.int)) = true by unfold PyData.eqv; exact eqv_ints _]
    refine iteF ?_
    have s7 := s6.keep0 f7
    have hfew7 := hfew.keep f7.tup
    have hpb7 := f7.tup _ _ hpb6
    have hrv7 := hrv6.keep f7.tup
    refine ⟨_, rfl, _, rfl, ps, [ps], _, b.length, rfl, s7, pm, by omega, by omega, fun H8 os1 v1 f8 s8 l1 g1 a1 => ?_⟩
    refine ⟨_, rfl, ps, 5, [ps], _, rfl, s8, pm, by omega, by decide, by decide, fun H9 g9 f9 s9 g90 g95 => ⟨line_of (by simp), fun t1 ht1 => ?_⟩⟩
    have k10 := Fr.new (l := []) (o := .tup [.int g9]) ht1
    have t10 : (upd H9 t1 (.tup [.int g9])) t1 = some (.tup [.int g9]) := upd_same
    generalize upd H9 t1 (.tup [.int g9]) = H10 at k10 t10
    have g59 : 0 ≤ g9 ∧ g9 ≤ 4 := ⟨g90, by omega⟩
    apply use2 (G := fun (v2 : V) (H11 : Hp) => Fr [] H9 H11 ∧ ∃ os2 : List Int, BAt H11 os2 v2 ∧ os2.length = b.length ∧ ∀ g ∈ os2, 0 ≤ g ∧ g ≤ 4)
    case use =>
      intro key
      refine ⟨_, rfl, ?_⟩
      by_cases hb1' : b.length = 1
      · refine .inr ⟨t1, _, rfl, by rw [hb1']; rfl, SqT.of t10, ?_⟩
        generalize hvx : V.ref t1 = vx
        generalize hHx : H10 = Hx
        rw [hHx] at k10 t10
        exact key vx Hx ⟨k10, [g9], ⟨t1, hvx.symm, t10⟩, by rw [hb1']; rfl, fun g hg => by rw [List.mem_singleton.mp hg]; exact g59⟩
      · refine .inl ⟨t1, _, _, rfl, rfl, SqT.of t10, by simp, by omega, by omega, by simp, fun t2 ht2 => key _ _ ⟨k10.trans (Fr.new ht2), List.replicate b.length g9, ⟨t2, rfl, ?_⟩, by simp, fun g hg => by rw [(List.mem_replicate.mp hg).2]; exact g59⟩⟩
        rw [upd_same, List.map_replicate]
        congr 2
        rw [show ((b.length : Int)).toNat = b.length from rfl]
        generalize b.length = nn
        induction nn with
        | zero => rfl
        | succ m ih => rw [List.replicate_succ, List.replicate_succ, List.flatten_cons, ih]; rfl
    case key =>
    rintro v2 H11 ⟨f11, os2, a2, l2, g2⟩
    refine ⟨_, rfl, _, rfl, by omega, by omega, fun D2 hD2 => ?_⟩
    refine lc_rng hD2 (fun _ => true) (fun i : Nat => .int ((i : Int) % 5)) (by omega) (fun _ => rfl) (fun _ _ => evt_yes) (fun n hn _ H12 f12 R r12 => ⟨_, rfl, _, _, rfl, rfl, (by show (0 : Int) < 5; decide), r12 H12 (Fr.refl _ _)⟩) (fun H12 f12 hl12 => ?_)
    rw [given_all, show (List.range (b.length : Int).toNat).map (fun i : Nat => V.int ((i : Int) % 5)) = ((List.range b.length).map fun i : Nat => ((i : Int) % 5)).map V.int by rw [List.map_map]; rfl] at hl12
    refine ⟨D2, _, rfl, .inl ⟨SqL.of hl12, fun t3 ht3 => ⟨line_of (by simp), fun Z hZ => ?_⟩⟩⟩
    have k13 := Fr.new (l := []) (o := .tup (((List.range b.length).map fun i : Nat => ((i : Int) % 5)).map V.int)) ht3
    have a3 : BAt (upd H12 t3 (.tup (((List.range b.length).map fun i : Nat => ((i : Int) % 5)).map V.int))) ((List.range b.length).map fun i : Nat => ((i : Int) % 5)) (.ref t3) := ⟨t3, rfl, upd_same⟩
    have l3 : ((List.range b.length).map fun i : Nat => ((i : Int) % 5)).length = b.length := by simp
    have g3 : ∀ g ∈ (List.range b.length).map (fun i : Nat => ((i : Int) % 5)), 0 ≤ g ∧ g ≤ 4 := fun g hg => by
      obtain ⟨j, _, rfl⟩ := List.mem_map.mp hg
      have := modB (j : Int) (j := 5) (by decide)
      omega
    generalize (List.range b.length).map (fun i : Nat => ((i : Int) % 5)) = os3 at k13 a3 l3 g3 hZ
    generalize upd H12 t3 (.tup (os3.map V.int)) = H13 at k13 a3 hZ
    have k14 := Fr.new (l := []) (o := .lst [v1, v2, .ref t3]) hZ
    have Z14 : (upd H13 Z (.lst [v1, v2, .ref t3])) Z = some (.lst [v1, v2, .ref t3]) := upd_same
    have f9_14 : Fr [] H9 (upd H13 Z (.lst [v1, v2, .ref t3])) := f11.trans (f12.trans (k13.trans k14))
    have a1' := a1.keep (f9.tup.trans f9_14.tup)
    have a2' := a2.keep (f12.tup.trans (k13.tup.trans k14.tup))
    have a3' := a3.keep k14.tup
    have s14 := s9.keep0 f9_14
    have nZ : Z ≠ ps := fun e => (s9.keep0 (f11.trans (f12.trans k13))).some (by rw [← e]; exact hZ)
    generalize upd H13 Z (.lst [v1, v2, .ref t3]) = H14 at k14 Z14 f9_14 a1' a2' a3' s14
    refine ⟨_, rfl, _, rfl, ps, 3, [ps], _, rfl, s14, pm, by omega, by decide, by decide, fun H15 g15 f15 s15 g150 g153 => ?_⟩
    have hch : ∃ (os : List Int) (ov : V), atI [v1, v2, .ref t3] g15 = some ov ∧ BAt H15 os ov ∧ os.length = b.length ∧ ∀ g ∈ os, 0 ≤ g ∧ g ≤ 4 := by
      have : g15 = 0 ∨ g15 = 1 ∨ g15 = 2 := by omega
      rcases this with rfl | rfl | rfl
      · exact ⟨os1, v1, at0, a1'.keep f15.tup, l1, g1⟩
      · exact ⟨os2, v2, at1, a2'.keep f15.tup, l2, g2⟩
      · exact ⟨os3, .ref t3, at2, a3'.keep f15.tup, l3, g3⟩
    obtain ⟨os, ov, hov, aov, lov, gov⟩ := hch
    refine ⟨Z, _, _, _, rfl, rfl, SqL.of (f15.at_ _ _ Z14 (by simpa using nZ)), hov, ?_⟩
    have f7_15 : Fr [ps] H7 H15 := (f8.trans f9).trans (f9_14.lift.trans f15)
    have nbl : bl ≠ ps := fun e => by
      obtain ⟨a', sc', k', x', hh, _⟩ := s7
      rw [e, hh] at hbl7
      have := congrArg (fun z : Option HO => match z with | some (.lst l) => l.getLast? | _ => none) hbl7
      simp at this
    have hbl15 := f7_15.at_ _ _ hbl7 (by simpa using nbl)
    have hu15 := hu7'.keep f7_15.tup
    have hll := last_len r b
    refine ⟨_, rfl, _, rfl, _, rfl, bl, _, _, _, rfl, rfl, SqL.of hbl15, neg1, os, lastB b r, ov, _, rfl, aov, hu15, by omega, by omega, fun pd HX gs fd fX hpd hgn hgi hgd => ?_⟩
    have sX := s15.keep0 fX
    have hovX := aov.keep fX.tup
    have hpbX : BAt HX b (.ref pb) := ⟨pb, rfl, fX.tup _ _ (f7_15.tup _ _ hpb7)⟩
    have hrvX := (hrv7.keep f7_15.tup).keep fX.tup
    have hfewX := (hfew7.keep f7_15.tup).keep fX.tup
    have scX : Scr K HX a ns [ps] := sc1.keep (f2.trans (f3.trans (f4.lift.trans (f46.lift.trans (f7.lift.trans (f7_15.trans fX.lift)))))) (fun _ m => m)
    refine ⟨_, rfl, _, rfl, _, rfl, b, os, r, ov, .ref pb, .ref ra, rfl, hovX, hpbX, hrvX, okb, okr, lov, gov, fun pf HF hs f fF zpf hsp hsi hsl hpf hff => ?_⟩
    have fnd : Found HX HF os (lastB b r) pf := ⟨hs, f, hsp, hsi, hsl, hpf, zpf, hff⟩
    clear hff hpf hsl hsi hsp zpf
    have bnd : (lastB b r).length ≤ 12 := by omega
    refine ⟨_, rfl, by decide, by decide, ?_⟩
    refine for_it (walk_range (lo := 0) (n := 2)) (fun j σ H' => ∃ (pf : Addr) (o2 o4 o5 o6 o7 o9 o13 o14 : Option V), σ = [some (.ref a), some (.ref ps), o2, some (.ref pb), o4, o5, o6, o7, some (.ref fw), o9, some ov, some (.ref pd), some (.ref pf), o13, o14, none, none] ∧ Fr [] HX H' ∧ (j < 2 → Found HX H' os (lastB b r) pf))
      ⟨pf, _, _, _, _, _, _, _, _, rfl, fF, fun _ => fnd⟩ (fun _ _ _ _ _ => trivial) ?_ ?_
    · clear fnd fF
      rintro j x σ HA HA' hj ⟨pf, o2, o4, o5, o6, o7, o9, o13, o14, rfl, fA, hfnd⟩ ⟨rfl, rfl⟩
      obtain ⟨hs, f, hsp, hsi, hsl, hpf, zpf, hall⟩ := hfnd hj
      have hpdA := fA.at_ _ _ hpd (by simp)
      have hmem : ∀ g, g ∈ hs ↔ g ∈ gs := fun g => by rw [hsi, hgi]
      have hlen : hs.length = gs.length := Nat.le_antisymm (nodup_sub (hsp.imp fun h => Int.ne_of_lt h) fun g hg => (hmem g).mp hg) (nodup_sub hgn fun g hg => (hmem g).mpr hg)
      have heq : ∀ p ∈ hs.map (fun h => (ki h, V.ref (f h))), ∃ u, valV (gs.map fun g => (ki g, V.ref (fd g))) p.1 = some u ∧ EqV K HA' 2 p.2 u := fun p hp => by
        obtain ⟨h, hh, rfl⟩ := List.mem_map.mp hp
        have hg := (hmem h).mp hh
        refine ⟨.ref (fd h), by rw [valV_mapK, if_pos hg], .inr (.inr (.inr ⟨f h, fd h, _, _, rfl, rfl, (hall h hh).1, fA.at_ _ _ (hgd h hg) (by simp), rfl, fun p hp => ?_⟩))⟩
        obtain ⟨e1, e2⟩ := own_self p hp
        exact ⟨p.2, e1, .inl ⟨rfl, e2⟩⟩
      refine ⟨_, rfl, _, _, _, rfl, .dd hpf, _, rfl, iteF ?_⟩
      refine ⟨_, rfl, _, rfl, 2, pf, pd, _, _, by omega, rfl, rfl, hpf, hpdA, by rw [List.length_map, List.length_map]; exact hlen, heq, _, rfl, iteF ?_⟩
      refine ⟨pf, .dK (hs.map fun h => (ki h, V.ref (f h))), hpf, trivial, fun od => ?_⟩
      have fL : Fr [] HX (upd HA' pf (.frz od (.dK (hs.map fun h => (ki h, V.ref (f h)))))) := fA.set1 hpf trivial zpf
      have kL : Fr [pf] HA' (upd HA' pf (.frz od (.dK (hs.map fun h => (ki h, V.ref (f h)))))) := Fr.set hpf trivial (by simp)
      refine ⟨_, rfl, pf, od, rfl, .inl ⟨_, upd_same, ?_⟩⟩
      refine for_it (walk_keys (d := pf) (o := od) (kvs := hs.map fun h => (ki h, V.ref (f h)))) (fun n σ H' => ∃ o14, σ = [some (.ref a), some (.ref ps), o2, some (.ref pb), o4, o5, o6, o7, some (.ref fw), o9, some ov, some (.ref pd), some (.ref pf), some (.int (0 + (j : Int))), o14, none, none] ∧ Fr [] HX H' ∧ H' pf = some (.frz od (.dK (hs.map fun h => (ki h, V.ref (f h))))) ∧ ∀ h ∈ hs, ∃ kvs, H' (f h) = some (.dK kvs))
        ⟨_, rfl, fL, upd_same, fun h hh => ⟨_, kL.at_ _ _ (hall h hh).1 (by simpa using (hall h hh).2.2)⟩⟩ (fun n σ H' _ ⟨_, _, _, h, _⟩ => h) ?_ ?_
      · rintro n x σ HB HB' hn ⟨o14', rfl, fB, hpB, hB⟩ ⟨rfl, k, v, hkv, rfl⟩
        rw [List.getElem?_map, Option.map_eq_some_iff] at hkv
        obtain ⟨h, hhi, ekv⟩ := hkv
        cases ekv
        have hh : h ∈ hs := List.mem_of_getElem? hhi
        obtain ⟨kvs, hfh⟩ := hB h hh
        have dg : DGet HB' pf (.int h) (some (.ref (f h))) := .inl ⟨_, ki h, .inr ⟨od, hpB⟩, rfl, by rw [valV_mapK, if_pos hh]⟩
        refine ⟨_, rfl, _, rfl, pf, _, rfl, dg, _, _, _, rfl, .dd hfh, _, rfl, iteF ?_⟩
        refine ⟨_, rfl, _, rfl, pf, _, rfl, dg, .inr (.inr (.inl ⟨rfl, .inl ⟨_, hfh⟩⟩)), f h, kvs, rfl, rfl, hfh, ?_⟩
        have kC : Fr [f h] HB' (upd HB' (f h) (.dK [])) := Fr.set hfh trivial (by simp)
        refine ⟨_, rfl, fB.set1 hfh trivial (hall h hh).2.1, kC.at_ _ _ hpB (by simpa using (hall h hh).2.2.symm), fun g hg => ?_⟩
        by_cases e : f g = f h
        · exact ⟨[], by rw [e, upd_same]⟩
        · obtain ⟨kv2, h2⟩ := hB g hg
          exact ⟨kv2, by rw [upd_ne e]; exact h2⟩
      · rintro σ HB ⟨o14', rfl, fB, hpB, hB⟩
        refine ⟨hpB, ?_⟩
        have fU : Fr [] HX (upd HB pf (.dK (hs.map fun h => (ki h, V.ref (f h))))) := fB.set1 hpB trivial zpf
        generalize upd HB pf (.dK (hs.map fun h => (ki h, V.ref (f h)))) = HU at fU
        refine ⟨_, rfl, rfl, _, rfl, ifDec (fun _ => ?_) (fun e => ?_)⟩
        · refine ⟨_, rfl, _, rfl, _, rfl, b, os, keepL b r, ov, .ref pb, .ref fw, rfl, hovX.keep fU.tup, hpbX.keep fU.tup, hfewX.keep fU.tup, okb, okr.keepL, lov, gov, fun pf2 HG hs2 f2' fG zpf2 hsp2 hsi2 hsl2 hpf2 hff2 => ?_⟩
          rw [last_keep] at hff2
          exact ⟨pf2, _, _, _, _, _, _, _, _, rfl, fU.trans fG, fun _ => ⟨hs2, f2', hsp2, hsi2, hsl2, hpf2, fU.fresh zpf2, fun h hh => ⟨(hff2 h hh).1, fU.fresh (hff2 h hh).2.1, (hff2 h hh).2.2⟩⟩⟩
        · have hj1 : j ≠ 0 := fun z => e (by rw [z]; rfl)
          exact ⟨pf, _, _, _, _, _, _, _, _, rfl, fU, fun z => absurd z (by omega)⟩
    · rintro σ HE ⟨pf', o2', o4', o5', o6', o7', o9', o13', o14', rfl, fE, _⟩
      exact ⟨_, _, _, _, _, _, _, _, _, _, _, _, _, rfl, scX.keep fE (by simp), (sX.keep0 fE).mono (by omega)⟩
  · rintro σ H1 ⟨o2, o3, o4, o5, o6, o7, o8, o9, o10, o11, o12, o13, o14, rfl, sc1, s1⟩
    exact q _
end
end RL

/-! What the top has left, from facts. Printed by gen.py. -/
namespace RL
open PySem L2 RlR
theorem bd_is_whole {K : PySem.W.Frag} {f : Addr} {fd : FuncData} (F : Fun K "is_whole" "is_whole" s_is_whole f fd) : Binds K fd ["thing"] [] := F.binds fun _ _ _ _ _ _ us hl => match us, hl with | [_], _ => rfl
theorem bd_is_from_to {K : PySem.W.Frag} {f : Addr} {fd : FuncData} (F : Fun K "is_from_to" "is_from_to" s_is_from_to f fd) : Binds K fd ["thing", "least", "most"] [] := F.binds fun _ _ _ _ _ _ us hl => match us, hl with | [_, _, _], _ => rfl
theorem bd_is_worth {K : PySem.W.Frag} {f : Addr} {fd : FuncData} (F : Fun K "is_worth" "is_worth" s_is_worth f fd) : Binds K fd ["thing"] [] := F.binds fun _ _ _ _ _ _ us hl => match us, hl with | [_], _ => rfl
theorem bd_are_worths {K : PySem.W.Frag} {f : Addr} {fd : FuncData} (F : Fun K "are_worths" "are_worths" s_are_worths f fd) : Binds K fd ["thing"] [] := F.binds fun _ _ _ _ _ _ us hl => match us, hl with | [_], _ => rfl
theorem bd_need_worths {K : PySem.W.Frag} {f : Addr} {fd : FuncData} (F : Fun K "need_worths" "need_worths" s_need_worths f fd) : Binds K fd ["board"] [] := F.binds fun _ _ _ _ _ _ us hl => match us, hl with | [_], _ => rfl
theorem bd_has_word {K : PySem.W.Frag} {f : Addr} {fd : FuncData} (F : Fun K "has_word" "has_word" s_has_word f fd) : Binds K fd ["thing", "size", "words"] [] := F.binds fun _ _ _ _ _ _ us hl => match us, hl with | [_, _, _], _ => rfl
theorem bd_parts_of {K : PySem.W.Frag} {f : Addr} {fd : FuncData} (F : Fun K "parts_of" "parts_of" s_parts_of f fd) : Binds K fd ["thing"] [] := F.binds fun _ _ _ _ _ _ us hl => match us, hl with | [_], _ => rfl
theorem bd_is_made_term {K : PySem.W.Frag} {f : Addr} {fd : FuncData} (F : Fun K "is_made_term" "is_made_term" s_is_made_term f fd) : Binds K fd ["thing", "deep"] [] := F.binds fun _ _ _ _ _ _ us hl => match us, hl with | [_, _], _ => rfl
theorem bd_is_made_place {K : PySem.W.Frag} {f : Addr} {fd : FuncData} (F : Fun K "is_made_place" "is_made_place" s_is_made_place f fd) : Binds K fd ["thing", "deep"] [] := F.binds fun _ _ _ _ _ _ us hl => match us, hl with | [_, _], _ => rfl
theorem bd_tuples_in {K : PySem.W.Frag} {f : Addr} {fd : FuncData} (F : Fun K "tuples_in" "tuples_in" s_tuples_in f fd) : Binds K fd ["thing"] [] := F.binds fun _ _ _ _ _ _ us hl => match us, hl with | [_], _ => rfl
theorem bd_is_term {K : PySem.W.Frag} {f : Addr} {fd : FuncData} (F : Fun K "is_term" "is_term" s_is_term f fd) : Binds K fd ["thing"] [] := F.binds fun _ _ _ _ _ _ us hl => match us, hl with | [_], _ => rfl
theorem bd_is_place {K : PySem.W.Frag} {f : Addr} {fd : FuncData} (F : Fun K "is_place" "is_place" s_is_place f fd) : Binds K fd ["thing"] [] := F.binds fun _ _ _ _ _ _ us hl => match us, hl with | [_], _ => rfl
theorem bd_keys_named {K : PySem.W.Frag} {f : Addr} {fd : FuncData} (F : Fun K "keys_named" "keys_named" s_keys_named f fd) : Binds K fd ["thing"] [] := F.binds fun _ _ _ _ _ _ us hl => match us, hl with | [_], _ => rfl
theorem bd_place_key {K : PySem.W.Frag} {f : Addr} {fd : FuncData} (F : Fun K "place_key" "place_key" s_place_key f fd) : Binds K fd ["place", "board", "looks"] [] := F.binds fun _ _ _ _ _ _ us hl => match us, hl with | [_, _, _], _ => rfl
theorem bd_two_reckoned {K : PySem.W.Frag} {f : Addr} {fd : FuncData} (F : Fun K "two_reckoned" "two_reckoned" s_two_reckoned f fd) : Binds K fd ["word", "one", "other"] [] := F.binds fun _ _ _ _ _ _ us hl => match us, hl with | [_, _, _], _ => rfl
theorem bd_reckoned {K : PySem.W.Frag} {f : Addr} {fd : FuncData} (F : Fun K "reckoned" "reckoned" s_reckoned f fd) : Binds K fd ["term", "board", "looks"] [] := F.binds fun _ _ _ _ _ _ us hl => match us, hl with | [_, _, _], _ => rfl
theorem bd_is_step {K : PySem.W.Frag} {f : Addr} {fd : FuncData} (F : Fun K "is_step" "is_step" s_is_step f fd) : Binds K fd ["keys", "thing"] [] := F.binds fun _ _ _ _ _ _ us hl => match us, hl with | [_, _], _ => rfl
theorem bd_is_piece {K : PySem.W.Frag} {f : Addr} {fd : FuncData} (F : Fun K "is_piece" "is_piece" s_is_piece f fd) : Binds K fd ["keys", "sort", "thing"] [] := F.binds fun _ _ _ _ _ _ us hl => match us, hl with | [_, _, _], _ => rfl
theorem bd_is_deal {K : PySem.W.Frag} {f : Addr} {fd : FuncData} (F : Fun K "is_deal" "is_deal" s_is_deal f fd) : Binds K fd ["keys", "thing"] [] := F.binds fun _ _ _ _ _ _ us hl => match us, hl with | [_, _], _ => rfl
theorem bd_need_board {K : PySem.W.Frag} {f : Addr} {fd : FuncData} (F : Fun K "need_board" "need_board" s_need_board f fd) : Binds K fd ["board"] [] := F.binds fun _ _ _ _ _ _ us hl => match us, hl with | [_], _ => rfl
theorem bd_Doing_init {K : PySem.W.Frag} {f : Addr} {fd : FuncData} (F : Fun K "__init__" "Doing.__init__" s_Doing_init f fd) : Binds K fd ["self", "board"] [] := F.binds fun _ _ _ _ _ _ us hl => match us, hl with | [_, _], _ => rfl
theorem bd_Doing_reckon {K : PySem.W.Frag} {f : Addr} {fd : FuncData} (F : Fun K "reckon" "Doing.reckon" s_Doing_reckon f fd) : Binds K fd ["self", "term"] [] := F.binds fun _ _ _ _ _ _ us hl => match us, hl with | [_, _], _ => rfl
theorem bd_Doing_put {K : PySem.W.Frag} {f : Addr} {fd : FuncData} (F : Fun K "put" "Doing.put" s_Doing_put f fd) : Binds K fd ["self", "place", "term"] [] := F.binds fun _ _ _ _ _ _ us hl => match us, hl with | [_, _, _], _ => rfl
theorem bd_Doing_step {K : PySem.W.Frag} {f : Addr} {fd : FuncData} (F : Fun K "step" "Doing.step" s_Doing_step f fd) : Binds K fd ["self", "number", "step"] [] := F.binds fun _ _ _ _ _ _ us hl => match us, hl with | [_, _, _], _ => rfl
theorem bd_Doing_outcome {K : PySem.W.Frag} {f : Addr} {fd : FuncData} (F : Fun K "outcome" "Doing.outcome" s_Doing_outcome f fd) : Binds K fd ["self"] [] := F.binds fun _ _ _ _ _ _ us hl => match us, hl with | [_], _ => rfl
theorem bd_gone {K : PySem.W.Frag} {f : Addr} {fd : FuncData} (F : Fun K "gone" "gone" s_gone f fd) : Binds K fd ["deal", "board"] [] := F.binds fun _ _ _ _ _ _ us hl => match us, hl with | [_, _], _ => rfl
theorem bd_done_in {K : PySem.W.Frag} {f : Addr} {fd : FuncData} (F : Fun K "done_in" "done_in" s_done_in f fd) : Binds K fd ["deal", "board"] [] := F.binds fun _ _ _ _ _ _ us hl => match us, hl with | [_, _], _ => rfl
theorem bd_rising {K : PySem.W.Frag} {f : Addr} {fd : FuncData} (F : Fun K "rising" "rising" s_rising f fd) : Binds K fd ["keys"] [] := F.binds fun _ _ _ _ _ _ us hl => match us, hl with | [_], _ => rfl
theorem bd_touched_in {K : PySem.W.Frag} {f : Addr} {fd : FuncData} (F : Fun K "touched_in" "touched_in" s_touched_in f fd) : Binds K fd ["deal", "board"] [] := F.binds fun _ _ _ _ _ _ us hl => match us, hl with | [_, _], _ => rfl
theorem bd_is_key {K : PySem.W.Frag} {f : Addr} {fd : FuncData} (F : Fun K "is_key" "is_key" s_is_key f fd) : Binds K fd ["keys", "thing"] [] := F.binds fun _ _ _ _ _ _ us hl => match us, hl with | [_, _], _ => rfl
theorem bd_are_keys {K : PySem.W.Frag} {f : Addr} {fd : FuncData} (F : Fun K "are_keys" "are_keys" s_are_keys f fd) : Binds K fd ["keys", "thing"] [] := F.binds fun _ _ _ _ _ _ us hl => match us, hl with | [_, _], _ => rfl
theorem bd_is_laid {K : PySem.W.Frag} {f : Addr} {fd : FuncData} (F : Fun K "is_laid" "is_laid" s_is_laid f fd) : Binds K fd ["keys", "thing"] [] := F.binds fun _ _ _ _ _ _ us hl => match us, hl with | [_, _], _ => rfl
theorem bd_is_laid_row {K : PySem.W.Frag} {f : Addr} {fd : FuncData} (F : Fun K "is_laid_row" "is_laid_row" s_is_laid_row f fd) : Binds K fd ["keys", "thing"] [] := F.binds fun _ _ _ _ _ _ us hl => match us, hl with | [_, _], _ => rfl
theorem bd_need_laid_row {K : PySem.W.Frag} {f : Addr} {fd : FuncData} (F : Fun K "need_laid_row" "need_laid_row" s_need_laid_row f fd) : Binds K fd ["keys", "row"] [] := F.binds fun _ _ _ _ _ _ us hl => match us, hl with | [_, _], _ => rfl
theorem bd_done_laid_in {K : PySem.W.Frag} {f : Addr} {fd : FuncData} (F : Fun K "done_laid_in" "done_laid_in" s_done_laid_in f fd) : Binds K fd ["laid", "board"] [] := F.binds fun _ _ _ _ _ _ us hl => match us, hl with | [_, _], _ => rfl
theorem bd_run_laid_in {K : PySem.W.Frag} {f : Addr} {fd : FuncData} (F : Fun K "run_laid_in" "run_laid_in" s_run_laid_in f fd) : Binds K fd ["board", "row"] [] := F.binds fun _ _ _ _ _ _ us hl => match us, hl with | [_, _], _ => rfl
theorem bd_run_laid {K : PySem.W.Frag} {f : Addr} {fd : FuncData} (F : Fun K "run_laid" "run_laid" s_run_laid f fd) : Binds K fd ["board", "row"] [] := F.binds fun _ _ _ _ _ _ us hl => match us, hl with | [_, _], _ => rfl
theorem bd_is_house_number {K : PySem.W.Frag} {f : Addr} {fd : FuncData} (F : Fun K "is_house_number" "is_house_number" s_is_house_number f fd) : Binds K fd ["thing"] [] := F.binds fun _ _ _ _ _ _ us hl => match us, hl with | [_], _ => rfl
theorem bd_need_owners {K : PySem.W.Frag} {f : Addr} {fd : FuncData} (F : Fun K "need_owners" "need_owners" s_need_owners f fd) : Binds K fd ["board", "owners"] [] := F.binds fun _ _ _ _ _ _ us hl => match us, hl with | [_, _], _ => rfl
theorem bd_House_init {K : PySem.W.Frag} {f : Addr} {fd : FuncData} (F : Fun K "__init__" "House.__init__" s_House_init f fd) : Binds K fd ["self", "own"] [] := F.binds fun _ _ _ _ _ _ us hl => match us, hl with | [_, _], _ => rfl
theorem bd_Crew_init {K : PySem.W.Frag} {f : Addr} {fd : FuncData} (F : Fun K "__init__" "Crew.__init__" s_Crew_init f fd) : Binds K fd ["self", "owners", "board", "row"] [] := F.binds fun _ _ _ _ _ _ us hl => match us, hl with | [_, _, _, _], _ => rfl
theorem bd_Crew_wanting {K : PySem.W.Frag} {f : Addr} {fd : FuncData} (F : Fun K "wanting" "Crew.wanting" s_Crew_wanting f fd) : Binds K fd ["self", "number"] [] := F.binds fun _ _ _ _ _ _ us hl => match us, hl with | [_, _], _ => rfl
theorem bd_Crew_keys_of {K : PySem.W.Frag} {f : Addr} {fd : FuncData} (F : Fun K "keys_of" "Crew.keys_of" s_Crew_keys_of f fd) : Binds K fd ["self", "number", "house"] [] := F.binds fun _ _ _ _ _ _ us hl => match us, hl with | [_, _, _], _ => rfl
theorem bd_Crew_due_of {K : PySem.W.Frag} {f : Addr} {fd : FuncData} (F : Fun K "due_of" "Crew.due_of" s_Crew_due_of f fd) : Binds K fd ["self", "house"] [] := F.binds fun _ _ _ _ _ _ us hl => match us, hl with | [_, _], _ => rfl
theorem bd_Crew_may_send {K : PySem.W.Frag} {f : Addr} {fd : FuncData} (F : Fun K "may_send" "Crew.may_send" s_Crew_may_send f fd) : Binds K fd ["self", "house"] [] := F.binds fun _ _ _ _ _ _ us hl => match us, hl with | [_, _], _ => rfl
theorem bd_Crew_may_take {K : PySem.W.Frag} {f : Addr} {fd : FuncData} (F : Fun K "may_take" "Crew.may_take" s_Crew_may_take f fd) : Binds K fd ["self", "house", "other"] [] := F.binds fun _ _ _ _ _ _ us hl => match us, hl with | [_, _, _], _ => rfl
theorem bd_Crew_may_go {K : PySem.W.Frag} {f : Addr} {fd : FuncData} (F : Fun K "may_go" "Crew.may_go" s_Crew_may_go f fd) : Binds K fd ["self", "house"] [] := F.binds fun _ _ _ _ _ _ us hl => match us, hl with | [_, _], _ => rfl
theorem bd_Crew_may {K : PySem.W.Frag} {f : Addr} {fd : FuncData} (F : Fun K "may" "Crew.may" s_Crew_may f fd) : Binds K fd ["self"] [] := F.binds fun _ _ _ _ _ _ us hl => match us, hl with | [_], _ => rfl
theorem bd_Crew_may_do {K : PySem.W.Frag} {f : Addr} {fd : FuncData} (F : Fun K "may_do" "Crew.may_do" s_Crew_may_do f fd) : Binds K fd ["self", "deed"] [] := F.binds fun _ _ _ _ _ _ us hl => match us, hl with | [_, _], _ => rfl
theorem bd_Crew_need_deed {K : PySem.W.Frag} {f : Addr} {fd : FuncData} (F : Fun K "need_deed" "Crew.need_deed" s_Crew_need_deed f fd) : Binds K fd ["self", "deed"] [] := F.binds fun _ _ _ _ _ _ us hl => match us, hl with | [_, _], _ => rfl
theorem bd_Crew_need_house {K : PySem.W.Frag} {f : Addr} {fd : FuncData} (F : Fun K "need_house" "Crew.need_house" s_Crew_need_house f fd) : Binds K fd ["self", "house"] [] := F.binds fun _ _ _ _ _ _ us hl => match us, hl with | [_, _], _ => rfl
theorem bd_Crew_do {K : PySem.W.Frag} {f : Addr} {fd : FuncData} (F : Fun K "do" "Crew.do" s_Crew_do f fd) : Binds K fd ["self", "deed"] [] := F.binds fun _ _ _ _ _ _ us hl => match us, hl with | [_, _], _ => rfl
theorem bd_Crew_send {K : PySem.W.Frag} {f : Addr} {fd : FuncData} (F : Fun K "send" "Crew.send" s_Crew_send f fd) : Binds K fd ["self", "house"] [] := F.binds fun _ _ _ _ _ _ us hl => match us, hl with | [_, _], _ => rfl
theorem bd_Crew_board_of {K : PySem.W.Frag} {f : Addr} {fd : FuncData} (F : Fun K "board_of" "Crew.board_of" s_Crew_board_of f fd) : Binds K fd ["self", "house", "number"] [] := F.binds fun _ _ _ _ _ _ us hl => match us, hl with | [_, _, _], _ => rfl
theorem bd_Crew_go {K : PySem.W.Frag} {f : Addr} {fd : FuncData} (F : Fun K "go" "Crew.go" s_Crew_go f fd) : Binds K fd ["self", "house"] [] := F.binds fun _ _ _ _ _ _ us hl => match us, hl with | [_, _], _ => rfl
theorem bd_Crew_houses {K : PySem.W.Frag} {f : Addr} {fd : FuncData} (F : Fun K "houses" "Crew.houses" s_Crew_houses f fd) : Binds K fd ["self"] [] := F.binds fun _ _ _ _ _ _ us hl => match us, hl with | [_], _ => rfl
theorem bd_Crew_worths {K : PySem.W.Frag} {f : Addr} {fd : FuncData} (F : Fun K "worths" "Crew.worths" s_Crew_worths f fd) : Binds K fd ["self", "house"] [] := F.binds fun _ _ _ _ _ _ us hl => match us, hl with | [_, _], _ => rfl
theorem bd_finish {K : PySem.W.Frag} {f : Addr} {fd : FuncData} (F : Fun K "finish" "finish" s_finish f fd) : Binds K fd ["owners", "board", "row"] [] := F.binds fun _ _ _ _ _ _ us hl => match us, hl with | [_, _, _], _ => rfl
theorem bd_law_mill {K : PySem.W.Frag} {f : Addr} {fd : FuncData} (F : Fun K "_law_e_mill" "_law_e_mill" s_law_mill f fd) : Binds K fd ["cell", "at"] [] := F.binds fun _ _ _ _ _ _ us hl => match us, hl with | [_, _], _ => rfl
theorem bd_law_grain {K : PySem.W.Frag} {f : Addr} {fd : FuncData} (F : Fun K "_law_e_grain" "_law_e_grain" s_law_grain f fd) : Binds K fd ["sack", "many"] [] := F.binds fun _ _ _ _ _ _ us hl => match us, hl with | [_, _], _ => rfl
theorem bd_law_worth {K : PySem.W.Frag} {f : Addr} {fd : FuncData} (F : Fun K "_law_e_worth" "_law_e_worth" s_law_worth f fd) : Binds K fd ["sack"] [] := F.binds fun _ _ _ _ _ _ us hl => match us, hl with | [_], _ => rfl
theorem bd_law_term {K : PySem.W.Frag} {f : Addr} {fd : FuncData} (F : Fun K "_law_e_term" "_law_e_term" s_law_term f fd) : Binds K fd ["sack", "n", "room", "deep"] [] := F.binds fun _ _ _ _ _ _ us hl => match us, hl with | [_, _, _, _], _ => rfl
theorem bd_law_place {K : PySem.W.Frag} {f : Addr} {fd : FuncData} (F : Fun K "_law_e_place" "_law_e_place" s_law_place f fd) : Binds K fd ["sack", "n", "room", "deep"] [] := F.binds fun _ _ _ _ _ _ us hl => match us, hl with | [_, _, _, _], _ => rfl
theorem bd_law_step {K : PySem.W.Frag} {f : Addr} {fd : FuncData} (F : Fun K "_law_e_step" "_law_e_step" s_law_step f fd) : Binds K fd ["sack", "n"] [] := F.binds fun _ _ _ _ _ _ us hl => match us, hl with | [_, _], _ => rfl
theorem bd_law_deal {K : PySem.W.Frag} {f : Addr} {fd : FuncData} (F : Fun K "_law_e_deal" "_law_e_deal" s_law_deal f fd) : Binds K fd ["sack", "n"] [] := F.binds fun _ _ _ _ _ _ us hl => match us, hl with | [_, _], _ => rfl
theorem bd_law_board {K : PySem.W.Frag} {f : Addr} {fd : FuncData} (F : Fun K "_law_e_board" "_law_e_board" s_law_board f fd) : Binds K fd ["sack", "most"] [] := F.binds fun _ _ _ _ _ _ us hl => match us, hl with | [_, _], _ => rfl
theorem bd_law_reckon {K : PySem.W.Frag} {f : Addr} {fd : FuncData} (F : Fun K "_law_e_reckon" "_law_e_reckon" s_law_reckon f fd) : Binds K fd ["term", "here", "looks"] [] := F.binds fun _ _ _ _ _ _ us hl => match us, hl with | [_, _, _], _ => rfl
theorem bd_law_key {K : PySem.W.Frag} {f : Addr} {fd : FuncData} (F : Fun K "_law_e_key" "_law_e_key" s_law_key f fd) : Binds K fd ["place", "here", "looks"] [] := F.binds fun _ _ _ _ _ _ us hl => match us, hl with | [_, _, _], _ => rfl
theorem bd_law_gone {K : PySem.W.Frag} {f : Addr} {fd : FuncData} (F : Fun K "_law_e_gone" "_law_e_gone" s_law_gone f fd) : Binds K fd ["deal", "board"] [] := F.binds fun _ _ _ _ _ _ us hl => match us, hl with | [_, _], _ => rfl
theorem bd_law_laid_on {K : PySem.W.Frag} {f : Addr} {fd : FuncData} (F : Fun K "_law_e_laid_on" "_law_e_laid_on" s_law_laid_on f fd) : Binds K fd ["sack", "deal", "board"] [] := F.binds fun _ _ _ _ _ _ us hl => match us, hl with | [_, _, _], _ => rfl
theorem bd_law_laid_row {K : PySem.W.Frag} {f : Addr} {fd : FuncData} (F : Fun K "_law_e_laid_row" "_law_e_laid_row" s_law_laid_row f fd) : Binds K fd ["sack", "board", "most"] [] := F.binds fun _ _ _ _ _ _ us hl => match us, hl with | [_, _, _], _ => rfl
theorem bd_law_laid {K : PySem.W.Frag} {f : Addr} {fd : FuncData} (F : Fun K "_law_e_laid" "_law_e_laid" s_law_laid f fd) : Binds K fd ["laid", "board"] [] := F.binds fun _ _ _ _ _ _ us hl => match us, hl with | [_, _], _ => rfl
theorem bd_law_run {K : PySem.W.Frag} {f : Addr} {fd : FuncData} (F : Fun K "_law_e_run" "_law_e_run" s_law_run f fd) : Binds K fd ["board", "row"] [] := F.binds fun _ _ _ _ _ _ us hl => match us, hl with | [_, _], _ => rfl
theorem bd_law_owners {K : PySem.W.Frag} {f : Addr} {fd : FuncData} (F : Fun K "_law_e_owners" "_law_e_owners" s_law_owners f fd) : Binds K fd ["sack", "n"] [] := F.binds fun _ _ _ _ _ _ us hl => match us, hl with | [_, _], _ => rfl
theorem bd_law_due {K : PySem.W.Frag} {f : Addr} {fd : FuncData} (F : Fun K "_law_e_due" "_law_e_due" s_law_due f fd) : Binds K fd ["owners", "board"] [] := F.binds fun _ _ _ _ _ _ us hl => match us, hl with | [_, _], _ => rfl
theorem bd_law {K : PySem.W.Frag} {f : Addr} {fd : FuncData} (F : Fun K "law" "law" s_law f fd) : Binds K fd ["script"] [] := F.binds fun _ _ _ _ _ _ us hl => match us, hl with | [_], _ => rfl
section
variable {K : PySem.W.Frag} {w : World} {mg : Str → Option Value} {h : Heap} (X : K.In h) (G : h.Ns mainGlobals mg)
include X G
def df_mk {x : Str} {st : Stmt} {ps : List Str} {f : Addr} {oc : Value} {od an : Option Addr} {osl : Array (Option Value)} {kV doc pm cdv ct : Value} (b : ∀ {f : Addr} {fd : FuncData}, Fun K x x st f fd → Binds K fd ps [])
    (a : PySem.W.nsIn K mainGlobals x = some (some (.ref f))) (l : K.lookup f = some ⟨oc, od, .func (PySem.W.fnOf x x (defArgs st) (defBody st) (defScope st) .none kV doc pm an cdv ct), osl⟩)
    (c : PySem.W.codeIn K cdv x = true) (k : PySem.W.keepIn K (.ref f) = true) : Df K mg x st ps := ⟨f, _, fun_mk l c k, b (fun_mk l c k), PySem.W.mg_of X G a⟩
def mf_mk {C : Addr} {x qual : Str} {st : Stmt} {ps : List Str} {f : Addr} {oc : Value} {od an : Option Addr} {osl : Array (Option Value)} {kV doc pm cdv ct : Value} (b : ∀ {f : Addr} {fd : FuncData}, Fun K x qual st f fd → Binds K fd ps [])
    (a : PySem.W.findIn K (.ref C) x = some (some (.ref f))) (i : PySem.W.isFn K (.ref f) = true) (l : K.lookup f = some ⟨oc, od, .func (PySem.W.fnOf x qual (defArgs st) (defBody st) (defScope st) .none kV doc pm an cdv ct), osl⟩)
    (c : PySem.W.codeIn K cdv qual = true) (k : PySem.W.keepIn K (.ref f) = true) : Mf K C x qual st ps := ⟨f, _, fun_mk l c k, b (fun_mk l c k), ⟨a, i, k⟩⟩
def kl_mk {C : Addr} {x : Str} (a : PySem.W.nsIn K mainGlobals x = some (some (.ref C))) (pg : PySem.W.plainGet K C Str.empty = true) (hd : PySem.W.hasDictIn K C = true) (po : PySem.W.plainOver K C = true)
    (sa : PySem.W.findIn K (.ref C) "__setattr__" = some (some (.builtin "object.__setattr__"))) (mk : PySem.W.makesIn K C = true) (kc : PySem.W.keepIn K (.ref C) = true) : Kl K mg x := ⟨C, ⟨pg, hd, po, sa⟩, PySem.W.mg_of X G a, mk, kc⟩
theorem int_mk {x : Str} {i : Int} {t : Tok} (a : PySem.W.nsIn K mainGlobals x = some (some (.int i t))) : ∃ t, mg x = some (.int i t) := ⟨t, PySem.W.mg_of X G a⟩
theorem kt_mk {a : Addr} {x : Str} {zs : List Str} {od : Option Addr} {its : Array Value} {n : Nat} {sl : Array (Option Value)} (m : PySem.W.nsIn K mainGlobals x = some (some (.ref a))) (l : K.lookup a = some ⟨.type "tuple", od, .seq its n, sl⟩)
    (v : Vals (zs.map V.str) its.toList) (hz : zs.length ≤ 1000) : Nonempty (Kt K mg x zs) := by
  refine ⟨⟨a, PySem.W.mg_of X G m, fun H => .inr ⟨_, its, n, l, rfl, rfl, ?_, v⟩⟩⟩
  have e1 := v.length
  have e2 : its.toList.length = its.size := by simp
  rw [List.length_map] at e1
  exact line_of (by omega)
structure Bd_SHAPES (K : PySem.W.Frag) (w : World) (mg : Str → Option Value) where
  d : Kd K w mg "SHAPES" ["put", "if", "need", "tell"]
  i_put : KDct K w d.a "put" (.str "pt")
  i_if : KDct K w d.a "if" (.str "tpt")
  i_need : KDct K w d.a "need" (.str "t")
  i_tell : KDct K w d.a "tell" (.str "t")
theorem mk_SHAPES {a : Addr} {es : Array DictEntry} {n : Nat} {t0 t1 t2 t3 : Tok} (m : PySem.W.nsIn K mainGlobals "SHAPES" = some (some (.ref a))) (l : K.lookup a = some ⟨.type "dict", none, .dict es n, #[]⟩) (kl : PySem.W.KeysLit w.params es.toList) (kt : keyTexts es = (["put", "if", "need", "tell"] : List Str)) (lo : (a == sysModules) = false)
    (i0 : PySem.W.nsIn K a "put" = some (some (.str "pt" t0)))
    (i1 : PySem.W.nsIn K a "if" = some (some (.str "tpt" t1)))
    (i2 : PySem.W.nsIn K a "need" = some (some (.str "t" t2)))
    (i3 : PySem.W.nsIn K a "tell" = some (some (.str "t" t3)))
    : Nonempty (Bd_SHAPES K w mg) := ⟨⟨⟨a, PySem.W.mg_of X G m, ⟨⟨es, n, l, kl, kt⟩, lo⟩⟩, ⟨es, n, _, l, kl, i0, ⟨_, rfl⟩⟩, ⟨es, n, _, l, kl, i1, ⟨_, rfl⟩⟩, ⟨es, n, _, l, kl, i2, ⟨_, rfl⟩⟩, ⟨es, n, _, l, kl, i3, ⟨_, rfl⟩⟩⟩⟩
structure Bd_DEEDS (K : PySem.W.Frag) (w : World) (mg : Str → Option Value) where
  d : Kd K w mg "DEEDS" ["send", "take", "go", "keep", "fall"]
  i_send : KDct K w d.a "send" (.int 2)
  i_take : KDct K w d.a "take" (.int 3)
  i_go : KDct K w d.a "go" (.int 2)
  i_keep : KDct K w d.a "keep" (.int 2)
  i_fall : KDct K w d.a "fall" (.int 2)
theorem mk_DEEDS {a : Addr} {es : Array DictEntry} {n : Nat} {t0 t1 t2 t3 t4 : Tok} (m : PySem.W.nsIn K mainGlobals "DEEDS" = some (some (.ref a))) (l : K.lookup a = some ⟨.type "dict", none, .dict es n, #[]⟩) (kl : PySem.W.KeysLit w.params es.toList) (kt : keyTexts es = (["send", "take", "go", "keep", "fall"] : List Str)) (lo : (a == sysModules) = false)
    (i0 : PySem.W.nsIn K a "send" = some (some (.int 2 t0)))
    (i1 : PySem.W.nsIn K a "take" = some (some (.int 3 t1)))
    (i2 : PySem.W.nsIn K a "go" = some (some (.int 2 t2)))
    (i3 : PySem.W.nsIn K a "keep" = some (some (.int 2 t3)))
    (i4 : PySem.W.nsIn K a "fall" = some (some (.int 2 t4)))
    : Nonempty (Bd_DEEDS K w mg) := ⟨⟨⟨a, PySem.W.mg_of X G m, ⟨⟨es, n, l, kl, kt⟩, lo⟩⟩, ⟨es, n, _, l, kl, i0, ⟨_, rfl⟩⟩, ⟨es, n, _, l, kl, i1, ⟨_, rfl⟩⟩, ⟨es, n, _, l, kl, i2, ⟨_, rfl⟩⟩, ⟨es, n, _, l, kl, i3, ⟨_, rfl⟩⟩, ⟨es, n, _, l, kl, i4, ⟨_, rfl⟩⟩⟩⟩
end
structure Bc_Doing (K : PySem.W.Frag) (mg : Str → Option Value) where
  kl : Kl K mg "Doing"
  n_first : NoAttr K kl.C "first"
  n_here : NoAttr K kl.C "here"
  n_looked : NoAttr K kl.C "looked"
  n_put_at : NoAttr K kl.C "put_at"
  n_told : NoAttr K kl.C "told"
  n_stopped : NoAttr K kl.C "stopped"
  Doing_init : Mf K kl.C "__init__" "Doing.__init__" s_Doing_init ["self", "board"]
  Doing_reckon : Mf K kl.C "reckon" "Doing.reckon" s_Doing_reckon ["self", "term"]
  Doing_put : Mf K kl.C "put" "Doing.put" s_Doing_put ["self", "place", "term"]
  Doing_step : Mf K kl.C "step" "Doing.step" s_Doing_step ["self", "number", "step"]
  Doing_outcome : Mf K kl.C "outcome" "Doing.outcome" s_Doing_outcome ["self"]
theorem bc_Doing {K : PySem.W.Frag} {mg : Str → Option Value} {h : Heap} (X : K.In h) (G : h.Ns mainGlobals mg) {C : Addr}
    (a : PySem.W.nsIn K mainGlobals "Doing" = some (some (.ref C))) (pg : PySem.W.plainGet K C Str.empty = true) (hd : PySem.W.hasDictIn K C = true) (po : PySem.W.plainOver K C = true) (sa : PySem.W.findIn K (.ref C) "__setattr__" = some (some (.builtin "object.__setattr__"))) (mk : PySem.W.makesIn K C = true) (kc : PySem.W.keepIn K (.ref C) = true)
    (n_first : PySem.W.findIn K (.ref C) "first" = some none)
    (n_here : PySem.W.findIn K (.ref C) "here" = some none)
    (n_looked : PySem.W.findIn K (.ref C) "looked" = some none)
    (n_put_at : PySem.W.findIn K (.ref C) "put_at" = some none)
    (n_told : PySem.W.findIn K (.ref C) "told" = some none)
    (n_stopped : PySem.W.findIn K (.ref C) "stopped" = some none)
    {f0 : Addr} {oc0 : Value} {od0 an0 : Option Addr} {osl0 : Array (Option Value)} {kV0 doc0 pm0 cdv0 ct0 : Value}
    (a0 : PySem.W.findIn K (.ref C) "__init__" = some (some (.ref f0))) (i0 : PySem.W.isFn K (.ref f0) = true) (l0 : K.lookup f0 = some ⟨oc0, od0, .func (PySem.W.fnOf "__init__" "Doing.__init__" (defArgs s_Doing_init) (defBody s_Doing_init) (defScope s_Doing_init) .none kV0 doc0 pm0 an0 cdv0 ct0), osl0⟩) (c0 : PySem.W.codeIn K cdv0 "Doing.__init__" = true) (k0 : PySem.W.keepIn K (.ref f0) = true)
    {f1 : Addr} {oc1 : Value} {od1 an1 : Option Addr} {osl1 : Array (Option Value)} {kV1 doc1 pm1 cdv1 ct1 : Value}
    (a1 : PySem.W.findIn K (.ref C) "reckon" = some (some (.ref f1))) (i1 : PySem.W.isFn K (.ref f1) = true) (l1 : K.lookup f1 = some ⟨oc1, od1, .func (PySem.W.fnOf "reckon" "Doing.reckon" (defArgs s_Doing_reckon) (defBody s_Doing_reckon) (defScope s_Doing_reckon) .none kV1 doc1 pm1 an1 cdv1 ct1), osl1⟩) (c1 : PySem.W.codeIn K cdv1 "Doing.reckon" = true) (k1 : PySem.W.keepIn K (.ref f1) = true)
    {f2 : Addr} {oc2 : Value} {od2 an2 : Option Addr} {osl2 : Array (Option Value)} {kV2 doc2 pm2 cdv2 ct2 : Value}
    (a2 : PySem.W.findIn K (.ref C) "put" = some (some (.ref f2))) (i2 : PySem.W.isFn K (.ref f2) = true) (l2 : K.lookup f2 = some ⟨oc2, od2, .func (PySem.W.fnOf "put" "Doing.put" (defArgs s_Doing_put) (defBody s_Doing_put) (defScope s_Doing_put) .none kV2 doc2 pm2 an2 cdv2 ct2), osl2⟩) (c2 : PySem.W.codeIn K cdv2 "Doing.put" = true) (k2 : PySem.W.keepIn K (.ref f2) = true)
    {f3 : Addr} {oc3 : Value} {od3 an3 : Option Addr} {osl3 : Array (Option Value)} {kV3 doc3 pm3 cdv3 ct3 : Value}
    (a3 : PySem.W.findIn K (.ref C) "step" = some (some (.ref f3))) (i3 : PySem.W.isFn K (.ref f3) = true) (l3 : K.lookup f3 = some ⟨oc3, od3, .func (PySem.W.fnOf "step" "Doing.step" (defArgs s_Doing_step) (defBody s_Doing_step) (defScope s_Doing_step) .none kV3 doc3 pm3 an3 cdv3 ct3), osl3⟩) (c3 : PySem.W.codeIn K cdv3 "Doing.step" = true) (k3 : PySem.W.keepIn K (.ref f3) = true)
    {f4 : Addr} {oc4 : Value} {od4 an4 : Option Addr} {osl4 : Array (Option Value)} {kV4 doc4 pm4 cdv4 ct4 : Value}
    (a4 : PySem.W.findIn K (.ref C) "outcome" = some (some (.ref f4))) (i4 : PySem.W.isFn K (.ref f4) = true) (l4 : K.lookup f4 = some ⟨oc4, od4, .func (PySem.W.fnOf "outcome" "Doing.outcome" (defArgs s_Doing_outcome) (defBody s_Doing_outcome) (defScope s_Doing_outcome) .none kV4 doc4 pm4 an4 cdv4 ct4), osl4⟩) (c4 : PySem.W.codeIn K cdv4 "Doing.outcome" = true) (k4 : PySem.W.keepIn K (.ref f4) = true)
    : Nonempty (Bc_Doing K mg) := ⟨⟨kl_mk X G a pg hd po sa mk kc, n_first, n_here, n_looked, n_put_at, n_told, n_stopped, mf_mk bd_Doing_init a0 i0 l0 c0 k0, mf_mk bd_Doing_reckon a1 i1 l1 c1 k1, mf_mk bd_Doing_put a2 i2 l2 c2 k2, mf_mk bd_Doing_step a3 i3 l3 c3 k3, mf_mk bd_Doing_outcome a4 i4 l4 c4 k4⟩⟩
structure Bc_House (K : PySem.W.Frag) (mg : Str → Option Value) where
  kl : Kl K mg "House"
  n_own : NoAttr K kl.C "own"
  n_count : NoAttr K kl.C "count"
  n_said : NoAttr K kl.C "said"
  n_desk : NoAttr K kl.C "desk"
  n_copy : NoAttr K kl.C "copy"
  House_init : Mf K kl.C "__init__" "House.__init__" s_House_init ["self", "own"]
theorem bc_House {K : PySem.W.Frag} {mg : Str → Option Value} {h : Heap} (X : K.In h) (G : h.Ns mainGlobals mg) {C : Addr}
    (a : PySem.W.nsIn K mainGlobals "House" = some (some (.ref C))) (pg : PySem.W.plainGet K C Str.empty = true) (hd : PySem.W.hasDictIn K C = true) (po : PySem.W.plainOver K C = true) (sa : PySem.W.findIn K (.ref C) "__setattr__" = some (some (.builtin "object.__setattr__"))) (mk : PySem.W.makesIn K C = true) (kc : PySem.W.keepIn K (.ref C) = true)
    (n_own : PySem.W.findIn K (.ref C) "own" = some none)
    (n_count : PySem.W.findIn K (.ref C) "count" = some none)
    (n_said : PySem.W.findIn K (.ref C) "said" = some none)
    (n_desk : PySem.W.findIn K (.ref C) "desk" = some none)
    (n_copy : PySem.W.findIn K (.ref C) "copy" = some none)
    {f0 : Addr} {oc0 : Value} {od0 an0 : Option Addr} {osl0 : Array (Option Value)} {kV0 doc0 pm0 cdv0 ct0 : Value}
    (a0 : PySem.W.findIn K (.ref C) "__init__" = some (some (.ref f0))) (i0 : PySem.W.isFn K (.ref f0) = true) (l0 : K.lookup f0 = some ⟨oc0, od0, .func (PySem.W.fnOf "__init__" "House.__init__" (defArgs s_House_init) (defBody s_House_init) (defScope s_House_init) .none kV0 doc0 pm0 an0 cdv0 ct0), osl0⟩) (c0 : PySem.W.codeIn K cdv0 "House.__init__" = true) (k0 : PySem.W.keepIn K (.ref f0) = true)
    : Nonempty (Bc_House K mg) := ⟨⟨kl_mk X G a pg hd po sa mk kc, n_own, n_count, n_said, n_desk, n_copy, mf_mk bd_House_init a0 i0 l0 c0 k0⟩⟩
structure Bc_Crew (K : PySem.W.Frag) (mg : Str → Option Value) where
  kl : Kl K mg "Crew"
  n_owners : NoAttr K kl.C "owners"
  n_row : NoAttr K kl.C "row"
  n_wall : NoAttr K kl.C "wall"
  n_wanted : NoAttr K kl.C "wanted"
  n_members : NoAttr K kl.C "members"
  Crew_init : Mf K kl.C "__init__" "Crew.__init__" s_Crew_init ["self", "owners", "board", "row"]
  Crew_wanting : Mf K kl.C "wanting" "Crew.wanting" s_Crew_wanting ["self", "number"]
  Crew_keys_of : Mf K kl.C "keys_of" "Crew.keys_of" s_Crew_keys_of ["self", "number", "house"]
  Crew_due_of : Mf K kl.C "due_of" "Crew.due_of" s_Crew_due_of ["self", "house"]
  Crew_may_send : Mf K kl.C "may_send" "Crew.may_send" s_Crew_may_send ["self", "house"]
  Crew_may_take : Mf K kl.C "may_take" "Crew.may_take" s_Crew_may_take ["self", "house", "other"]
  Crew_may_go : Mf K kl.C "may_go" "Crew.may_go" s_Crew_may_go ["self", "house"]
  Crew_may : Mf K kl.C "may" "Crew.may" s_Crew_may ["self"]
  Crew_may_do : Mf K kl.C "may_do" "Crew.may_do" s_Crew_may_do ["self", "deed"]
  Crew_need_deed : Mf K kl.C "need_deed" "Crew.need_deed" s_Crew_need_deed ["self", "deed"]
  Crew_need_house : Mf K kl.C "need_house" "Crew.need_house" s_Crew_need_house ["self", "house"]
  Crew_do : Mf K kl.C "do" "Crew.do" s_Crew_do ["self", "deed"]
  Crew_send : Mf K kl.C "send" "Crew.send" s_Crew_send ["self", "house"]
  Crew_board_of : Mf K kl.C "board_of" "Crew.board_of" s_Crew_board_of ["self", "house", "number"]
  Crew_go : Mf K kl.C "go" "Crew.go" s_Crew_go ["self", "house"]
  Crew_houses : Mf K kl.C "houses" "Crew.houses" s_Crew_houses ["self"]
  Crew_worths : Mf K kl.C "worths" "Crew.worths" s_Crew_worths ["self", "house"]
theorem bc_Crew {K : PySem.W.Frag} {mg : Str → Option Value} {h : Heap} (X : K.In h) (G : h.Ns mainGlobals mg) {C : Addr}
    (a : PySem.W.nsIn K mainGlobals "Crew" = some (some (.ref C))) (pg : PySem.W.plainGet K C Str.empty = true) (hd : PySem.W.hasDictIn K C = true) (po : PySem.W.plainOver K C = true) (sa : PySem.W.findIn K (.ref C) "__setattr__" = some (some (.builtin "object.__setattr__"))) (mk : PySem.W.makesIn K C = true) (kc : PySem.W.keepIn K (.ref C) = true)
    (n_owners : PySem.W.findIn K (.ref C) "owners" = some none)
    (n_row : PySem.W.findIn K (.ref C) "row" = some none)
    (n_wall : PySem.W.findIn K (.ref C) "wall" = some none)
    (n_wanted : PySem.W.findIn K (.ref C) "wanted" = some none)
    (n_members : PySem.W.findIn K (.ref C) "members" = some none)
    {f0 : Addr} {oc0 : Value} {od0 an0 : Option Addr} {osl0 : Array (Option Value)} {kV0 doc0 pm0 cdv0 ct0 : Value}
    (a0 : PySem.W.findIn K (.ref C) "__init__" = some (some (.ref f0))) (i0 : PySem.W.isFn K (.ref f0) = true) (l0 : K.lookup f0 = some ⟨oc0, od0, .func (PySem.W.fnOf "__init__" "Crew.__init__" (defArgs s_Crew_init) (defBody s_Crew_init) (defScope s_Crew_init) .none kV0 doc0 pm0 an0 cdv0 ct0), osl0⟩) (c0 : PySem.W.codeIn K cdv0 "Crew.__init__" = true) (k0 : PySem.W.keepIn K (.ref f0) = true)
    {f1 : Addr} {oc1 : Value} {od1 an1 : Option Addr} {osl1 : Array (Option Value)} {kV1 doc1 pm1 cdv1 ct1 : Value}
    (a1 : PySem.W.findIn K (.ref C) "wanting" = some (some (.ref f1))) (i1 : PySem.W.isFn K (.ref f1) = true) (l1 : K.lookup f1 = some ⟨oc1, od1, .func (PySem.W.fnOf "wanting" "Crew.wanting" (defArgs s_Crew_wanting) (defBody s_Crew_wanting) (defScope s_Crew_wanting) .none kV1 doc1 pm1 an1 cdv1 ct1), osl1⟩) (c1 : PySem.W.codeIn K cdv1 "Crew.wanting" = true) (k1 : PySem.W.keepIn K (.ref f1) = true)
    {f2 : Addr} {oc2 : Value} {od2 an2 : Option Addr} {osl2 : Array (Option Value)} {kV2 doc2 pm2 cdv2 ct2 : Value}
    (a2 : PySem.W.findIn K (.ref C) "keys_of" = some (some (.ref f2))) (i2 : PySem.W.isFn K (.ref f2) = true) (l2 : K.lookup f2 = some ⟨oc2, od2, .func (PySem.W.fnOf "keys_of" "Crew.keys_of" (defArgs s_Crew_keys_of) (defBody s_Crew_keys_of) (defScope s_Crew_keys_of) .none kV2 doc2 pm2 an2 cdv2 ct2), osl2⟩) (c2 : PySem.W.codeIn K cdv2 "Crew.keys_of" = true) (k2 : PySem.W.keepIn K (.ref f2) = true)
    {f3 : Addr} {oc3 : Value} {od3 an3 : Option Addr} {osl3 : Array (Option Value)} {kV3 doc3 pm3 cdv3 ct3 : Value}
    (a3 : PySem.W.findIn K (.ref C) "due_of" = some (some (.ref f3))) (i3 : PySem.W.isFn K (.ref f3) = true) (l3 : K.lookup f3 = some ⟨oc3, od3, .func (PySem.W.fnOf "due_of" "Crew.due_of" (defArgs s_Crew_due_of) (defBody s_Crew_due_of) (defScope s_Crew_due_of) .none kV3 doc3 pm3 an3 cdv3 ct3), osl3⟩) (c3 : PySem.W.codeIn K cdv3 "Crew.due_of" = true) (k3 : PySem.W.keepIn K (.ref f3) = true)
    {f4 : Addr} {oc4 : Value} {od4 an4 : Option Addr} {osl4 : Array (Option Value)} {kV4 doc4 pm4 cdv4 ct4 : Value}
    (a4 : PySem.W.findIn K (.ref C) "may_send" = some (some (.ref f4))) (i4 : PySem.W.isFn K (.ref f4) = true) (l4 : K.lookup f4 = some ⟨oc4, od4, .func (PySem.W.fnOf "may_send" "Crew.may_send" (defArgs s_Crew_may_send) (defBody s_Crew_may_send) (defScope s_Crew_may_send) .none kV4 doc4 pm4 an4 cdv4 ct4), osl4⟩) (c4 : PySem.W.codeIn K cdv4 "Crew.may_send" = true) (k4 : PySem.W.keepIn K (.ref f4) = true)
    {f5 : Addr} {oc5 : Value} {od5 an5 : Option Addr} {osl5 : Array (Option Value)} {kV5 doc5 pm5 cdv5 ct5 : Value}
    (a5 : PySem.W.findIn K (.ref C) "may_take" = some (some (.ref f5))) (i5 : PySem.W.isFn K (.ref f5) = true) (l5 : K.lookup f5 = some ⟨oc5, od5, .func (PySem.W.fnOf "may_take" "Crew.may_take" (defArgs s_Crew_may_take) (defBody s_Crew_may_take) (defScope s_Crew_may_take) .none kV5 doc5 pm5 an5 cdv5 ct5), osl5⟩) (c5 : PySem.W.codeIn K cdv5 "Crew.may_take" = true) (k5 : PySem.W.keepIn K (.ref f5) = true)
    {f6 : Addr} {oc6 : Value} {od6 an6 : Option Addr} {osl6 : Array (Option Value)} {kV6 doc6 pm6 cdv6 ct6 : Value}
    (a6 : PySem.W.findIn K (.ref C) "may_go" = some (some (.ref f6))) (i6 : PySem.W.isFn K (.ref f6) = true) (l6 : K.lookup f6 = some ⟨oc6, od6, .func (PySem.W.fnOf "may_go" "Crew.may_go" (defArgs s_Crew_may_go) (defBody s_Crew_may_go) (defScope s_Crew_may_go) .none kV6 doc6 pm6 an6 cdv6 ct6), osl6⟩) (c6 : PySem.W.codeIn K cdv6 "Crew.may_go" = true) (k6 : PySem.W.keepIn K (.ref f6) = true)
    {f7 : Addr} {oc7 : Value} {od7 an7 : Option Addr} {osl7 : Array (Option Value)} {kV7 doc7 pm7 cdv7 ct7 : Value}
    (a7 : PySem.W.findIn K (.ref C) "may" = some (some (.ref f7))) (i7 : PySem.W.isFn K (.ref f7) = true) (l7 : K.lookup f7 = some ⟨oc7, od7, .func (PySem.W.fnOf "may" "Crew.may" (defArgs s_Crew_may) (defBody s_Crew_may) (defScope s_Crew_may) .none kV7 doc7 pm7 an7 cdv7 ct7), osl7⟩) (c7 : PySem.W.codeIn K cdv7 "Crew.may" = true) (k7 : PySem.W.keepIn K (.ref f7) = true)
    {f8 : Addr} {oc8 : Value} {od8 an8 : Option Addr} {osl8 : Array (Option Value)} {kV8 doc8 pm8 cdv8 ct8 : Value}
    (a8 : PySem.W.findIn K (.ref C) "may_do" = some (some (.ref f8))) (i8 : PySem.W.isFn K (.ref f8) = true) (l8 : K.lookup f8 = some ⟨oc8, od8, .func (PySem.W.fnOf "may_do" "Crew.may_do" (defArgs s_Crew_may_do) (defBody s_Crew_may_do) (defScope s_Crew_may_do) .none kV8 doc8 pm8 an8 cdv8 ct8), osl8⟩) (c8 : PySem.W.codeIn K cdv8 "Crew.may_do" = true) (k8 : PySem.W.keepIn K (.ref f8) = true)
    {f9 : Addr} {oc9 : Value} {od9 an9 : Option Addr} {osl9 : Array (Option Value)} {kV9 doc9 pm9 cdv9 ct9 : Value}
    (a9 : PySem.W.findIn K (.ref C) "need_deed" = some (some (.ref f9))) (i9 : PySem.W.isFn K (.ref f9) = true) (l9 : K.lookup f9 = some ⟨oc9, od9, .func (PySem.W.fnOf "need_deed" "Crew.need_deed" (defArgs s_Crew_need_deed) (defBody s_Crew_need_deed) (defScope s_Crew_need_deed) .none kV9 doc9 pm9 an9 cdv9 ct9), osl9⟩) (c9 : PySem.W.codeIn K cdv9 "Crew.need_deed" = true) (k9 : PySem.W.keepIn K (.ref f9) = true)
    {f10 : Addr} {oc10 : Value} {od10 an10 : Option Addr} {osl10 : Array (Option Value)} {kV10 doc10 pm10 cdv10 ct10 : Value}
    (a10 : PySem.W.findIn K (.ref C) "need_house" = some (some (.ref f10))) (i10 : PySem.W.isFn K (.ref f10) = true) (l10 : K.lookup f10 = some ⟨oc10, od10, .func (PySem.W.fnOf "need_house" "Crew.need_house" (defArgs s_Crew_need_house) (defBody s_Crew_need_house) (defScope s_Crew_need_house) .none kV10 doc10 pm10 an10 cdv10 ct10), osl10⟩) (c10 : PySem.W.codeIn K cdv10 "Crew.need_house" = true) (k10 : PySem.W.keepIn K (.ref f10) = true)
    {f11 : Addr} {oc11 : Value} {od11 an11 : Option Addr} {osl11 : Array (Option Value)} {kV11 doc11 pm11 cdv11 ct11 : Value}
    (a11 : PySem.W.findIn K (.ref C) "do" = some (some (.ref f11))) (i11 : PySem.W.isFn K (.ref f11) = true) (l11 : K.lookup f11 = some ⟨oc11, od11, .func (PySem.W.fnOf "do" "Crew.do" (defArgs s_Crew_do) (defBody s_Crew_do) (defScope s_Crew_do) .none kV11 doc11 pm11 an11 cdv11 ct11), osl11⟩) (c11 : PySem.W.codeIn K cdv11 "Crew.do" = true) (k11 : PySem.W.keepIn K (.ref f11) = true)
    {f12 : Addr} {oc12 : Value} {od12 an12 : Option Addr} {osl12 : Array (Option Value)} {kV12 doc12 pm12 cdv12 ct12 : Value}
    (a12 : PySem.W.findIn K (.ref C) "send" = some (some (.ref f12))) (i12 : PySem.W.isFn K (.ref f12) = true) (l12 : K.lookup f12 = some ⟨oc12, od12, .func (PySem.W.fnOf "send" "Crew.send" (defArgs s_Crew_send) (defBody s_Crew_send) (defScope s_Crew_send) .none kV12 doc12 pm12 an12 cdv12 ct12), osl12⟩) (c12 : PySem.W.codeIn K cdv12 "Crew.send" = true) (k12 : PySem.W.keepIn K (.ref f12) = true)
    {f13 : Addr} {oc13 : Value} {od13 an13 : Option Addr} {osl13 : Array (Option Value)} {kV13 doc13 pm13 cdv13 ct13 : Value}
    (a13 : PySem.W.findIn K (.ref C) "board_of" = some (some (.ref f13))) (i13 : PySem.W.isFn K (.ref f13) = true) (l13 : K.lookup f13 = some ⟨oc13, od13, .func (PySem.W.fnOf "board_of" "Crew.board_of" (defArgs s_Crew_board_of) (defBody s_Crew_board_of) (defScope s_Crew_board_of) .none kV13 doc13 pm13 an13 cdv13 ct13), osl13⟩) (c13 : PySem.W.codeIn K cdv13 "Crew.board_of" = true) (k13 : PySem.W.keepIn K (.ref f13) = true)
    {f14 : Addr} {oc14 : Value} {od14 an14 : Option Addr} {osl14 : Array (Option Value)} {kV14 doc14 pm14 cdv14 ct14 : Value}
    (a14 : PySem.W.findIn K (.ref C) "go" = some (some (.ref f14))) (i14 : PySem.W.isFn K (.ref f14) = true) (l14 : K.lookup f14 = some ⟨oc14, od14, .func (PySem.W.fnOf "go" "Crew.go" (defArgs s_Crew_go) (defBody s_Crew_go) (defScope s_Crew_go) .none kV14 doc14 pm14 an14 cdv14 ct14), osl14⟩) (c14 : PySem.W.codeIn K cdv14 "Crew.go" = true) (k14 : PySem.W.keepIn K (.ref f14) = true)
    {f15 : Addr} {oc15 : Value} {od15 an15 : Option Addr} {osl15 : Array (Option Value)} {kV15 doc15 pm15 cdv15 ct15 : Value}
    (a15 : PySem.W.findIn K (.ref C) "houses" = some (some (.ref f15))) (i15 : PySem.W.isFn K (.ref f15) = true) (l15 : K.lookup f15 = some ⟨oc15, od15, .func (PySem.W.fnOf "houses" "Crew.houses" (defArgs s_Crew_houses) (defBody s_Crew_houses) (defScope s_Crew_houses) .none kV15 doc15 pm15 an15 cdv15 ct15), osl15⟩) (c15 : PySem.W.codeIn K cdv15 "Crew.houses" = true) (k15 : PySem.W.keepIn K (.ref f15) = true)
    {f16 : Addr} {oc16 : Value} {od16 an16 : Option Addr} {osl16 : Array (Option Value)} {kV16 doc16 pm16 cdv16 ct16 : Value}
    (a16 : PySem.W.findIn K (.ref C) "worths" = some (some (.ref f16))) (i16 : PySem.W.isFn K (.ref f16) = true) (l16 : K.lookup f16 = some ⟨oc16, od16, .func (PySem.W.fnOf "worths" "Crew.worths" (defArgs s_Crew_worths) (defBody s_Crew_worths) (defScope s_Crew_worths) .none kV16 doc16 pm16 an16 cdv16 ct16), osl16⟩) (c16 : PySem.W.codeIn K cdv16 "Crew.worths" = true) (k16 : PySem.W.keepIn K (.ref f16) = true)
    : Nonempty (Bc_Crew K mg) := ⟨⟨kl_mk X G a pg hd po sa mk kc, n_owners, n_row, n_wall, n_wanted, n_members, mf_mk bd_Crew_init a0 i0 l0 c0 k0, mf_mk bd_Crew_wanting a1 i1 l1 c1 k1, mf_mk bd_Crew_keys_of a2 i2 l2 c2 k2, mf_mk bd_Crew_due_of a3 i3 l3 c3 k3, mf_mk bd_Crew_may_send a4 i4 l4 c4 k4, mf_mk bd_Crew_may_take a5 i5 l5 c5 k5, mf_mk bd_Crew_may_go a6 i6 l6 c6 k6, mf_mk bd_Crew_may a7 i7 l7 c7 k7, mf_mk bd_Crew_may_do a8 i8 l8 c8 k8, mf_mk bd_Crew_need_deed a9 i9 l9 c9 k9, mf_mk bd_Crew_need_house a10 i10 l10 c10 k10, mf_mk bd_Crew_do a11 i11 l11 c11 k11, mf_mk bd_Crew_send a12 i12 l12 c12 k12, mf_mk bd_Crew_board_of a13 i13 l13 c13 k13, mf_mk bd_Crew_go a14 i14 l14 c14 k14, mf_mk bd_Crew_houses a15 i15 l15 c15 k15, mf_mk bd_Crew_worths a16 i16 l16 c16 k16⟩⟩
theorem all_mk {l : PySem.W.OpenLaw} {w : World} {K : PySem.W.Frag} {h : Heap} {mg : Str → Option Value} {fa f4 : Addr} (X : K.In h) (G : h.Ns mainGlobals mg) (hfa : mg "law" = some (.ref fa))
    {od4 an4 : Option Addr} {sl4 : Array (Option Value)} {oc4 kV4 dc4 pm4 cd4 ct4 : Value}
    (a4 : PySem.W.nsIn K mainGlobals "law" = some (some (.ref f4))) (l4 : K.lookup f4 = some ⟨oc4, od4, .func (PySem.W.fnOf "law" "law" (defArgs s_law) (defBody s_law) (defScope s_law) .none kV4 dc4 pm4 an4 cd4 ct4), sl4⟩) (c4 : PySem.W.codeIn K cd4 "law" = true) (k4 : PySem.W.keepIn K (.ref f4) = true)
    (z_len : PySem.W.nsIn K mainGlobals "len" = some none)
    (z_isinstance : PySem.W.nsIn K mainGlobals "isinstance" = some none)
    (z_all : PySem.W.nsIn K mainGlobals "all" = some none)
    (z_sorted : PySem.W.nsIn K mainGlobals "sorted" = some none)
    (z_tuple : PySem.W.nsIn K mainGlobals "tuple" = some none)
    (z_list : PySem.W.nsIn K mainGlobals "list" = some none)
    (z_dict : PySem.W.nsIn K mainGlobals "dict" = some none)
    (z_set : PySem.W.nsIn K mainGlobals "set" = some none)
    (z_int : PySem.W.nsIn K mainGlobals "int" = some none)
    (z_bool : PySem.W.nsIn K mainGlobals "bool" = some none)
    (z_str : PySem.W.nsIn K mainGlobals "str" = some none)
    (z_range : PySem.W.nsIn K mainGlobals "range" = some none)
    (z_zip : PySem.W.nsIn K mainGlobals "zip" = some none)
    (z_enumerate : PySem.W.nsIn K mainGlobals "enumerate" = some none)
    (c_WHEEL : ∃ t, mg "WHEEL" = some (.int 1000000 t))
    (c_MOST_KEYS_terms : ∃ t, mg "MOST_KEYS_terms" = some (.int 12 t))
    (c_MOST_TUPLES : ∃ t, mg "MOST_TUPLES" = some (.int 12 t))
    (c_MOST_DEEP : ∃ t, mg "MOST_DEEP" = some (.int 6 t))
    (c_TWO : Nonempty (Kt K mg "TWO" ["sum", "less", "under", "same"]))
    (c_MOST_STEPS : ∃ t, mg "MOST_STEPS" = some (.int 8 t))
    (c_SHAPES : Nonempty (Bd_SHAPES K w mg))
    (c_MOST_LAID : ∃ t, mg "MOST_LAID" = some (.int 40 t))
    (c_MOST_KEYS_laid : ∃ t, mg "MOST_KEYS_laid" = some (.int 12 t))
    (c_STRANGE : Nonempty (Kt K mg "STRANGE" ["strange"]))
    (c_LAST_HOUSE : ∃ t, mg "LAST_HOUSE" = some (.int 4 t))
    (c_DEEDS : Nonempty (Bd_DEEDS K w mg))
    (k_Doing : Nonempty (Bc_Doing K mg))
    (k_House : Nonempty (Bc_House K mg))
    (k_Crew : Nonempty (Bc_Crew K mg))
    (d_is_whole : Nonempty (Df K mg "is_whole" s_is_whole ["thing"]))
    (d_is_from_to : Nonempty (Df K mg "is_from_to" s_is_from_to ["thing", "least", "most"]))
    (d_is_worth : Nonempty (Df K mg "is_worth" s_is_worth ["thing"]))
    (d_are_worths : Nonempty (Df K mg "are_worths" s_are_worths ["thing"]))
    (d_need_worths : Nonempty (Df K mg "need_worths" s_need_worths ["board"]))
    (d_has_word : Nonempty (Df K mg "has_word" s_has_word ["thing", "size", "words"]))
    (d_parts_of : Nonempty (Df K mg "parts_of" s_parts_of ["thing"]))
    (d_is_made_term : Nonempty (Df K mg "is_made_term" s_is_made_term ["thing", "deep"]))
    (d_is_made_place : Nonempty (Df K mg "is_made_place" s_is_made_place ["thing", "deep"]))
    (d_tuples_in : Nonempty (Df K mg "tuples_in" s_tuples_in ["thing"]))
    (d_is_term : Nonempty (Df K mg "is_term" s_is_term ["thing"]))
    (d_is_place : Nonempty (Df K mg "is_place" s_is_place ["thing"]))
    (d_keys_named : Nonempty (Df K mg "keys_named" s_keys_named ["thing"]))
    (d_place_key : Nonempty (Df K mg "place_key" s_place_key ["place", "board", "looks"]))
    (d_two_reckoned : Nonempty (Df K mg "two_reckoned" s_two_reckoned ["word", "one", "other"]))
    (d_reckoned : Nonempty (Df K mg "reckoned" s_reckoned ["term", "board", "looks"]))
    (d_is_step : Nonempty (Df K mg "is_step" s_is_step ["keys", "thing"]))
    (d_is_piece : Nonempty (Df K mg "is_piece" s_is_piece ["keys", "sort", "thing"]))
    (d_is_deal : Nonempty (Df K mg "is_deal" s_is_deal ["keys", "thing"]))
    (d_need_board : Nonempty (Df K mg "need_board" s_need_board ["board"]))
    (d_gone : Nonempty (Df K mg "gone" s_gone ["deal", "board"]))
    (d_done_in : Nonempty (Df K mg "done_in" s_done_in ["deal", "board"]))
    (d_rising : Nonempty (Df K mg "rising" s_rising ["keys"]))
    (d_touched_in : Nonempty (Df K mg "touched_in" s_touched_in ["deal", "board"]))
    (d_is_key : Nonempty (Df K mg "is_key" s_is_key ["keys", "thing"]))
    (d_are_keys : Nonempty (Df K mg "are_keys" s_are_keys ["keys", "thing"]))
    (d_is_laid : Nonempty (Df K mg "is_laid" s_is_laid ["keys", "thing"]))
    (d_is_laid_row : Nonempty (Df K mg "is_laid_row" s_is_laid_row ["keys", "thing"]))
    (d_need_laid_row : Nonempty (Df K mg "need_laid_row" s_need_laid_row ["keys", "row"]))
    (d_done_laid_in : Nonempty (Df K mg "done_laid_in" s_done_laid_in ["laid", "board"]))
    (d_run_laid_in : Nonempty (Df K mg "run_laid_in" s_run_laid_in ["board", "row"]))
    (d_run_laid : Nonempty (Df K mg "run_laid" s_run_laid ["board", "row"]))
    (d_is_house_number : Nonempty (Df K mg "is_house_number" s_is_house_number ["thing"]))
    (d_need_owners : Nonempty (Df K mg "need_owners" s_need_owners ["board", "owners"]))
    (d_finish : Nonempty (Df K mg "finish" s_finish ["owners", "board", "row"]))
    (d_law_mill : Nonempty (Df K mg "_law_e_mill" s_law_mill ["cell", "at"]))
    (d_law_grain : Nonempty (Df K mg "_law_e_grain" s_law_grain ["sack", "many"]))
    (d_law_worth : Nonempty (Df K mg "_law_e_worth" s_law_worth ["sack"]))
    (d_law_term : Nonempty (Df K mg "_law_e_term" s_law_term ["sack", "n", "room", "deep"]))
    (d_law_place : Nonempty (Df K mg "_law_e_place" s_law_place ["sack", "n", "room", "deep"]))
    (d_law_step : Nonempty (Df K mg "_law_e_step" s_law_step ["sack", "n"]))
    (d_law_deal : Nonempty (Df K mg "_law_e_deal" s_law_deal ["sack", "n"]))
    (d_law_board : Nonempty (Df K mg "_law_e_board" s_law_board ["sack", "most"]))
    (d_law_reckon : Nonempty (Df K mg "_law_e_reckon" s_law_reckon ["term", "here", "looks"]))
    (d_law_key : Nonempty (Df K mg "_law_e_key" s_law_key ["place", "here", "looks"]))
    (d_law_gone : Nonempty (Df K mg "_law_e_gone" s_law_gone ["deal", "board"]))
    (d_law_laid_on : Nonempty (Df K mg "_law_e_laid_on" s_law_laid_on ["sack", "deal", "board"]))
    (d_law_laid_row : Nonempty (Df K mg "_law_e_laid_row" s_law_laid_row ["sack", "board", "most"]))
    (d_law_laid : Nonempty (Df K mg "_law_e_laid" s_law_laid ["laid", "board"]))
    (d_law_run : Nonempty (Df K mg "_law_e_run" s_law_run ["board", "row"]))
    (d_law_owners : Nonempty (Df K mg "_law_e_owners" s_law_owners ["sack", "n"]))
    (d_law_due : Nonempty (Df K mg "_law_e_due" s_law_due ["owners", "board"]))
    : ∃ fd : FuncData, (∀ (s : Shared) (v : Value), BindsTo s fd ⟨[v], []⟩ [("script", v)]) ∧ ∀ base : Heap, K.In base → base.Ns mainGlobals mg → FnOk l.prog w K mg base CX0 24 fa fd ["script"] (spLaw K) := by
  have e := hfa.symm.trans (PySem.W.mg_of X G a4)
  cases e
  obtain ⟨c_TWO⟩ := c_TWO
  obtain ⟨c_SHAPES⟩ := c_SHAPES
  obtain ⟨c_STRANGE⟩ := c_STRANGE
  obtain ⟨c_DEEDS⟩ := c_DEEDS
  obtain ⟨k_Doing⟩ := k_Doing
  obtain ⟨k_House⟩ := k_House
  obtain ⟨k_Crew⟩ := k_Crew
  obtain ⟨d_is_whole⟩ := d_is_whole
  obtain ⟨d_is_from_to⟩ := d_is_from_to
  obtain ⟨d_is_worth⟩ := d_is_worth
  obtain ⟨d_are_worths⟩ := d_are_worths
  obtain ⟨d_need_worths⟩ := d_need_worths
  obtain ⟨d_has_word⟩ := d_has_word
  obtain ⟨d_parts_of⟩ := d_parts_of
  obtain ⟨d_is_made_term⟩ := d_is_made_term
  obtain ⟨d_is_made_place⟩ := d_is_made_place
  obtain ⟨d_tuples_in⟩ := d_tuples_in
  obtain ⟨d_is_term⟩ := d_is_term
  obtain ⟨d_is_place⟩ := d_is_place
  obtain ⟨d_keys_named⟩ := d_keys_named
  obtain ⟨d_place_key⟩ := d_place_key
  obtain ⟨d_two_reckoned⟩ := d_two_reckoned
  obtain ⟨d_reckoned⟩ := d_reckoned
  obtain ⟨d_is_step⟩ := d_is_step
  obtain ⟨d_is_piece⟩ := d_is_piece
  obtain ⟨d_is_deal⟩ := d_is_deal
  obtain ⟨d_need_board⟩ := d_need_board
  obtain ⟨d_gone⟩ := d_gone
  obtain ⟨d_done_in⟩ := d_done_in
  obtain ⟨d_rising⟩ := d_rising
  obtain ⟨d_touched_in⟩ := d_touched_in
  obtain ⟨d_is_key⟩ := d_is_key
  obtain ⟨d_are_keys⟩ := d_are_keys
  obtain ⟨d_is_laid⟩ := d_is_laid
  obtain ⟨d_is_laid_row⟩ := d_is_laid_row
  obtain ⟨d_need_laid_row⟩ := d_need_laid_row
  obtain ⟨d_done_laid_in⟩ := d_done_laid_in
  obtain ⟨d_run_laid_in⟩ := d_run_laid_in
  obtain ⟨d_run_laid⟩ := d_run_laid
  obtain ⟨d_is_house_number⟩ := d_is_house_number
  obtain ⟨d_need_owners⟩ := d_need_owners
  obtain ⟨d_finish⟩ := d_finish
  obtain ⟨d_law_mill⟩ := d_law_mill
  obtain ⟨d_law_grain⟩ := d_law_grain
  obtain ⟨d_law_worth⟩ := d_law_worth
  obtain ⟨d_law_term⟩ := d_law_term
  obtain ⟨d_law_place⟩ := d_law_place
  obtain ⟨d_law_step⟩ := d_law_step
  obtain ⟨d_law_deal⟩ := d_law_deal
  obtain ⟨d_law_board⟩ := d_law_board
  obtain ⟨d_law_reckon⟩ := d_law_reckon
  obtain ⟨d_law_key⟩ := d_law_key
  obtain ⟨d_law_gone⟩ := d_law_gone
  obtain ⟨d_law_laid_on⟩ := d_law_laid_on
  obtain ⟨d_law_laid_row⟩ := d_law_laid_row
  obtain ⟨d_law_laid⟩ := d_law_laid
  obtain ⟨d_law_run⟩ := d_law_run
  obtain ⟨d_law_owners⟩ := d_law_owners
  obtain ⟨d_law_due⟩ := d_law_due
  exact ⟨PySem.W.fnOf "law" "law" (defArgs s_law) (defBody s_law) (defScope s_law) .none kV4 dc4 pm4 an4 cd4 ct4, fun s v => .of_eq rfl, fun base _ _ => ok_law (P := l.prog) (base := base)
    { z_len := PySem.W.mg_none_of X G z_len,
      z_isinstance := PySem.W.mg_none_of X G z_isinstance,
      z_all := PySem.W.mg_none_of X G z_all,
      z_sorted := PySem.W.mg_none_of X G z_sorted,
      z_tuple := PySem.W.mg_none_of X G z_tuple,
      z_list := PySem.W.mg_none_of X G z_list,
      z_dict := PySem.W.mg_none_of X G z_dict,
      z_set := PySem.W.mg_none_of X G z_set,
      z_int := PySem.W.mg_none_of X G z_int,
      z_bool := PySem.W.mg_none_of X G z_bool,
      z_str := PySem.W.mg_none_of X G z_str,
      z_range := PySem.W.mg_none_of X G z_range,
      z_zip := PySem.W.mg_none_of X G z_zip,
      z_enumerate := PySem.W.mg_none_of X G z_enumerate,
      c_WHEEL := c_WHEEL,
      c_MOST_KEYS_terms := c_MOST_KEYS_terms,
      c_MOST_TUPLES := c_MOST_TUPLES,
      c_MOST_DEEP := c_MOST_DEEP,
      c_TWO := c_TWO,
      c_MOST_STEPS := c_MOST_STEPS,
      c_SHAPES := c_SHAPES.d,
      i_SHAPES_put := c_SHAPES.i_put,
      i_SHAPES_if := c_SHAPES.i_if,
      i_SHAPES_need := c_SHAPES.i_need,
      i_SHAPES_tell := c_SHAPES.i_tell,
      c_MOST_LAID := c_MOST_LAID,
      c_MOST_KEYS_laid := c_MOST_KEYS_laid,
      c_STRANGE := c_STRANGE,
      c_LAST_HOUSE := c_LAST_HOUSE,
      c_DEEDS := c_DEEDS.d,
      i_DEEDS_send := c_DEEDS.i_send,
      i_DEEDS_take := c_DEEDS.i_take,
      i_DEEDS_go := c_DEEDS.i_go,
      i_DEEDS_keep := c_DEEDS.i_keep,
      i_DEEDS_fall := c_DEEDS.i_fall,
      k_Doing := k_Doing.kl,
      n_Doing_first := k_Doing.n_first,
      n_Doing_here := k_Doing.n_here,
      n_Doing_looked := k_Doing.n_looked,
      n_Doing_put_at := k_Doing.n_put_at,
      n_Doing_told := k_Doing.n_told,
      n_Doing_stopped := k_Doing.n_stopped,
      k_House := k_House.kl,
      n_House_own := k_House.n_own,
      n_House_count := k_House.n_count,
      n_House_said := k_House.n_said,
      n_House_desk := k_House.n_desk,
      n_House_copy := k_House.n_copy,
      k_Crew := k_Crew.kl,
      n_Crew_owners := k_Crew.n_owners,
      n_Crew_row := k_Crew.n_row,
      n_Crew_wall := k_Crew.n_wall,
      n_Crew_wanted := k_Crew.n_wanted,
      n_Crew_members := k_Crew.n_members,
      is_whole := d_is_whole,
      is_from_to := d_is_from_to,
      is_worth := d_is_worth,
      are_worths := d_are_worths,
      need_worths := d_need_worths,
      has_word := d_has_word,
      parts_of := d_parts_of,
      is_made_term := d_is_made_term,
      is_made_place := d_is_made_place,
      tuples_in := d_tuples_in,
      is_term := d_is_term,
      is_place := d_is_place,
      keys_named := d_keys_named,
      place_key := d_place_key,
      two_reckoned := d_two_reckoned,
      reckoned := d_reckoned,
      is_step := d_is_step,
      is_piece := d_is_piece,
      is_deal := d_is_deal,
      need_board := d_need_board,
      Doing_init := k_Doing.Doing_init,
      Doing_reckon := k_Doing.Doing_reckon,
      Doing_put := k_Doing.Doing_put,
      Doing_step := k_Doing.Doing_step,
      Doing_outcome := k_Doing.Doing_outcome,
      gone := d_gone,
      done_in := d_done_in,
      rising := d_rising,
      touched_in := d_touched_in,
      is_key := d_is_key,
      are_keys := d_are_keys,
      is_laid := d_is_laid,
      is_laid_row := d_is_laid_row,
      need_laid_row := d_need_laid_row,
      done_laid_in := d_done_laid_in,
      run_laid_in := d_run_laid_in,
      run_laid := d_run_laid,
      is_house_number := d_is_house_number,
      need_owners := d_need_owners,
      House_init := k_House.House_init,
      Crew_init := k_Crew.Crew_init,
      Crew_wanting := k_Crew.Crew_wanting,
      Crew_keys_of := k_Crew.Crew_keys_of,
      Crew_due_of := k_Crew.Crew_due_of,
      Crew_may_send := k_Crew.Crew_may_send,
      Crew_may_take := k_Crew.Crew_may_take,
      Crew_may_go := k_Crew.Crew_may_go,
      Crew_may := k_Crew.Crew_may,
      Crew_may_do := k_Crew.Crew_may_do,
      Crew_need_deed := k_Crew.Crew_need_deed,
      Crew_need_house := k_Crew.Crew_need_house,
      Crew_do := k_Crew.Crew_do,
      Crew_send := k_Crew.Crew_send,
      Crew_board_of := k_Crew.Crew_board_of,
      Crew_go := k_Crew.Crew_go,
      Crew_houses := k_Crew.Crew_houses,
      Crew_worths := k_Crew.Crew_worths,
      finish := d_finish,
      law_mill := d_law_mill,
      law_grain := d_law_grain,
      law_worth := d_law_worth,
      law_term := d_law_term,
      law_place := d_law_place,
      law_step := d_law_step,
      law_deal := d_law_deal,
      law_board := d_law_board,
      law_reckon := d_law_reckon,
      law_key := d_law_key,
      law_gone := d_law_gone,
      law_laid_on := d_law_laid_on,
      law_laid_row := d_law_laid_row,
      law_laid := d_law_laid,
      law_run := d_law_run,
      law_owners := d_law_owners,
      law_due := d_law_due,
      law := df_mk X G bd_law a4 l4 c4 k4 }⟩
theorem walk {l : PySem.W.OpenLaw} {q : Program} {loose : List Str} {XP : (Str → Option Value) → Heap → Prop} {YP : World → Heap → Prop} {d : DefRec} {K : Params → PySem.W.Frag} (hn : l.most = some 63) (hdf : d.params.defaults = [])
    (hY : ∀ (w : World) (h : Heap), YP w h → (K w.params).In h)
    (F : ∀ (w : World) (mg : Str → Option Value) (fa : Addr) (h : Heap), (K w.params).In h → h.Ns mainGlobals mg → mg d.name = some (.ref fa) →
      ∃ fd : FuncData, (∀ (s : Shared) (u : Value), BindsTo s fd ⟨[u], []⟩ [("script", u)]) ∧ ∀ base : Heap, (K w.params).In base → base.Ns mainGlobals mg → FnOk l.prog w (K w.params) mg base CX0 24 fa fd ["script"] (spLaw (K w.params))) :
    PySem.W.WalkO q loose XP YP l.row.toRowW d [] (fun f vs => PySem.call f vs) :=
  L2.walk_of (n := 63) (k := 24) (x := "script") (CX := fun _ => CX0) (sp := fun w => spLaw (K w.params)) hn (by decide) hdf ⟨rfl, by decide, by decide⟩ hY F (fun _ _ a ns hl _ hS => ⟨a, ns, rfl, hS, hl, fun _ => rfl⟩) fun _ _ _ _ _ z => z
end RL


open PySem PySem.W PyProof.Rows in
set_option maxRecDepth 100000 in
set_option maxHeartbeats 0 in
theorem PySem.Challenge.cw_rowlaid_k47_whole_finished_alike_holds : PySem.Challenge.rw_rowlaid_k47_whole_finished_alike.Holds := by
  w_on; o_law; k_head; (case hw => w_witness2)
  k_fill
  refine RL.walk (l := PySem.Challenge.rw_rowlaid_k47_whole_finished_alike) rfl rfl (fun w h Y => PySem.W.kIn_of Y) ?F
  case F =>
    intro w mg fa h KX G hmg
    refine' RL.all_mk KX G hmg ?a4 ?l4 ?c4 ?k4 ?z_len ?z_isinstance ?z_all ?z_sorted ?z_tuple ?z_list ?z_dict ?z_set ?z_int ?z_bool ?z_str ?z_range ?z_zip ?z_enumerate ?c_WHEEL ?c_MOST_KEYS_terms ?c_MOST_TUPLES ?c_MOST_DEEP ?c_TWO ?c_MOST_STEPS ?c_SHAPES ?c_MOST_LAID ?c_MOST_KEYS_laid ?c_STRANGE ?c_LAST_HOUSE ?c_DEEDS ?k_Doing ?k_House ?k_Crew ?d_is_whole ?d_is_from_to ?d_is_worth ?d_are_worths ?d_need_worths ?d_has_word ?d_parts_of ?d_is_made_term ?d_is_made_place ?d_tuples_in ?d_is_term ?d_is_place ?d_keys_named ?d_place_key ?d_two_reckoned ?d_reckoned ?d_is_step ?d_is_piece ?d_is_deal ?d_need_board ?d_gone ?d_done_in ?d_rising ?d_touched_in ?d_is_key ?d_are_keys ?d_is_laid ?d_is_laid_row ?d_need_laid_row ?d_done_laid_in ?d_run_laid_in ?d_run_laid ?d_is_house_number ?d_need_owners ?d_finish ?d_law_mill ?d_law_grain ?d_law_worth ?d_law_term ?d_law_place ?d_law_step ?d_law_deal ?d_law_board ?d_law_reckon ?d_law_key ?d_law_gone ?d_law_laid_on ?d_law_laid_row ?d_law_laid ?d_law_run ?d_law_owners ?d_law_due
    (case a4 => k_is)
    (case l4 => k_is)
    (case c4 => k_is)
    (case k4 => k_is)
    (case z_len => k_is)
    (case z_isinstance => k_is)
    (case z_all => k_is)
    (case z_sorted => k_is)
    (case z_tuple => k_is)
    (case z_list => k_is)
    (case z_dict => k_is)
    (case z_set => k_is)
    (case z_int => k_is)
    (case z_bool => k_is)
    (case z_str => k_is)
    (case z_range => k_is)
    (case z_zip => k_is)
    (case z_enumerate => k_is)
    (case c_WHEEL => refine' RL.int_mk KX G ?m; (case m => k_is))
    (case c_MOST_KEYS_terms => refine' RL.int_mk KX G ?m; (case m => k_is))
    (case c_MOST_TUPLES => refine' RL.int_mk KX G ?m; (case m => k_is))
    (case c_MOST_DEEP => refine' RL.int_mk KX G ?m; (case m => k_is))
    (case c_TWO => refine' RL.kt_mk KX G ?m ?l ?v ?z; (case m => k_is); (case l => k_is); (case v => exact (.cons ⟨_, rfl⟩ (.cons ⟨_, rfl⟩ (.cons ⟨_, rfl⟩ (.cons ⟨_, rfl⟩ .nil))))); (case z => decide))
    (case c_MOST_STEPS => refine' RL.int_mk KX G ?m; (case m => k_is))
    (case c_SHAPES => refine' RL.mk_SHAPES KX G ?m ?l ?kl ?kt ?lo ?i0 ?i1 ?i2 ?i3; (case m => k_is); (case l => k_is); (case kl => exact ⟨⟨_, _, rfl, rfl⟩, ⟨⟨_, _, rfl, rfl⟩, ⟨⟨_, _, rfl, rfl⟩, ⟨⟨_, _, rfl, rfl⟩, trivial⟩⟩⟩⟩); (case kt => rfl); (case lo => rfl); (case i0 => k_is); (case i1 => k_is); (case i2 => k_is); (case i3 => k_is))
    (case c_MOST_LAID => refine' RL.int_mk KX G ?m; (case m => k_is))
    (case c_MOST_KEYS_laid => refine' RL.int_mk KX G ?m; (case m => k_is))
    (case c_STRANGE => refine' RL.kt_mk KX G ?m ?l ?v ?z; (case m => k_is); (case l => k_is); (case v => exact (.cons ⟨_, rfl⟩ .nil)); (case z => decide))
    (case c_LAST_HOUSE => refine' RL.int_mk KX G ?m; (case m => k_is))
    (case c_DEEDS => refine' RL.mk_DEEDS KX G ?m ?l ?kl ?kt ?lo ?i0 ?i1 ?i2 ?i3 ?i4; (case m => k_is); (case l => k_is); (case kl => exact ⟨⟨_, _, rfl, rfl⟩, ⟨⟨_, _, rfl, rfl⟩, ⟨⟨_, _, rfl, rfl⟩, ⟨⟨_, _, rfl, rfl⟩, ⟨⟨_, _, rfl, rfl⟩, trivial⟩⟩⟩⟩⟩); (case kt => rfl); (case lo => rfl); (case i0 => k_is); (case i1 => k_is); (case i2 => k_is); (case i3 => k_is); (case i4 => k_is))
    (case k_Doing =>
      refine' RL.bc_Doing KX G ?a ?pg ?hd ?po ?sa ?mk ?kc ?n_first ?n_here ?n_looked ?n_put_at ?n_told ?n_stopped ?Doing_init_a ?Doing_init_i ?Doing_init_l ?Doing_init_c ?Doing_init_k ?Doing_reckon_a ?Doing_reckon_i ?Doing_reckon_l ?Doing_reckon_c ?Doing_reckon_k ?Doing_put_a ?Doing_put_i ?Doing_put_l ?Doing_put_c ?Doing_put_k ?Doing_step_a ?Doing_step_i ?Doing_step_l ?Doing_step_c ?Doing_step_k ?Doing_outcome_a ?Doing_outcome_i ?Doing_outcome_l ?Doing_outcome_c ?Doing_outcome_k
      (case a => k_is)
      (case pg => k_is)
      (case hd => k_is)
      (case po => k_is)
      (case sa => k_is)
      (case mk => k_is)
      (case kc => k_is)
      (case n_first => k_is)
      (case n_here => k_is)
      (case n_looked => k_is)
      (case n_put_at => k_is)
      (case n_told => k_is)
      (case n_stopped => k_is)
      (case Doing_init_a => k_is)
      (case Doing_init_i => k_is)
      (case Doing_init_l => k_is)
      (case Doing_init_c => k_is)
      (case Doing_init_k => k_is)
      (case Doing_reckon_a => k_is)
      (case Doing_reckon_i => k_is)
      (case Doing_reckon_l => k_is)
      (case Doing_reckon_c => k_is)
      (case Doing_reckon_k => k_is)
      (case Doing_put_a => k_is)
      (case Doing_put_i => k_is)
      (case Doing_put_l => k_is)
      (case Doing_put_c => k_is)
      (case Doing_put_k => k_is)
      (case Doing_step_a => k_is)
      (case Doing_step_i => k_is)
      (case Doing_step_l => k_is)
      (case Doing_step_c => k_is)
      (case Doing_step_k => k_is)
      (case Doing_outcome_a => k_is)
      (case Doing_outcome_i => k_is)
      (case Doing_outcome_l => k_is)
      (case Doing_outcome_c => k_is)
      (case Doing_outcome_k => k_is))
    (case k_House =>
      refine' RL.bc_House KX G ?a ?pg ?hd ?po ?sa ?mk ?kc ?n_own ?n_count ?n_said ?n_desk ?n_copy ?House_init_a ?House_init_i ?House_init_l ?House_init_c ?House_init_k
      (case a => k_is)
      (case pg => k_is)
      (case hd => k_is)
      (case po => k_is)
      (case sa => k_is)
      (case mk => k_is)
      (case kc => k_is)
      (case n_own => k_is)
      (case n_count => k_is)
      (case n_said => k_is)
      (case n_desk => k_is)
      (case n_copy => k_is)
      (case House_init_a => k_is)
      (case House_init_i => k_is)
      (case House_init_l => k_is)
      (case House_init_c => k_is)
      (case House_init_k => k_is))
    (case k_Crew =>
      refine' RL.bc_Crew KX G ?a ?pg ?hd ?po ?sa ?mk ?kc ?n_owners ?n_row ?n_wall ?n_wanted ?n_members ?Crew_init_a ?Crew_init_i ?Crew_init_l ?Crew_init_c ?Crew_init_k ?Crew_wanting_a ?Crew_wanting_i ?Crew_wanting_l ?Crew_wanting_c ?Crew_wanting_k ?Crew_keys_of_a ?Crew_keys_of_i ?Crew_keys_of_l ?Crew_keys_of_c ?Crew_keys_of_k ?Crew_due_of_a ?Crew_due_of_i ?Crew_due_of_l ?Crew_due_of_c ?Crew_due_of_k ?Crew_may_send_a ?Crew_may_send_i ?Crew_may_send_l ?Crew_may_send_c ?Crew_may_send_k ?Crew_may_take_a ?Crew_may_take_i ?Crew_may_take_l ?Crew_may_take_c ?Crew_may_take_k ?Crew_may_go_a ?Crew_may_go_i ?Crew_may_go_l ?Crew_may_go_c ?Crew_may_go_k ?Crew_may_a ?Crew_may_i ?Crew_may_l ?Crew_may_c ?Crew_may_k ?Crew_may_do_a ?Crew_may_do_i ?Crew_may_do_l ?Crew_may_do_c ?Crew_may_do_k ?Crew_need_deed_a ?Crew_need_deed_i ?Crew_need_deed_l ?Crew_need_deed_c ?Crew_need_deed_k ?Crew_need_house_a ?Crew_need_house_i ?Crew_need_house_l ?Crew_need_house_c ?Crew_need_house_k ?Crew_do_a ?Crew_do_i ?Crew_do_l ?Crew_do_c ?Crew_do_k ?Crew_send_a ?Crew_send_i ?Crew_send_l ?Crew_send_c ?Crew_send_k ?Crew_board_of_a ?Crew_board_of_i ?Crew_board_of_l ?Crew_board_of_c ?Crew_board_of_k ?Crew_go_a ?Crew_go_i ?Crew_go_l ?Crew_go_c ?Crew_go_k ?Crew_houses_a ?Crew_houses_i ?Crew_houses_l ?Crew_houses_c ?Crew_houses_k ?Crew_worths_a ?Crew_worths_i ?Crew_worths_l ?Crew_worths_c ?Crew_worths_k
      (case a => k_is)
      (case pg => k_is)
      (case hd => k_is)
      (case po => k_is)
      (case sa => k_is)
      (case mk => k_is)
      (case kc => k_is)
      (case n_owners => k_is)
      (case n_row => k_is)
      (case n_wall => k_is)
      (case n_wanted => k_is)
      (case n_members => k_is)
      (case Crew_init_a => k_is)
      (case Crew_init_i => k_is)
      (case Crew_init_l => k_is)
      (case Crew_init_c => k_is)
      (case Crew_init_k => k_is)
      (case Crew_wanting_a => k_is)
      (case Crew_wanting_i => k_is)
      (case Crew_wanting_l => k_is)
      (case Crew_wanting_c => k_is)
      (case Crew_wanting_k => k_is)
      (case Crew_keys_of_a => k_is)
      (case Crew_keys_of_i => k_is)
      (case Crew_keys_of_l => k_is)
      (case Crew_keys_of_c => k_is)
      (case Crew_keys_of_k => k_is)
      (case Crew_due_of_a => k_is)
      (case Crew_due_of_i => k_is)
      (case Crew_due_of_l => k_is)
      (case Crew_due_of_c => k_is)
      (case Crew_due_of_k => k_is)
      (case Crew_may_send_a => k_is)
      (case Crew_may_send_i => k_is)
      (case Crew_may_send_l => k_is)
      (case Crew_may_send_c => k_is)
      (case Crew_may_send_k => k_is)
      (case Crew_may_take_a => k_is)
      (case Crew_may_take_i => k_is)
      (case Crew_may_take_l => k_is)
      (case Crew_may_take_c => k_is)
      (case Crew_may_take_k => k_is)
      (case Crew_may_go_a => k_is)
      (case Crew_may_go_i => k_is)
      (case Crew_may_go_l => k_is)
      (case Crew_may_go_c => k_is)
      (case Crew_may_go_k => k_is)
      (case Crew_may_a => k_is)
      (case Crew_may_i => k_is)
      (case Crew_may_l => k_is)
      (case Crew_may_c => k_is)
      (case Crew_may_k => k_is)
      (case Crew_may_do_a => k_is)
      (case Crew_may_do_i => k_is)
      (case Crew_may_do_l => k_is)
      (case Crew_may_do_c => k_is)
      (case Crew_may_do_k => k_is)
      (case Crew_need_deed_a => k_is)
      (case Crew_need_deed_i => k_is)
      (case Crew_need_deed_l => k_is)
      (case Crew_need_deed_c => k_is)
      (case Crew_need_deed_k => k_is)
      (case Crew_need_house_a => k_is)
      (case Crew_need_house_i => k_is)
      (case Crew_need_house_l => k_is)
      (case Crew_need_house_c => k_is)
      (case Crew_need_house_k => k_is)
      (case Crew_do_a => k_is)
      (case Crew_do_i => k_is)
      (case Crew_do_l => k_is)
      (case Crew_do_c => k_is)
      (case Crew_do_k => k_is)
      (case Crew_send_a => k_is)
      (case Crew_send_i => k_is)
      (case Crew_send_l => k_is)
      (case Crew_send_c => k_is)
      (case Crew_send_k => k_is)
      (case Crew_board_of_a => k_is)
      (case Crew_board_of_i => k_is)
      (case Crew_board_of_l => k_is)
      (case Crew_board_of_c => k_is)
      (case Crew_board_of_k => k_is)
      (case Crew_go_a => k_is)
      (case Crew_go_i => k_is)
      (case Crew_go_l => k_is)
      (case Crew_go_c => k_is)
      (case Crew_go_k => k_is)
      (case Crew_houses_a => k_is)
      (case Crew_houses_i => k_is)
      (case Crew_houses_l => k_is)
      (case Crew_houses_c => k_is)
      (case Crew_houses_k => k_is)
      (case Crew_worths_a => k_is)
      (case Crew_worths_i => k_is)
      (case Crew_worths_l => k_is)
      (case Crew_worths_c => k_is)
      (case Crew_worths_k => k_is))
    (case d_is_whole => refine' ⟨RL.df_mk KX G RL.bd_is_whole ?a ?l ?c ?k⟩; (case a => k_is); (case l => k_is); (case c => k_is); (case k => k_is))
    (case d_is_from_to => refine' ⟨RL.df_mk KX G RL.bd_is_from_to ?a ?l ?c ?k⟩; (case a => k_is); (case l => k_is); (case c => k_is); (case k => k_is))
    (case d_is_worth => refine' ⟨RL.df_mk KX G RL.bd_is_worth ?a ?l ?c ?k⟩; (case a => k_is); (case l => k_is); (case c => k_is); (case k => k_is))
    (case d_are_worths => refine' ⟨RL.df_mk KX G RL.bd_are_worths ?a ?l ?c ?k⟩; (case a => k_is); (case l => k_is); (case c => k_is); (case k => k_is))
    (case d_need_worths => refine' ⟨RL.df_mk KX G RL.bd_need_worths ?a ?l ?c ?k⟩; (case a => k_is); (case l => k_is); (case c => k_is); (case k => k_is))
    (case d_has_word => refine' ⟨RL.df_mk KX G RL.bd_has_word ?a ?l ?c ?k⟩; (case a => k_is); (case l => k_is); (case c => k_is); (case k => k_is))
    (case d_parts_of => refine' ⟨RL.df_mk KX G RL.bd_parts_of ?a ?l ?c ?k⟩; (case a => k_is); (case l => k_is); (case c => k_is); (case k => k_is))
    (case d_is_made_term => refine' ⟨RL.df_mk KX G RL.bd_is_made_term ?a ?l ?c ?k⟩; (case a => k_is); (case l => k_is); (case c => k_is); (case k => k_is))
    (case d_is_made_place => refine' ⟨RL.df_mk KX G RL.bd_is_made_place ?a ?l ?c ?k⟩; (case a => k_is); (case l => k_is); (case c => k_is); (case k => k_is))
    (case d_tuples_in => refine' ⟨RL.df_mk KX G RL.bd_tuples_in ?a ?l ?c ?k⟩; (case a => k_is); (case l => k_is); (case c => k_is); (case k => k_is))
    (case d_is_term => refine' ⟨RL.df_mk KX G RL.bd_is_term ?a ?l ?c ?k⟩; (case a => k_is); (case l => k_is); (case c => k_is); (case k => k_is))
    (case d_is_place => refine' ⟨RL.df_mk KX G RL.bd_is_place ?a ?l ?c ?k⟩; (case a => k_is); (case l => k_is); (case c => k_is); (case k => k_is))
    (case d_keys_named => refine' ⟨RL.df_mk KX G RL.bd_keys_named ?a ?l ?c ?k⟩; (case a => k_is); (case l => k_is); (case c => k_is); (case k => k_is))
    (case d_place_key => refine' ⟨RL.df_mk KX G RL.bd_place_key ?a ?l ?c ?k⟩; (case a => k_is); (case l => k_is); (case c => k_is); (case k => k_is))
    (case d_two_reckoned => refine' ⟨RL.df_mk KX G RL.bd_two_reckoned ?a ?l ?c ?k⟩; (case a => k_is); (case l => k_is); (case c => k_is); (case k => k_is))
    (case d_reckoned => refine' ⟨RL.df_mk KX G RL.bd_reckoned ?a ?l ?c ?k⟩; (case a => k_is); (case l => k_is); (case c => k_is); (case k => k_is))
    (case d_is_step => refine' ⟨RL.df_mk KX G RL.bd_is_step ?a ?l ?c ?k⟩; (case a => k_is); (case l => k_is); (case c => k_is); (case k => k_is))
    (case d_is_piece => refine' ⟨RL.df_mk KX G RL.bd_is_piece ?a ?l ?c ?k⟩; (case a => k_is); (case l => k_is); (case c => k_is); (case k => k_is))
    (case d_is_deal => refine' ⟨RL.df_mk KX G RL.bd_is_deal ?a ?l ?c ?k⟩; (case a => k_is); (case l => k_is); (case c => k_is); (case k => k_is))
    (case d_need_board => refine' ⟨RL.df_mk KX G RL.bd_need_board ?a ?l ?c ?k⟩; (case a => k_is); (case l => k_is); (case c => k_is); (case k => k_is))
    (case d_gone => refine' ⟨RL.df_mk KX G RL.bd_gone ?a ?l ?c ?k⟩; (case a => k_is); (case l => k_is); (case c => k_is); (case k => k_is))
    (case d_done_in => refine' ⟨RL.df_mk KX G RL.bd_done_in ?a ?l ?c ?k⟩; (case a => k_is); (case l => k_is); (case c => k_is); (case k => k_is))
    (case d_rising => refine' ⟨RL.df_mk KX G RL.bd_rising ?a ?l ?c ?k⟩; (case a => k_is); (case l => k_is); (case c => k_is); (case k => k_is))
    (case d_touched_in => refine' ⟨RL.df_mk KX G RL.bd_touched_in ?a ?l ?c ?k⟩; (case a => k_is); (case l => k_is); (case c => k_is); (case k => k_is))
    (case d_is_key => refine' ⟨RL.df_mk KX G RL.bd_is_key ?a ?l ?c ?k⟩; (case a => k_is); (case l => k_is); (case c => k_is); (case k => k_is))
    (case d_are_keys => refine' ⟨RL.df_mk KX G RL.bd_are_keys ?a ?l ?c ?k⟩; (case a => k_is); (case l => k_is); (case c => k_is); (case k => k_is))
    (case d_is_laid => refine' ⟨RL.df_mk KX G RL.bd_is_laid ?a ?l ?c ?k⟩; (case a => k_is); (case l => k_is); (case c => k_is); (case k => k_is))
    (case d_is_laid_row => refine' ⟨RL.df_mk KX G RL.bd_is_laid_row ?a ?l ?c ?k⟩; (case a => k_is); (case l => k_is); (case c => k_is); (case k => k_is))
    (case d_need_laid_row => refine' ⟨RL.df_mk KX G RL.bd_need_laid_row ?a ?l ?c ?k⟩; (case a => k_is); (case l => k_is); (case c => k_is); (case k => k_is))
    (case d_done_laid_in => refine' ⟨RL.df_mk KX G RL.bd_done_laid_in ?a ?l ?c ?k⟩; (case a => k_is); (case l => k_is); (case c => k_is); (case k => k_is))
    (case d_run_laid_in => refine' ⟨RL.df_mk KX G RL.bd_run_laid_in ?a ?l ?c ?k⟩; (case a => k_is); (case l => k_is); (case c => k_is); (case k => k_is))
    (case d_run_laid => refine' ⟨RL.df_mk KX G RL.bd_run_laid ?a ?l ?c ?k⟩; (case a => k_is); (case l => k_is); (case c => k_is); (case k => k_is))
    (case d_is_house_number => refine' ⟨RL.df_mk KX G RL.bd_is_house_number ?a ?l ?c ?k⟩; (case a => k_is); (case l => k_is); (case c => k_is); (case k => k_is))
    (case d_need_owners => refine' ⟨RL.df_mk KX G RL.bd_need_owners ?a ?l ?c ?k⟩; (case a => k_is); (case l => k_is); (case c => k_is); (case k => k_is))
    (case d_finish => refine' ⟨RL.df_mk KX G RL.bd_finish ?a ?l ?c ?k⟩; (case a => k_is); (case l => k_is); (case c => k_is); (case k => k_is))
    (case d_law_mill => refine' ⟨RL.df_mk KX G RL.bd_law_mill ?a ?l ?c ?k⟩; (case a => k_is); (case l => k_is); (case c => k_is); (case k => k_is))
    (case d_law_grain => refine' ⟨RL.df_mk KX G RL.bd_law_grain ?a ?l ?c ?k⟩; (case a => k_is); (case l => k_is); (case c => k_is); (case k => k_is))
    (case d_law_worth => refine' ⟨RL.df_mk KX G RL.bd_law_worth ?a ?l ?c ?k⟩; (case a => k_is); (case l => k_is); (case c => k_is); (case k => k_is))
    (case d_law_term => refine' ⟨RL.df_mk KX G RL.bd_law_term ?a ?l ?c ?k⟩; (case a => k_is); (case l => k_is); (case c => k_is); (case k => k_is))
    (case d_law_place => refine' ⟨RL.df_mk KX G RL.bd_law_place ?a ?l ?c ?k⟩; (case a => k_is); (case l => k_is); (case c => k_is); (case k => k_is))
    (case d_law_step => refine' ⟨RL.df_mk KX G RL.bd_law_step ?a ?l ?c ?k⟩; (case a => k_is); (case l => k_is); (case c => k_is); (case k => k_is))
    (case d_law_deal => refine' ⟨RL.df_mk KX G RL.bd_law_deal ?a ?l ?c ?k⟩; (case a => k_is); (case l => k_is); (case c => k_is); (case k => k_is))
    (case d_law_board => refine' ⟨RL.df_mk KX G RL.bd_law_board ?a ?l ?c ?k⟩; (case a => k_is); (case l => k_is); (case c => k_is); (case k => k_is))
    (case d_law_reckon => refine' ⟨RL.df_mk KX G RL.bd_law_reckon ?a ?l ?c ?k⟩; (case a => k_is); (case l => k_is); (case c => k_is); (case k => k_is))
    (case d_law_key => refine' ⟨RL.df_mk KX G RL.bd_law_key ?a ?l ?c ?k⟩; (case a => k_is); (case l => k_is); (case c => k_is); (case k => k_is))
    (case d_law_gone => refine' ⟨RL.df_mk KX G RL.bd_law_gone ?a ?l ?c ?k⟩; (case a => k_is); (case l => k_is); (case c => k_is); (case k => k_is))
    (case d_law_laid_on => refine' ⟨RL.df_mk KX G RL.bd_law_laid_on ?a ?l ?c ?k⟩; (case a => k_is); (case l => k_is); (case c => k_is); (case k => k_is))
    (case d_law_laid_row => refine' ⟨RL.df_mk KX G RL.bd_law_laid_row ?a ?l ?c ?k⟩; (case a => k_is); (case l => k_is); (case c => k_is); (case k => k_is))
    (case d_law_laid => refine' ⟨RL.df_mk KX G RL.bd_law_laid ?a ?l ?c ?k⟩; (case a => k_is); (case l => k_is); (case c => k_is); (case k => k_is))
    (case d_law_run => refine' ⟨RL.df_mk KX G RL.bd_law_run ?a ?l ?c ?k⟩; (case a => k_is); (case l => k_is); (case c => k_is); (case k => k_is))
    (case d_law_owners => refine' ⟨RL.df_mk KX G RL.bd_law_owners ?a ?l ?c ?k⟩; (case a => k_is); (case l => k_is); (case c => k_is); (case k => k_is))
    (case d_law_due => refine' ⟨RL.df_mk KX G RL.bd_law_due ?a ?l ?c ?k⟩; (case a => k_is); (case l => k_is); (case c => k_is); (case k => k_is))
