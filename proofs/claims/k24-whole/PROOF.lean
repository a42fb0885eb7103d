import PyProof.Rows.All
import Wide.All
import OpenK.AllK
import Wide.FinOn
import KE.KStateDown
import HandS.ForExc
import HandS.Comp
import HandS.More
import HandS.Defaults
import HandS.Star
import HandS.MakeKwOnly
import HandS.ClsMeth
import HandS.Property
import HandS.Head0
import HandS.Head1
import HandS.Head2
import HandS.HeadEnd
import HandS.HeadHook1
import HandS.HeadHook2
import HandS.HeadHook3
import HandS.IsInst
import HandS.Walk
import KE.GoesMore
import HandS.Conv
import HandS.Dict
import HandS.DictComp
import HandS.Words
import HandS.Set
import HandS.SetBool
import HandS.Strs
import HandS.TupMul
import HandS.SetFor
import HandS.Zip
import HandS.TupAny
import HandS.GenList
import HandS.TupSets
import KE.KDictKeyed
import KE.KDictCopyH
import PyProof.Sound
import PyProof.Gen
import PyProof.GenRules
import PySem.Challenge.RW_busyguess_k24_whole_what_was_called_firs
namespace Bg

/-- a system, as far as calls are concerned -/
structure Sys where
  n : Nat
  ops : Nat → List Nat
  val : Nat → List Int → Int
  gs : Nat → Int

abbrev Tab := Nat → Option Int
def put (T : Tab) (c : Nat) (v : Int) : Tab := fun x => if x = c then some v else T x
theorem put_same {T : Tab} {c : Nat} {v : Int} : put T c v c = some v := by simp [put]
theorem put_ne {T : Tab} {c x : Nat} {v : Int} (h : x ≠ c) : put T c v x = T x := by simp [put, h]

/-- an event: (is it an evaluation's begin, the cell) -/
abbrev Ev := Bool × Nat
def calls (e : List Ev) : List Nat := (e.filter (·.1)).map (·.2)
theorem calls_append (a b : List Ev) : calls (a ++ b) = calls a ++ calls b := by simp [calls]
theorem calls_nil : calls [] = [] := rfl
theorem calls_f (c : Nat) (e : List Ev) : calls ((false, c) :: e) = calls e := by simp [calls]
theorem calls_t (c : Nat) (e : List Ev) : calls ((true, c) :: e) = c :: calls e := by simp [calls]

abbrev Res := Int × Tab × List Ev
abbrev ResL := List Int × Tab × List Ev

def runL (g : Tab → Nat → Res) : Tab → List Nat → ResL
  | T, [] => ([], T, [])
  | T, o :: os => ((g T o).1 :: (runL g (g T o).2.1 os).1, (runL g (g T o).2.1 os).2.1, (g T o).2.2 ++ (runL g (g T o).2.1 os).2.2)

def evd (S : Sys) (c : Nat) (r : ResL) : Res := (S.val c r.1, put r.2.1 c (S.val c r.1), (true, c) :: r.2.2 ++ [(false, c)])

def run (S : Sys) : Nat → Tab → List Nat → Nat → Res
  | 0, T, _, _ => (0, T, [])
  | f + 1, T, B, c =>
    match T c with
    | some v => (v, T, [(false, c)])
    | none => if c ∈ B then (S.gs c, T, [(false, c)]) else evd S c (runL (fun T o => run S f T (B ++ [c]) o) T (S.ops c))

structure Sys.Ok (S : Sys) : Prop where
  le : S.n ≤ 24
  ops : ∀ c, c < S.n → ∀ o ∈ S.ops c, o < S.n
  few : ∀ c, c < S.n → (S.ops c).length ≤ 8

structure Fit (S : Sys) (f : Nat) (B : List Nat) : Prop where
  nd : B.Nodup
  lt : ∀ b ∈ B, b < S.n
  fu : S.n < f + B.length

theorem nodup_le : ∀ (n : Nat) (B : List Nat), B.Nodup → (∀ b ∈ B, b < n) → B.length ≤ n := by
  intro n
  induction n with
  | zero =>
    intro B _ h
    cases B with
    | nil => exact Nat.le_refl _
    | cons b r => exact absurd (h b (by simp)) (by omega)
  | succ n ih =>
    intro B nd h
    by_cases hn : n ∈ B
    · have e := List.length_erase_of_mem hn
      have l := ih (B.erase n) (nd.erase n) fun b hb => by
        have h1 := (List.Nodup.mem_erase_iff nd).mp hb
        have := h b h1.2
        have := h1.1
        omega
      have : 0 < B.length := List.length_pos_of_mem hn
      omega
    · have := ih B nd fun b hb => by
        have := h b hb
        have : b ≠ n := fun e => hn (e ▸ hb)
        omega
      omega

theorem Fit.zero {S : Sys} {B : List Nat} (h : Fit S 0 B) : False := by
  have := nodup_le S.n B h.nd h.lt
  have := h.fu
  omega
theorem Fit.push {S : Sys} {f : Nat} {B : List Nat} {c : Nat} (h : Fit S (f + 1) B) (hc : c < S.n) (hB : c ∉ B) : Fit S f (B ++ [c]) := by
  refine ⟨?_, ?_, ?_⟩
  · rw [List.nodup_append]
    refine ⟨h.nd, by simp, ?_⟩
    intro a ha b hb e
    simp at hb
    subst hb
    subst e
    exact hB ha
  · intro b hb
    rcases List.mem_append.mp hb with hb | hb
    · exact h.lt b hb
    · simp at hb
      subst hb
      exact hc
  · have := h.fu
    simp
    omega

/-- induction over a run -/
theorem run_ind {S : Sys} (ok : S.Ok) (M : Nat → Tab → List Nat → Nat → Res → Prop) (ML : Nat → Tab → List Nat → List Nat → ResL → Prop)
    (stored : ∀ f T B c v, c < S.n → T c = some v → M f T B c (v, T, [(false, c)]))
    (busy : ∀ f T B c, c < S.n → T c = none → c ∈ B → M f T B c (S.gs c, T, [(false, c)]))
    (nil : ∀ f T B, ML f T B [] ([], T, []))
    (cons : ∀ f T B o os r q, o < S.n → (∀ x ∈ os, x < S.n) → M f T B o r → ML f r.2.1 B os q → ML f T B (o :: os) (r.1 :: q.1, q.2.1, r.2.2 ++ q.2.2))
    (eval : ∀ f T B c r, c < S.n → T c = none → c ∉ B → Fit S f (B ++ [c]) → run S (f + 1) T B c = evd S c r → ML f T (B ++ [c]) (S.ops c) r → M (f + 1) T B c (evd S c r)) :
    ∀ f T B c, Fit S f B → c < S.n → M f T B c (run S f T B c) := by
  intro f
  induction f with
  | zero => intro T B c hf _; exact hf.zero.elim
  | succ f ih =>
    intro T B c hf hc
    unfold run
    cases e : T c with
    | some v => exact stored _ _ _ _ _ hc e
    | none =>
      by_cases hB : c ∈ B
      · simp only [hB, if_true]
        exact busy _ _ _ _ hc e hB
      · simp only [hB, if_false]
        have hp := hf.push hc hB
        refine eval f T B c _ hc e hB hp (by rw [run]; simp only [e, hB, if_false]) ?_
        have go : ∀ (os : List Nat) (T : Tab), (∀ x ∈ os, x < S.n) → ML f T (B ++ [c]) os (runL (fun T o => run S f T (B ++ [c]) o) T os) := by
          intro os
          induction os with
          | nil => intro T _; exact nil _ _ _
          | cons o os ih2 =>
            intro T h
            have ho := h o (by simp)
            have hos : ∀ x ∈ os, x < S.n := fun x hx => h x (by simp [hx])
            exact cons f T (B ++ [c]) o os _ _ ho hos (ih T (B ++ [c]) o hp ho) (ih2 _ hos)
        exact go _ _ (ok.ops c hc)

variable {S : Sys}

/-- stored values stay -/
def Sub (T T' : Tab) : Prop := ∀ x v, T x = some v → T' x = some v
theorem Sub.refl (T : Tab) : Sub T T := fun _ _ h => h
theorem Sub.trans {A B C : Tab} (h : Sub A B) (k : Sub B C) : Sub A C := fun x v e => k x v (h x v e)
theorem Sub.none {T T' : Tab} (h : Sub T T') {x : Nat} (e : T' x = none) : T x = none := by
  cases q : T x with
  | none => rfl
  | some v => rw [h x v q] at e; cases e
theorem Sub.put {T T' : Tab} (h : Sub T T') {c : Nat} {v : Int} (e : T c = Option.none) : Sub T (put T' c v) := fun x w q => by
  by_cases hx : x = c
  · subst hx; rw [e] at q; cases q
  · rw [put_ne hx]; exact h x w q

/-- what one run does, unary facts -/
structure RunOk (S : Sys) (T : Tab) (B : List Nat) (r : Res) : Prop where
  sub : Sub T r.2.1
  new : ∀ x, r.2.1 x ≠ T x → x ∈ calls r.2.2
  was : ∀ x ∈ calls r.2.2, T x = none ∧ x ∉ B ∧ x < S.n ∧ (∃ v, r.2.1 x = some v)
  nd : (calls r.2.2).Nodup
  ops : ∀ x ∈ calls r.2.2, ∀ o ∈ S.ops x, o ∈ B ∨ ∃ v, r.2.1 o = some v
structure RunOkL (S : Sys) (T : Tab) (B os : List Nat) (r : ResL) : Prop where
  sub : Sub T r.2.1
  new : ∀ x, r.2.1 x ≠ T x → x ∈ calls r.2.2
  was : ∀ x ∈ calls r.2.2, T x = none ∧ x ∉ B ∧ x < S.n ∧ (∃ v, r.2.1 x = some v)
  nd : (calls r.2.2).Nodup
  ops : ∀ x ∈ calls r.2.2, ∀ o ∈ S.ops x, o ∈ B ∨ ∃ v, r.2.1 o = some v
  got : ∀ o ∈ os, o ∈ B ∨ ∃ v, r.2.1 o = some v
  len : r.1.length = os.length

theorem run_ok (ok : S.Ok) (f : Nat) (T : Tab) (B : List Nat) (c : Nat) (hf : Fit S f B) (hc : c < S.n) :
    RunOk S T B (run S f T B c) ∧ (c ∉ B → (run S f T B c).2.1 c = some (run S f T B c).1) ∧ (c ∈ B ∨ ∃ v, (run S f T B c).2.1 c = some v) := by
  refine run_ind ok (M := fun _ T B c r => RunOk S T B r ∧ (c ∉ B → r.2.1 c = some r.1) ∧ (c ∈ B ∨ ∃ v, r.2.1 c = some v)) (ML := fun _ T B os r => RunOkL S T B os r) ?_ ?_ ?_ ?_ ?_ f T B c hf hc
  · intro f T B c v _ e
    refine ⟨⟨Sub.refl _, fun x h => absurd rfl h, ?_, ?_, ?_⟩, fun _ => e, .inr ⟨v, e⟩⟩ <;> simp [calls]
  · intro f T B c _ e hb
    refine ⟨⟨Sub.refl _, fun x h => absurd rfl h, ?_, ?_, ?_⟩, fun h => absurd hb h, .inl hb⟩ <;> simp [calls]
  · intro f T B
    refine ⟨Sub.refl _, fun x h => absurd rfl h, ?_, ?_, ?_, ?_, rfl⟩ <;> simp [calls]
  · rintro f T B o os r q ho hos ⟨h1, h2, h3⟩ h4
    refine ⟨h1.sub.trans h4.sub, ?_, ?_, ?_, ?_, ?_, ?_⟩
    · intro x hx
      rw [calls_append, List.mem_append]
      by_cases e : r.2.1 x = T x
      · exact .inr (h4.new x (fun z => hx (z.trans e)))
      · exact .inl (h1.new x e)
    · intro x hx
      rw [calls_append, List.mem_append] at hx
      rcases hx with hx | hx
      · obtain ⟨a, b, c, v, d⟩ := h1.was x hx
        exact ⟨a, b, c, v, h4.sub x v d⟩
      · obtain ⟨a, b, c, d⟩ := h4.was x hx
        exact ⟨h1.sub.none a, b, c, d⟩
    · rw [calls_append, List.nodup_append]
      refine ⟨h1.nd, h4.nd, ?_⟩
      intro a ha b hb e
      subst e
      obtain ⟨_, _, _, v, d⟩ := h1.was a ha
      obtain ⟨e, _⟩ := h4.was a hb
      rw [d] at e
      cases e
    · intro x hx p hp
      rw [calls_append, List.mem_append] at hx
      rcases hx with hx | hx
      · rcases h1.ops x hx p hp with h | ⟨v, h⟩
        · exact .inl h
        · exact .inr ⟨v, h4.sub _ _ h⟩
      · exact h4.ops x hx p hp
    · intro p hp
      rcases List.mem_cons.mp hp with rfl | hp
      · rcases h3 with h | ⟨v, h⟩
        · exact .inl h
        · exact .inr ⟨v, h4.sub _ _ h⟩
      · exact h4.got p hp
    · simp [h4.len]
  · intro f T B c r hc e hB hp _ h
    have ec : calls (evd S c r).2.2 = c :: calls r.2.2 := by
      show calls ((true, c) :: r.2.2 ++ [(false, c)]) = _
      rw [calls_append, calls_t, calls_f, calls_nil, List.append_nil]
    have st : ∀ x, (∃ v, r.2.1 x = some v) ∨ x = c → ∃ v, (evd S c r).2.1 x = some v := by
      intro x hx
      show ∃ v, put _ _ _ x = some v
      by_cases q : x = c
      · subst q; exact ⟨_, put_same⟩
      · rw [put_ne q]
        exact hx.elim id fun z => absurd z q
    refine ⟨⟨h.sub.put e, ?_, ?_, ?_, ?_⟩, fun _ => put_same, .inr ⟨_, put_same⟩⟩
    · intro x hx
      rw [ec]
      by_cases q : x = c
      · simp [q]
      · have : r.2.1 x ≠ T x := by
          intro z
          exact hx ((put_ne q).trans z)
        exact List.mem_cons_of_mem _ (h.new x this)
    · intro x hx
      rw [ec] at hx
      rcases List.mem_cons.mp hx with rfl | hx
      · exact ⟨e, hB, hc, st _ (.inr rfl)⟩
      · obtain ⟨a, b, d, v⟩ := h.was x hx
        exact ⟨a, fun z => b (List.mem_append_left _ z), d, st _ (.inl v)⟩
    · rw [ec, List.nodup_cons]
      refine ⟨fun z => (h.was c z).2.1 (by simp), h.nd⟩
    · intro x hx p hq
      rw [ec] at hx
      have fin : (p ∈ B ++ [c] ∨ ∃ v, r.2.1 p = some v) → p ∈ B ∨ ∃ v, (evd S c r).2.1 p = some v := by
        rintro (z | z)
        · rcases List.mem_append.mp z with z | z
          · exact .inl z
          · simp at z
            exact .inr (st _ (.inr z))
        · exact .inr (st _ (.inl z))
      rcases List.mem_cons.mp hx with rfl | hx
      · exact fin (h.got p hq)
      · exact fin (h.ops x hx p hq)

theorem run_ev (ok : S.Ok) (f : Nat) (T : Tab) (B : List Nat) (c : Nat) (hf : Fit S f B) (hc : c < S.n) : (run S f T B c).2.2.length ≤ 1 + 10 * (calls (run S f T B c).2.2).length := by
  refine run_ind ok (M := fun _ T B c r => r.2.2.length ≤ 1 + 10 * (calls r.2.2).length) (ML := fun _ T B os r => r.2.2.length ≤ os.length + 10 * (calls r.2.2).length) ?_ ?_ ?_ ?_ ?_ f T B c hf hc
  · intros; simp
  · intros; simp
  · intros; simp
  · intro f T B o os r q _ _ h1 h2
    simp only [List.length_append, List.length_cons, calls_append]
    omega
  · intro f T B c r hc _ _ _ _ h
    have ec : calls (evd S c r).2.2 = c :: calls r.2.2 := by
      show calls ((true, c) :: r.2.2 ++ [(false, c)]) = _
      rw [calls_append, calls_t, calls_f, calls_nil, List.append_nil]
    rw [ec]
    have := ok.few c hc
    show ((true, c) :: r.2.2 ++ [(false, c)]).length ≤ _
    simp only [List.length_append, List.length_cons, List.length_nil]
    omega

/-- closed under operands -/
def Closed (S : Sys) (P : Nat → Prop) : Prop := ∀ c, c < S.n → P c → ∀ o ∈ S.ops c, P o
theorem run_in (ok : S.Ok) {P : Nat → Prop} (cl : Closed S P) (f : Nat) (T : Tab) (B : List Nat) (c : Nat) (hf : Fit S f B) (hc : c < S.n) : P c → ∀ x ∈ calls (run S f T B c).2.2, P x := by
  refine run_ind ok (M := fun _ T B c r => P c → ∀ x ∈ calls r.2.2, P x) (ML := fun _ T B os r => (∀ o ∈ os, P o) → ∀ x ∈ calls r.2.2, P x) ?_ ?_ ?_ ?_ ?_ f T B c hf hc
  · intros f T B c v _ _ _ x hx; simp [calls] at hx
  · intros f T B c _ _ _ _ x hx; simp [calls] at hx
  · intros f T B _ x hx; simp [calls] at hx
  · intro f T B o os r q _ _ h1 h2 h x hx
    rw [calls_append, List.mem_append] at hx
    rcases hx with hx | hx
    · exact h1 (h o (by simp)) x hx
    · exact h2 (fun p hp => h p (by simp [hp])) x hx
  · intro f T B c r hc _ _ _ _ h pc x hx
    have ec : calls (evd S c r).2.2 = c :: calls r.2.2 := by
      show calls ((true, c) :: r.2.2 ++ [(false, c)]) = _
      rw [calls_append, calls_t, calls_f, calls_nil, List.append_nil]
    rw [ec] at hx
    rcases List.mem_cons.mp hx with rfl | hx
    · exact pc
    · exact h (fun o ho => cl c hc pc o ho) x hx

/-- levels: values of the right range -/
def Lv (v : Int) : Prop := 0 ≤ v ∧ v ≤ 7
def TLv (T : Tab) : Prop := ∀ x v, T x = some v → Lv v
structure Sys.Lvl (S : Sys) : Prop where
  gs : ∀ c, c < S.n → Lv (S.gs c)
  val : ∀ c, c < S.n → ∀ vs : List Int, (∀ v ∈ vs, Lv v) → Lv (S.val c vs)
theorem run_lv (ok : S.Ok) (lv : S.Lvl) (f : Nat) (T : Tab) (B : List Nat) (c : Nat) (hf : Fit S f B) (hc : c < S.n) : TLv T → Lv (run S f T B c).1 ∧ TLv (run S f T B c).2.1 := by
  refine run_ind ok (M := fun _ T B c r => TLv T → Lv r.1 ∧ TLv r.2.1) (ML := fun _ T B os r => TLv T → (∀ v ∈ r.1, Lv v) ∧ TLv r.2.1) ?_ ?_ ?_ ?_ ?_ f T B c hf hc
  · intro f T B c v _ e h; exact ⟨h c v e, h⟩
  · intro f T B c hc _ _ h; exact ⟨lv.gs c hc, h⟩
  · intro f T B h; exact ⟨by simp, h⟩
  · intro f T B o os r q _ _ h1 h2 h
    obtain ⟨a, b⟩ := h1 h
    obtain ⟨c, d⟩ := h2 b
    refine ⟨?_, d⟩
    intro v hv
    rcases List.mem_cons.mp hv with rfl | hv
    · exact a
    · exact c v hv
  · intro f T B c r hc _ _ _ _ h ht
    obtain ⟨a, b⟩ := h ht
    have z := lv.val c hc r.1 a
    refine ⟨z, ?_⟩
    intro x v e
    by_cases q : x = c
    · subst q
      have e' : put r.2.1 x (S.val x r.1) x = some v := e
      rw [put_same] at e'
      cases e'
      exact z
    · have e' : put r.2.1 c (S.val c r.1) x = some v := e
      rw [put_ne q] at e'
      exact b x v e'

/-- TWO RUNS. R is closed; on L the second run has F's values ahead; elsewhere in R both agree -/
structure Sim (L R : Nat → Prop) (F T T2 : Tab) (B B2 : List Nat) : Prop where
  nL : ∀ x, L x → x ∉ B ∧ x ∉ B2
  fL : ∀ x, L x → T2 x = F x
  eT : ∀ x, R x → ¬ L x → T x = T2 x
  eB : ∀ x, R x → ¬ L x → (x ∈ B ↔ x ∈ B2)
structure SimM (S : Sys) (L R : Nat → Prop) (F : Tab) (T : Tab) (B : List Nat) (c : Nat) (r : Res) : Prop where
  sub : Sub T r.2.1
  bsy : ∀ x ∈ B, r.2.1 x = T x
  inn : L c → ∀ x, ¬ L x → r.2.1 x = T x
  sim : R c → Sub r.2.1 F → ∀ f2 T2 B2, Fit S f2 B2 → Sim L R F T T2 B B2 →
    (run S f2 T2 B2 c).1 = r.1 ∧ (∀ x, R x → ¬ L x → r.2.1 x = (run S f2 T2 B2 c).2.1 x) ∧ (∀ x, L x → (run S f2 T2 B2 c).2.1 x = T2 x)
structure SimML (S : Sys) (L R : Nat → Prop) (F : Tab) (T : Tab) (B os : List Nat) (r : ResL) : Prop where
  sub : Sub T r.2.1
  bsy : ∀ x ∈ B, r.2.1 x = T x
  inn : (∀ o ∈ os, L o) → ∀ x, ¬ L x → r.2.1 x = T x
  sim : (∀ o ∈ os, R o) → Sub r.2.1 F → ∀ f2 T2 B2, Fit S f2 B2 → Sim L R F T T2 B B2 →
    (runL (fun T o => run S f2 T B2 o) T2 os).1 = r.1 ∧ (∀ x, R x → ¬ L x → r.2.1 x = (runL (fun T o => run S f2 T B2 o) T2 os).2.1 x) ∧ (∀ x, L x → (runL (fun T o => run S f2 T B2 o) T2 os).2.1 x = T2 x)
theorem run_simM (ok : S.Ok) {L R : Nat → Prop} {F : Tab} (cL : Closed S L) (cR : Closed S R) (f : Nat) (T : Tab) (B : List Nat) (c : Nat) (hf : Fit S f B) (hc : c < S.n) : SimM S L R F T B c (run S f T B c) := by
  refine run_ind ok (M := fun _ T B c r => SimM S L R F T B c r) (ML := fun _ T B os r => SimML S L R F T B os r) ?_ ?_ ?_ ?_ ?_ f T B c hf hc
  · intro f T B c v hc e
    refine ⟨Sub.refl _, fun _ _ => rfl, fun _ _ _ => rfl, fun rc sb f2 T2 B2 hf2 sim => ?_⟩
    have e2 : T2 c = some v := by
      by_cases hl : L c
      · rw [sim.fL c hl]; exact sb c v e
      · rw [← sim.eT c rc hl]; exact e
    cases f2 with
    | zero => exact hf2.zero.elim
    | succ f2 =>
      unfold run
      simp only [e2]
      exact ⟨trivial, fun x rx lx => sim.eT x rx lx, fun _ _ => trivial⟩
  · intro f T B c hc e hb
    refine ⟨Sub.refl _, fun _ _ => rfl, fun _ _ _ => rfl, fun rc sb f2 T2 B2 hf2 sim => ?_⟩
    have hl : ¬ L c := fun z => (sim.nL c z).1 hb
    have e2 : T2 c = none := by rw [← sim.eT c rc hl]; exact e
    have hb2 : c ∈ B2 := (sim.eB c rc hl).mp hb
    cases f2 with
    | zero => exact hf2.zero.elim
    | succ f2 =>
      unfold run
      simp only [e2, hb2, if_true]
      exact ⟨trivial, fun x rx lx => sim.eT x rx lx, fun _ _ => trivial⟩
  · intro f T B
    exact ⟨Sub.refl _, fun _ _ => rfl, fun _ _ _ => rfl, fun _ _ f2 T2 B2 hf2 sim => ⟨rfl, fun x rx lx => sim.eT x rx lx, fun _ _ => rfl⟩⟩
  · intro f T B o os r q ho hos h1 h2
    refine ⟨h1.sub.trans h2.sub, fun x hx => (h2.bsy x hx).trans (h1.bsy x hx), fun hL x lx => (h2.inn (fun p hp => hL p (by simp [hp])) x lx).trans (h1.inn (hL o (by simp)) x lx), fun hR sb f2 T2 B2 hf2 sim => ?_⟩
    obtain ⟨a1, a2, a3⟩ := h1.sim (hR o (by simp)) (h2.sub.trans sb) f2 T2 B2 hf2 sim
    have sim2 : Sim L R F r.2.1 (run S f2 T2 B2 o).2.1 B B2 := ⟨sim.nL, fun x lx => (a3 x lx).trans (sim.fL x lx), a2, sim.eB⟩
    obtain ⟨b1, b2, b3⟩ := h2.sim (fun p hp => hR p (by simp [hp])) sb f2 _ B2 hf2 sim2
    refine ⟨?_, b2, fun x lx => (b3 x lx).trans (a3 x lx)⟩
    show (run S f2 T2 B2 o).1 :: _ = r.1 :: q.1
    rw [a1, b1]
  · intro f T B c r hc e hB hp _ h
    have rc0 : r.2.1 c = none := (h.bsy c (by simp)).trans e
    have sbr : Sub r.2.1 (evd S c r).2.1 := (Sub.refl _).put rc0
    refine ⟨h.sub.trans sbr, fun x hx => ?_, fun lc x lx => ?_, fun rc sb f2 T2 B2 hf2 sim => ?_⟩
    · have : x ≠ c := fun z => hB (z ▸ hx)
      exact (put_ne this).trans (h.bsy x (by simp [hx]))
    · have : x ≠ c := fun z => lx (z ▸ lc)
      exact (put_ne this).trans (h.inn (fun o ho => cL c hc lc o ho) x lx)
    · by_cases lc : L c
      · have e2 : T2 c = some (S.val c r.1) := by
          rw [sim.fL c lc]; exact sb c _ put_same
        cases f2 with
        | zero => exact hf2.zero.elim
        | succ f2 =>
          unfold run
          simp only [e2]
          refine ⟨rfl, fun x rx lx => ?_, fun _ _ => trivial⟩
          have : x ≠ c := fun z => lx (z ▸ lc)
          rw [← sim.eT x rx lx]
          exact (put_ne this).trans (h.inn (fun o ho => cL c hc lc o ho) x lx)
      · have e2 : T2 c = none := by rw [← sim.eT c rc lc]; exact e
        have hb2 : c ∉ B2 := fun z => hB ((sim.eB c rc lc).mpr z)
        cases f2 with
        | zero => exact hf2.zero.elim
        | succ f2 =>
          unfold run
          simp only [e2, hb2, if_false]
          have hp2 := hf2.push hc hb2
          have sim2 : Sim L R F T T2 (B ++ [c]) (B2 ++ [c]) := by
            refine ⟨fun x lx => ?_, sim.fL, sim.eT, fun x rx lx => ?_⟩
            · have : x ≠ c := fun z => lc (z ▸ lx)
              obtain ⟨a, b⟩ := sim.nL x lx
              simp [a, b, this]
            · have := sim.eB x rx lx
              simp [this]
          obtain ⟨b1, b2, b3⟩ := h.sim (fun o ho => cR c hc rc o ho) (sbr.trans sb) f2 T2 (B2 ++ [c]) hp2 sim2
          refine ⟨?_, fun x rx lx => ?_, fun x lx => ?_⟩
          · show S.val c _ = S.val c r.1
            rw [b1]
          · show put r.2.1 c _ x = put _ c _ x
            by_cases hx : x = c
            · subst hx
              rw [put_same, put_same, b1]
            · rw [put_ne hx, put_ne hx]
              exact b2 x rx lx
          · have : x ≠ c := fun z => lc (z ▸ lx)
            exact (put_ne this).trans (b3 x lx)


/-! ### asks, histories, entries -/
def ask (S : Sys) (T : Tab) (c : Nat) : Res := run S 25 T [] c
def first (D seen : List Nat) : Option Nat := (seen.filter (fun x => decide (x ∈ D))).head?
theorem first_nil {D : List Nat} : first D [] = none := rfl
theorem first_cons {D : List Nat} {c : Nat} {l : List Nat} : first D (c :: l) = if c ∈ D then some c else first D l := by
  unfold first
  by_cases h : c ∈ D <;> simp [h]
theorem first_append {D a b : List Nat} : first D (a ++ b) = (first D a).or (first D b) := by
  induction a with
  | nil => simp [first_nil]
  | cons c a ih =>
    rw [List.cons_append, first_cons, first_cons, ih]
    by_cases h : c ∈ D <;> simp [h]
theorem first_none {D l : List Nat} (h : ∀ x ∈ l, x ∉ D) : first D l = none := by
  induction l with
  | nil => rfl
  | cons c l ih => rw [first_cons, if_neg (h c (by simp))]; exact ih fun x hx => h x (by simp [hx])
theorem first_mem {D l : List Nat} {e : Nat} (h : first D l = some e) : e ∈ D ∧ e ∈ l := by
  induction l with
  | nil => cases h
  | cons c l ih =>
    rw [first_cons] at h
    by_cases hc : c ∈ D
    · rw [if_pos hc] at h; cases h; exact ⟨hc, by simp⟩
    · rw [if_neg hc] at h
      exact ⟨(ih h).1, List.mem_cons_of_mem _ (ih h).2⟩

def restr (F : Tab) (l : List Nat) : Tab := fun x => if x ∈ l then F x else none
theorem restr_in {F : Tab} {l : List Nat} {x : Nat} (h : x ∈ l) : restr F l x = F x := if_pos h
theorem restr_out {F : Tab} {l : List Nat} {x : Nat} (h : x ∉ l) : restr F l x = none := if_neg h
def Reach (S : Sys) (c o : Nat) : Prop := ∀ P : Nat → Prop, Closed S P → P c → P o
theorem Reach.refl (c : Nat) : Reach S c c := fun _ _ h => h
theorem Reach.trans {a b c : Nat} (h : Reach S a b) (k : Reach S b c) : Reach S a c := fun P cl p => k P cl (h P cl p)
theorem Reach.op {a b o : Nat} (h : Reach S a b) (hb : b < S.n) (ho : o ∈ S.ops b) : Reach S a o := fun P cl p => cl b hb (h P cl p) o ho

/-- a component D above the closed l -/
structure Comp (S : Sys) (l D : List Nat) : Prop where
  cl : Closed S (fun x => x ∈ l)
  cr : Closed S (fun x => x ∈ l ∨ x ∈ D)
  dj : ∀ x ∈ D, x ∉ l
  lt : ∀ x ∈ D, x < S.n
  conn : ∀ e ∈ D, ∀ d ∈ D, Reach S e d

/-- stored cells have their operands stored or busy -/
def CloB (S : Sys) (T : Tab) (B : List Nat) : Prop := ∀ x v, x < S.n → T x = some v → ∀ o ∈ S.ops x, o ∈ B ∨ ∃ w, T o = some w
theorem CloB.push {T : Tab} {B : List Nat} {c : Nat} (h : CloB S T B) : CloB S T (B ++ [c]) := fun x v hx e o ho => (h x v hx e o ho).imp (fun z => by simp [z]) id
theorem run_clo (ok : S.Ok) (f : Nat) (T : Tab) (B : List Nat) (c : Nat) (hf : Fit S f B) (hc : c < S.n) (h : CloB S T B) : CloB S (run S f T B c).2.1 B := by
  obtain ⟨r, _⟩ := run_ok ok f T B c hf hc
  intro x v hx e o ho
  by_cases q : (run S f T B c).2.1 x = T x
  · rcases h x v hx (q ▸ e) o ho with z | ⟨w, z⟩
    · exact .inl z
    · exact .inr ⟨w, r.sub _ _ z⟩
  · exact r.ops x (r.new x q) o ho

def Ent (S : Sys) (l D : List Nat) (F : Tab) (cs : List Nat) (T' : Tab) : Prop :=
  (first D cs = none ∧ ∀ x ∈ D, T' x = none) ∨ ∃ e ∈ D, first D cs = some e ∧ ∀ x ∈ D, T' x = (ask S (restr F l) e).2.1 x ∧ ∃ v, T' x = some v
theorem Ent.later {l D : List Nat} {F T' T2 : Tab} {cs ds : List Nat} (h : Ent S l D F cs T') (sb : Sub T' T2) (k : (∀ x ∈ D, T' x = none) → Ent S l D F ds T2) : Ent S l D F (cs ++ ds) T2 := by
  rcases h with ⟨h1, h2⟩ | ⟨e, he, h1, h2⟩
  · rcases k h2 with ⟨k1, k2⟩ | ⟨e, he, k1, k2⟩
    · exact .inl ⟨by rw [first_append, h1, k1]; rfl, k2⟩
    · exact .inr ⟨e, he, by rw [first_append, h1, k1]; rfl, k2⟩
  · refine .inr ⟨e, he, by rw [first_append, h1]; rfl, fun x hx => ?_⟩
    obtain ⟨a, v, b⟩ := h2 x hx
    have := sb x v b
    exact ⟨by rw [this, ← a, b], v, this⟩

theorem fit25 (ok : S.Ok) : Fit S 25 [] := ⟨List.nodup_nil, fun _ h => absurd h (by simp), by have := ok.le; simp; omega⟩

structure EntM (S : Sys) (l D : List Nat) (F T : Tab) (B : List Nat) (cs : List Nat) (T' : Tab) : Prop where
  sub : Sub T T'
  bsy : ∀ x ∈ B, T' x = T x
  clo : CloB S T B → CloB S T' B
  ent : CloB S T B → (∀ x ∈ D, T x = none) → (∀ b ∈ B, b ∉ l ∧ b ∉ D) → Sub T' F → Ent S l D F cs T'
theorem run_ent (ok : S.Ok) {l D : List Nat} {F : Tab} (C : Comp S l D) (f : Nat) (T : Tab) (B : List Nat) (c : Nat) (hf : Fit S f B) (hc : c < S.n) :
    EntM S l D F T B (calls (run S f T B c).2.2) (run S f T B c).2.1 := by
  refine run_ind ok (M := fun _ T B c r => EntM S l D F T B (calls r.2.2) r.2.1) (ML := fun _ T B os r => EntM S l D F T B (calls r.2.2) r.2.1) ?_ ?_ ?_ ?_ ?_ f T B c hf hc
  · intro f T B c v _ _
    exact ⟨Sub.refl _, fun _ _ => rfl, id, fun _ h _ _ => .inl ⟨rfl, h⟩⟩
  · intro f T B c _ _ _
    exact ⟨Sub.refl _, fun _ _ => rfl, id, fun _ h _ _ => .inl ⟨rfl, h⟩⟩
  · intro f T B
    exact ⟨Sub.refl _, fun _ _ => rfl, id, fun _ h _ _ => .inl ⟨rfl, h⟩⟩
  · intro f T B o os r q _ _ h1 h2
    refine ⟨h1.sub.trans h2.sub, fun x hx => (h2.bsy x hx).trans (h1.bsy x hx), fun k => h2.clo (h1.clo k), fun k h hb sb => ?_⟩
    rw [calls_append]
    exact (h1.ent k h hb (h2.sub.trans sb)).later h2.sub fun z => h2.ent (h1.clo k) z hb sb
  · intro f T B c r hc e hB hp er h
    have rc0 : r.2.1 c = none := (h.bsy c (by simp)).trans e
    have sbr : Sub r.2.1 (evd S c r).2.1 := (Sub.refl _).put rc0
    have hf1 : Fit S (f + 1) B := ⟨(List.nodup_append.mp hp.nd).1, fun b hb => hp.lt b (by simp [hb]), by have := hp.fu; simp at this; omega⟩
    have ec : calls (evd S c r).2.2 = c :: calls r.2.2 := by
      show calls ((true, c) :: r.2.2 ++ [(false, c)]) = _
      rw [calls_append, calls_t, calls_f, calls_nil, List.append_nil]
    obtain ⟨ro, rv, _⟩ := run_ok ok (f + 1) T B c hf1 hc
    refine ⟨h.sub.trans sbr, fun x hx => ?_, fun k => ?_, fun k hT hb sb => ?_⟩
    · have : x ≠ c := fun z => hB (z ▸ hx)
      exact (put_ne this).trans (h.bsy x (by simp [hx]))
    · have := run_clo ok (f + 1) T B c hf1 hc k
      rw [er] at this
      exact this
    · by_cases cl : c ∈ l
      · have hin := run_in ok C.cl (f + 1) T B c hf1 hc cl
        rw [er] at hin ro
        refine .inl ⟨first_none fun x hx z => C.dj x z (hin x hx), fun x hx => ?_⟩
        by_cases q : (evd S c r).2.1 x = T x
        · rw [q]; exact hT x hx
        · exact absurd (hin x (ro.new x q)) (C.dj x hx)
      · by_cases cD : c ∈ D
        · have sm : Sim (fun x => x ∈ l) (fun x => x ∈ l ∨ x ∈ D) F T (restr F l) B [] := by
            refine ⟨fun x hx => ⟨fun z => (hb x z).1 hx, by simp⟩, fun x hx => restr_in hx, fun x hx hl => ?_, fun x hx hl => ?_⟩
            · rw [restr_out hl]; exact hT x (hx.resolve_left hl)
            · have : x ∉ B := fun z => (hb x z).2 (hx.resolve_left hl)
              simp [this]
          have hs := run_simM ok (F := F) C.cl C.cr (f + 1) T B c hf1 hc
          rw [er] at hs
          obtain ⟨_, a2, _⟩ := hs.sim (.inr cD) sb 25 _ _ (fit25 ok) sm
          refine .inr ⟨c, cD, by rw [ec, first_cons, if_pos cD], fun x hx => ⟨a2 x (.inr hx) (C.dj x hx), ?_⟩⟩
          have k2 := run_clo ok (f + 1) T B c hf1 hc k
          have rv' := rv hB
          rw [er] at k2 rv'
          have cP : Closed S (fun x => (x ∈ l ∨ x ∈ D) ∧ ∃ v, (evd S c r).2.1 x = some v) := by
            rintro y hy ⟨y1, v, y2⟩ o ho
            have y3 := C.cr y hy y1 o ho
            refine ⟨y3, ?_⟩
            rcases k2 y v hy y2 o ho with z | z
            · exact absurd y3 (fun w => w.elim (hb o z).1 (hb o z).2)
            · exact z
          exact (C.conn c cD x hx _ cP ⟨.inr cD, _, rv'⟩).2
        · have e1 := h.ent k.push hT (fun b hb' => ?_) (sbr.trans sb)
          · rcases e1 with ⟨h1, h2⟩ | ⟨d, hd, h1, h2⟩
            · refine .inl ⟨by rw [ec, first_cons, if_neg cD]; exact h1, fun x hx => ?_⟩
              have : x ≠ c := fun z => cD (z ▸ hx)
              exact (put_ne this).trans (h2 x hx)
            · refine .inr ⟨d, hd, by rw [ec, first_cons, if_neg cD]; exact h1, fun x hx => ?_⟩
              have : x ≠ c := fun z => cD (z ▸ hx)
              show put r.2.1 c _ x = _ ∧ ∃ v, put r.2.1 c _ x = _
              rw [put_ne this]
              exact h2 x hx
          · rcases List.mem_append.mp hb' with z | z
            · exact hb b z
            · simp at z
              subst z
              exact ⟨cl, cD⟩


def hist (S : Sys) : Tab → List Nat → Tab × List Nat
  | T, [] => (T, [])
  | T, c :: cs => ((hist S (ask S T c).2.1 cs).1, calls (ask S T c).2.2 ++ (hist S (ask S T c).2.1 cs).2)
def noT : Tab := fun _ => none
theorem hist_append : ∀ (a : List Nat) (T : Tab) (b : List Nat), hist S T (a ++ b) = ((hist S (hist S T a).1 b).1, (hist S T a).2 ++ (hist S (hist S T a).1 b).2)
  | [], _, _ => by simp [hist]
  | c :: a, T, b => by
    rw [List.cons_append, hist, hist, hist_append a]
    simp only [List.append_assoc]

theorem ask_sub (ok : S.Ok) {T : Tab} {c : Nat} (hc : c < S.n) : Sub T (ask S T c).2.1 := (run_ok ok 25 T [] c (fit25 ok) hc).1.sub
theorem ask_got (ok : S.Ok) {T : Tab} {c : Nat} (hc : c < S.n) : (ask S T c).2.1 c = some (ask S T c).1 := (run_ok ok 25 T [] c (fit25 ok) hc).2.1 (by simp)
theorem ask_clo (ok : S.Ok) {T : Tab} {c : Nat} (hc : c < S.n) (h : CloB S T []) : CloB S (ask S T c).2.1 [] := run_clo ok 25 T [] c (fit25 ok) hc h
theorem ask_run (ok : S.Ok) {T : Tab} {c : Nat} (hc : c < S.n) : RunOk S T [] (ask S T c) := (run_ok ok 25 T [] c (fit25 ok) hc).1
theorem ask_stored {T : Tab} {c : Nat} {v : Int} (h : T c = some v) : ask S T c = (v, T, [(false, c)]) := by
  unfold ask run
  simp only [h]
theorem ask_free {T : Tab} {c : Nat} (h : T c = none) : ∃ r, calls (ask S T c).2.2 = c :: r := by
  unfold ask run
  simp only [h, List.not_mem_nil, if_false]
  refine ⟨calls (runL (fun T o => run S 24 T ([] ++ [c]) o) T (S.ops c)).2.2, ?_⟩
  show calls ((true, c) :: _ ++ [(false, c)]) = _
  rw [calls_append, calls_t, calls_f, calls_nil, List.append_nil]
theorem calls_len (ok : S.Ok) {T : Tab} {c : Nat} (hc : c < S.n) : (calls (ask S T c).2.2).length ≤ 24 := by
  have r := ask_run ok (T := T) hc
  have := nodup_le S.n _ r.nd fun b hb => (r.was b hb).2.2.1
  have := ok.le
  omega
theorem ask_ev (ok : S.Ok) {T : Tab} {c : Nat} (hc : c < S.n) : (ask S T c).2.2.length ≤ 241 := by
  have h1 : (ask S T c).2.2.length ≤ 1 + 10 * (calls (ask S T c).2.2).length := run_ev ok 25 T [] c (fit25 ok) hc
  have := calls_len ok (T := T) hc
  omega
theorem ask_out (ok : S.Ok) {T : Tab} {c x : Nat} (hc : c < S.n) (hx : S.n ≤ x) : (ask S T c).2.1 x = T x := by
  have r := ask_run ok (T := T) hc
  by_cases q : (ask S T c).2.1 x = T x
  · exact q
  · have := (r.was x (r.new x q)).2.2.1
    omega

structure HistOk (S : Sys) (T : Tab) : Prop where
  clo : CloB S T []
  out : ∀ x, S.n ≤ x → T x = none
  lv : TLv T
theorem HistOk.no : HistOk S noT := ⟨fun _ _ _ h => (by cases h), fun _ _ => rfl, fun _ _ h => (by cases h)⟩
theorem HistOk.ask (ok : S.Ok) (lv : S.Lvl) {T : Tab} {c : Nat} (hc : c < S.n) (h : HistOk S T) : HistOk S (ask S T c).2.1 :=
  ⟨ask_clo ok hc h.clo, fun x hx => (ask_out ok hc hx).trans (h.out x hx), (run_lv ok lv 25 T [] c (fit25 ok) hc h.lv).2⟩
theorem hist_ok (ok : S.Ok) (lv : S.Lvl) : ∀ (qs : List Nat) (T : Tab), (∀ q ∈ qs, q < S.n) → HistOk S T → HistOk S (hist S T qs).1
  | [], _, _, h => h
  | c :: qs, T, hq, h => hist_ok ok lv qs _ (fun q z => hq q (by simp [z])) (h.ask ok lv (hq c (by simp)))
theorem hist_sub (ok : S.Ok) : ∀ (qs : List Nat) (T : Tab), (∀ q ∈ qs, q < S.n) → Sub T (hist S T qs).1
  | [], T, _ => Sub.refl T
  | c :: qs, T, hq => (ask_sub ok (hq c (by simp))).trans (hist_sub ok qs _ (fun q z => hq q (by simp [z])))
theorem hist_seen (ok : S.Ok) : ∀ (qs : List Nat) (T : Tab), (∀ q ∈ qs, q < S.n) → (hist S T qs).2.length ≤ 24 * qs.length
  | [], T, _ => Nat.le_refl _
  | c :: qs, T, hq => by
    have h1 := calls_len ok (T := T) (hq c (by simp))
    have h2 := hist_seen ok qs (ask S T c).2.1 (fun q z => hq q (by simp [z]))
    show (calls (ask S T c).2.2 ++ (hist S (ask S T c).2.1 qs).2).length ≤ _
    rw [List.length_append, List.length_cons]
    omega
theorem hist_ent (ok : S.Ok) {l D : List Nat} {F : Tab} (C : Comp S l D) : ∀ (qs : List Nat) (T : Tab), (∀ q ∈ qs, q < S.n) → CloB S T [] → (∀ x ∈ D, T x = none) → Sub (hist S T qs).1 F → Ent S l D F (hist S T qs).2 (hist S T qs).1
  | [], T, _, _, h, _ => .inl ⟨rfl, h⟩
  | c :: qs, T, hq, k, h, sb => by
    have hc := hq c (by simp)
    have hq' : ∀ q ∈ qs, q < S.n := fun q z => hq q (by simp [z])
    have s2 := hist_sub ok qs (ask S T c).2.1 hq'
    have e := (run_ent ok (F := F) C 25 T [] c (fit25 ok) hc).ent k h (by simp) (s2.trans sb)
    exact Ent.later e s2 fun z => hist_ent ok C qs _ hq' (ask_clo ok hc k) z sb
theorem hist_stored : ∀ (qs : List Nat) (T : Tab), (∀ q ∈ qs, ∃ v, T q = some v) → hist S T qs = (T, [])
  | [], _, _ => rfl
  | c :: qs, T, h => by
    obtain ⟨v, e⟩ := h c (by simp)
    rw [hist, ask_stored e]
    simp only
    rw [hist_stored qs T (fun q z => h q (by simp [z]))]
    simp [calls]

/-- the components in their order -/
structure Parts (S : Sys) (ps : List (List Nat)) : Prop where
  cover : ∀ c, c < S.n ↔ c ∈ ps.flatten
  comp : ∀ i D, ps[i]? = some D → Comp S (ps.take i).flatten D
  asc : ∀ D ∈ ps, D.Pairwise (· < ·)
  ne : ∀ D ∈ ps, D ≠ []
theorem take_flat {ps : List (List Nat)} {i : Nat} {D : List Nat} (h : ps[i]? = some D) : (ps.take (i + 1)).flatten = (ps.take i).flatten ++ D := by
  rw [List.take_add_one, h]; simp
theorem mem_take {ps : List (List Nat)} {i j x : Nat} {D : List Nat} (h : ps[j]? = some D) (hj : j < i) (hx : x ∈ D) : x ∈ (ps.take i).flatten := by
  refine List.mem_flatten.mpr ⟨D, ?_, hx⟩
  rw [List.mem_iff_getElem?]
  exact ⟨j, by rw [List.getElem?_take_of_lt hj]; exact h⟩
theorem of_mem_take {ps : List (List Nat)} {i x : Nat} (h : x ∈ (ps.take i).flatten) : ∃ j D, j < i ∧ ps[j]? = some D ∧ x ∈ D := by
  obtain ⟨D, hD, hx⟩ := List.mem_flatten.mp h
  obtain ⟨j, hj⟩ := List.mem_iff_getElem?.mp hD
  have hl : j < i := by
    have := (List.getElem?_eq_some_iff.mp hj).1
    rw [List.length_take] at this
    omega
  exact ⟨j, D, hl, by rw [List.getElem?_take_of_lt hl] at hj; exact hj, hx⟩
theorem Parts.lt {ps : List (List Nat)} (p : Parts S ps) {i x : Nat} {D : List Nat} (h : ps[i]? = some D) (hx : x ∈ D) : x < S.n := (p.comp i D h).lt x hx
theorem Parts.apart {ps : List (List Nat)} (p : Parts S ps) {i j x : Nat} {D E : List Nat} (h : ps[i]? = some D) (k : ps[j]? = some E) (hx : x ∈ D) (hy : x ∈ E) : i = j := by
  rcases Nat.lt_trichotomy i j with q | q | q
  · exact absurd (mem_take h q hx) ((p.comp j E k).dj x hy)
  · exact q
  · exact absurd (mem_take k q hy) ((p.comp i D h).dj x hx)

/-- a table with these entries -/
structure Good (S : Sys) (ps : List (List Nat)) (F : Tab) (es : List (Option Nat)) : Prop where
  h : HistOk S F
  len : es.length = ps.length
  at_ : ∀ i D, ps[i]? = some D → (es[i]? = some none ∧ ∀ x ∈ D, F x = none) ∨ ∃ e ∈ D, es[i]? = some (some e) ∧ ∀ x ∈ D, F x = (ask S (restr F (ps.take i).flatten) e).2.1 x ∧ ∃ v, F x = some v

/-- what a history plays -/
def ents (ps : List (List Nat)) (seen : List Nat) : List (Option Nat) := ps.map fun D => first D seen
theorem play_good (ok : S.Ok) (lv : S.Lvl) {ps : List (List Nat)} (p : Parts S ps) (qs : List Nat) (hq : ∀ q ∈ qs, q < S.n) : Good S ps (hist S noT qs).1 (ents ps (hist S noT qs).2) := by
  refine ⟨hist_ok ok lv qs _ hq .no, by simp [ents], fun i D hD => ?_⟩
  have e := hist_ent ok (F := (hist S noT qs).1) (p.comp i D hD) qs noT hq HistOk.no.clo (fun _ _ => rfl) (Sub.refl _)
  have ei : (ents ps (hist S noT qs).2)[i]? = some (first D (hist S noT qs).2) := by simp [ents, hD]
  rcases e with ⟨a, b⟩ | ⟨e, he, a, b⟩
  · exact .inl ⟨by rw [ei, a], b⟩
  · exact .inr ⟨e, he, by rw [ei, a], b⟩

section
variable {ps : List (List Nat)} {F : Tab} {es : List (Option Nat)}
theorem Good.none_at (g : Good S ps F es) {i : Nat} {D : List Nat} (hD : ps[i]? = some D) (he : es[i]? = some none) : ∀ x ∈ D, F x = none := by
  rcases g.at_ i D hD with ⟨_, h⟩ | ⟨e, _, h, _⟩
  · exact h
  · rw [he] at h; cases h
theorem Good.some_at (g : Good S ps F es) {i e : Nat} {D : List Nat} (hD : ps[i]? = some D) (he : es[i]? = some (some e)) : e ∈ D ∧ ∀ x ∈ D, F x = (ask S (restr F (ps.take i).flatten) e).2.1 x ∧ ∃ v, F x = some v := by
  rcases g.at_ i D hD with ⟨h, _⟩ | ⟨e', h1, h, h2⟩
  · rw [he] at h; cases h
  · rw [he] at h; cases h; exact ⟨h1, h2⟩
/-- an entered component's operands: its own, or stored below -/
theorem Good.below (p : Parts S ps) (g : Good S ps F es) {i e : Nat} {D : List Nat} (hD : ps[i]? = some D) (he : es[i]? = some (some e)) : ∀ x ∈ D, ∀ o ∈ S.ops x, o ∈ D ∨ (o ∈ (ps.take i).flatten ∧ ∃ v, F o = some v) := by
  intro x hx o ho
  have C := p.comp i D hD
  obtain ⟨_, h⟩ := g.some_at hD he
  obtain ⟨_, v, e⟩ := h x hx
  rcases C.cr x (C.lt x hx) (.inr hx) o ho with z | z
  · refine .inr ⟨z, ?_⟩
    rcases g.h.clo x v (C.lt x hx) e o ho with y | y
    · simp at y
    · exact y
  · exact .inl z
theorem Good.step (ok : S.Ok) (p : Parts S ps) (g : Good S ps F es) {i e : Nat} {D : List Nat} (hD : ps[i]? = some D) (he : es[i]? = some (some e)) :
    (ask S (restr F (ps.take i).flatten) e).2.1 = restr F (ps.take (i + 1)).flatten ∧ (∀ x ∈ calls (ask S (restr F (ps.take i).flatten) e).2.2, x ∈ D) ∧
    ∃ r, calls (ask S (restr F (ps.take i).flatten) e).2.2 = e :: r := by
  have C := p.comp i D hD
  obtain ⟨heD, h⟩ := g.some_at hD he
  have hen := C.lt e heD
  have bl := g.below p hD he
  have R := ask_run ok (T := restr F (ps.take i).flatten) hen
  have cP : Closed S (fun x => x ∈ D ∨ (x ∈ (ps.take i).flatten ∧ ∃ v, F x = some v)) := by
    rintro x hx (hxD | ⟨hxl, v, ev⟩) o ho
    · exact bl x hxD o ho
    · refine .inr ⟨C.cl x hx hxl o ho, ?_⟩
      rcases g.h.clo x v hx ev o ho with y | y
      · simp at y
      · exact y
  have hin : ∀ x ∈ calls (ask S (restr F (ps.take i).flatten) e).2.2, x ∈ D := by
    intro x hx
    rcases run_in ok cP 25 _ [] e (fit25 ok) hen (.inl heD) x hx with z | ⟨z, v, ev⟩
    · exact z
    · have := (R.was x hx).1
      rw [restr_in z, ev] at this
      cases this
  refine ⟨?_, hin, ask_free (restr_out (C.dj e heD))⟩
  rw [take_flat hD]
  funext x
  by_cases hx : x ∈ D
  · rw [restr_in (List.mem_append_right _ hx), (h x hx).1]
  · have e1 : (ask S (restr F (ps.take i).flatten) e).2.1 x = restr F (ps.take i).flatten x := by
      by_cases q : (ask S (restr F (ps.take i).flatten) e).2.1 x = restr F (ps.take i).flatten x
      · exact q
      · exact absurd (hin x (R.new x q)) hx
    rw [e1]
    by_cases hl : x ∈ (ps.take i).flatten
    · rw [restr_in hl, restr_in (List.mem_append_left _ hl)]
    · rw [restr_out hl, restr_out]
      rw [List.mem_append]
      exact fun z => z.elim hl hx
theorem Good.skip (g : Good S ps F es) {i : Nat} {D : List Nat} (hD : ps[i]? = some D) (he : es[i]? = some none) : restr F (ps.take i).flatten = restr F (ps.take (i + 1)).flatten := by
  have h := g.none_at hD he
  rw [take_flat hD]
  funext x
  by_cases hl : x ∈ (ps.take i).flatten
  · rw [restr_in hl, restr_in (List.mem_append_left _ hl)]
  · rw [restr_out hl]
    by_cases hx : x ∈ D
    · rw [restr_in (List.mem_append_right _ hx), h x hx]
    · rw [restr_out]
      rw [List.mem_append]
      exact fun z => z.elim hl hx
theorem restr_zero : restr F (ps.take 0).flatten = noT := by
  funext x
  rw [restr_out]
  · rfl
  · simp
theorem Good.whole (p : Parts S ps) (g : Good S ps F es) : restr F (ps.take ps.length).flatten = F := by
  rw [List.take_length]
  funext x
  by_cases hx : x ∈ ps.flatten
  · exact restr_in hx
  · rw [restr_out hx, g.h.out]
    have : ¬ x < S.n := fun z => hx ((p.cover x).mp z)
    omega
theorem Good.es_at (g : Good S ps F es) {i : Nat} (h : i < ps.length) : ∃ o, es[i]? = some o := ⟨es[i]'(by rw [g.len]; exact h), List.getElem?_eq_getElem _⟩
theorem Good.unique (ok : S.Ok) (p : Parts S ps) {F' : Tab} (g : Good S ps F es) (g' : Good S ps F' es) : F = F' := by
  have key : ∀ i, i ≤ ps.length → restr F (ps.take i).flatten = restr F' (ps.take i).flatten := by
    intro i
    induction i with
    | zero => intro _; rw [restr_zero, restr_zero]
    | succ i ih =>
      intro hi
      have ih := ih (by omega)
      obtain ⟨D, hD⟩ : ∃ D, ps[i]? = some D := ⟨ps[i], List.getElem?_eq_getElem (by omega)⟩
      obtain ⟨o, ho⟩ := g.es_at (show i < ps.length by omega)
      cases o with
      | none => rw [← g.skip hD ho, ← g'.skip hD ho, ih]
      | some e => rw [← (g.step ok p hD ho).1, ← (g'.step ok p hD ho).1, ih]
  rw [← g.whole p, ← g'.whole p]
  exact key _ (Nat.le_refl _)
/-- entering a component anew where all others stand -/
theorem Good.again_at (ok : S.Ok) (p : Parts S ps) (g : Good S ps F es) {i e : Nat} {D : List Nat} (hD : ps[i]? = some D) (he : es[i]? = some (some e)) {T : Tab} (hT : ∀ x, T x = if x ∈ D then none else F x) :
    ∀ x ∈ D, (ask S T e).2.1 x = F x := by
  intro x hx
  have C := p.comp i D hD
  obtain ⟨heD, h⟩ := g.some_at hD he
  have cF : Closed S (fun _ => False) := fun _ _ z => z.elim
  have sm : Sim (fun _ => False) (fun x => x ∈ (ps.take i).flatten ∨ x ∈ D) (ask S (restr F (ps.take i).flatten) e).2.1 (restr F (ps.take i).flatten) T [] [] := by
    refine ⟨fun _ z => z.elim, fun _ z => z.elim, fun y hy _ => ?_, fun _ _ _ => Iff.rfl⟩
    rw [hT y]
    rcases hy with hy | hy
    · rw [restr_in hy, if_neg fun z => C.dj y z hy]
    · rw [restr_out (C.dj y hy), if_pos hy]
  obtain ⟨_, a, _⟩ := (run_simM ok cF C.cr 25 (restr F (ps.take i).flatten) [] e (fit25 ok) (C.lt e heD)).sim (.inr heD) (Sub.refl _) 25 T [] (fit25 ok) sm
  rw [(h x hx).1]
  exact (a x (.inr hx) id).symm

/-- the asks of «again» -/
inductive AG (ps : List (List Nat)) (es : List (Option Nat)) : Nat → List Nat → Prop
  | zero : AG ps es 0 []
  | skip {i q} : AG ps es i q → es[i]? = some none → AG ps es (i + 1) q
  | enter {i q D e os} : AG ps es i q → ps[i]? = some D → es[i]? = some (some e) → (∀ o ∈ os, o ∈ q ∨ o = e ∨ o ∈ D) → AG ps es (i + 1) (q ++ e :: os)
structure AGok (S : Sys) (ps : List (List Nat)) (F : Tab) (es : List (Option Nat)) (i : Nat) (q : List Nat) : Prop where
  le : i ≤ ps.length
  tab : (hist S noT q).1 = restr F (ps.take i).flatten
  seen : ∀ x ∈ (hist S noT q).2, x ∈ (ps.take i).flatten
  st : ∀ x ∈ q, x ∈ (ps.take i).flatten ∧ ∃ v, F x = some v
  es_ : ∀ j D, j < i → ps[j]? = some D → es[j]? = some (first D (hist S noT q).2)
theorem mem_take_succ {ps : List (List Nat)} {i x : Nat} (h : x ∈ (ps.take i).flatten) : x ∈ (ps.take (i + 1)).flatten := by
  obtain ⟨j, D, hj, h1, h2⟩ := of_mem_take h
  exact mem_take h1 (by omega) h2
theorem ag_ok (ok : S.Ok) (p : Parts S ps) (g : Good S ps F es) {i : Nat} {q : List Nat} (h : AG ps es i q) : i ≤ ps.length → AGok S ps F es i q := by
  induction h with
  | zero => intro _; exact ⟨by omega, restr_zero.symm, by simp [hist], by simp, fun j D hj => absurd hj (by omega)⟩
  | @skip i q _ he ih =>
    intro hi
    have ih := ih (by omega)
    obtain ⟨D, hD⟩ : ∃ D, ps[i]? = some D := ⟨ps[i], List.getElem?_eq_getElem (by omega)⟩
    refine ⟨hi, ih.tab.trans (g.skip hD he), fun x hx => mem_take_succ (ih.seen x hx), fun x hx => ⟨mem_take_succ (ih.st x hx).1, (ih.st x hx).2⟩, fun j E hj hE => ?_⟩
    by_cases hji : j = i
    · subst hji
      rw [hD] at hE; cases hE
      rw [he, first_none fun x hx => ?_]
      exact fun z => (p.comp j D hD).dj x z (ih.seen x hx)
    · exact ih.es_ j E (by omega) hE
  | @enter i q D e os _ hD he hos ih =>
    intro hi
    have ih := ih (by omega)
    obtain ⟨s1, s2, r, s3⟩ := g.step ok p hD he
    obtain ⟨heD, hg⟩ := g.some_at hD he
    have inD : ∀ {x}, x ∈ D → x ∈ (ps.take (i + 1)).flatten := fun hx => mem_take hD (by omega) hx
    have stq : ∀ x ∈ q ++ e :: os, x ∈ (ps.take (i + 1)).flatten ∧ ∃ v, F x = some v := by
      have sq : ∀ x ∈ q, x ∈ (ps.take (i + 1)).flatten ∧ ∃ v, F x = some v := fun x hx => ⟨mem_take_succ (ih.st x hx).1, (ih.st x hx).2⟩
      have sD : ∀ x ∈ D, x ∈ (ps.take (i + 1)).flatten ∧ ∃ v, F x = some v := fun x hx => ⟨inD hx, (hg x hx).2⟩
      intro x hx
      rcases List.mem_append.mp hx with hx | hx
      · exact sq x hx
      · rcases List.mem_cons.mp hx with rfl | hx
        · exact sD _ heD
        · rcases hos x hx with z | z | z
          · exact sq x z
          · subst z; exact sD _ heD
          · exact sD x z
    have eh : hist S noT (q ++ e :: os) = (restr F (ps.take (i + 1)).flatten, (hist S noT q).2 ++ calls (ask S (restr F (ps.take i).flatten) e).2.2) := by
      rw [hist_append, ih.tab, hist, s1, hist_stored os _ fun x hx => ?_]
      · simp
      · obtain ⟨a, v, b⟩ := stq x (by simp [hx])
        exact ⟨v, by rw [restr_in a]; exact b⟩
    refine ⟨hi, by rw [eh], fun x hx => ?_, stq, fun j E hj hE => ?_⟩
    · rw [eh] at hx
      rcases List.mem_append.mp hx with hx | hx
      · exact mem_take_succ (ih.seen x hx)
      · exact inD (s2 x hx)
    · rw [eh]
      show es[j]? = some (first E ((hist S noT q).2 ++ _))
      rw [first_append]
      by_cases hji : j = i
      · subst hji
        rw [hD] at hE; cases hE
        rw [first_none fun x hx z => (p.comp j D hD).dj x z (ih.seen x hx), s3, first_cons, if_pos heD, he]
        rfl
      · rw [ih.es_ j E (by omega) hE]
        have : first E (calls (ask S (restr F (ps.take i).flatten) e).2.2) = none := first_none fun x hx z => hji (p.apart hE hD z (s2 x hx))
        rw [this, Option.or_none]
theorem ag_play (ok : S.Ok) (p : Parts S ps) (g : Good S ps F es) {q : List Nat} (h : AG ps es ps.length q) : (hist S noT q).1 = F ∧ ents ps (hist S noT q).2 = es ∧ ∀ x ∈ q, x < S.n := by
  have a := ag_ok ok p g h (Nat.le_refl _)
  refine ⟨a.tab.trans (g.whole p), ?_, fun x hx => ?_⟩
  · refine List.ext_getElem? fun i => ?_
    by_cases hi : i < ps.length
    · have hD := List.getElem?_eq_getElem hi
      rw [a.es_ i _ hi hD]
      simp [ents, hD]
    · rw [List.getElem?_eq_none (by simp [ents]; omega), List.getElem?_eq_none (by rw [g.len]; omega)]
  · obtain ⟨j, D, _, h1, h2⟩ := of_mem_take (a.st x hx).1
    exact p.lt h1 h2
end

/-! ### one cell of each component, in order -/
structure Chosen (ps : List (List Nat)) (cs : List Nat) : Prop where
  len : cs.length = ps.length
  mem : ∀ (i : Nat) (D : List Nat) (c : Nat), ps[i]? = some D → cs[i]? = some c → c ∈ D
structure CHok (S : Sys) (ps : List (List Nat)) (cs : List Nat) (i : Nat) : Prop where
  clo : CloB S (hist S noT (cs.take i)).1 []
  dom : ∀ x, (∃ v, (hist S noT (cs.take i)).1 x = some v) ↔ x ∈ (ps.take i).flatten
  seen : ∀ x ∈ (hist S noT (cs.take i)).2, x ∈ (ps.take i).flatten
  es_ : ∀ j D, j < i → ps[j]? = some D → cs[j]? = first D (hist S noT (cs.take i)).2
theorem ch_ok (ok : S.Ok) {ps : List (List Nat)} (p : Parts S ps) {cs : List Nat} (h : Chosen ps cs) : ∀ i, i ≤ ps.length → CHok S ps cs i := by
  intro i
  induction i with
  | zero =>
    intro _
    refine ⟨HistOk.no.clo, fun x => ?_, by simp [hist], fun j D hj => absurd hj (by omega)⟩
    simp [hist, noT]
  | succ i ih =>
    intro hi
    have ih := ih (by omega)
    obtain ⟨D, hD⟩ : ∃ D, ps[i]? = some D := ⟨ps[i], List.getElem?_eq_getElem (by omega)⟩
    obtain ⟨e, he⟩ : ∃ e, cs[i]? = some e := ⟨cs[i]'(by rw [h.len]; omega), List.getElem?_eq_getElem _⟩
    have heD := h.mem i D e hD he
    have C := p.comp i D hD
    have hen := C.lt e heD
    have etk : cs.take (i + 1) = cs.take i ++ [e] := by rw [List.take_add_one, he]; rfl
    have inD : ∀ {x}, x ∈ D → x ∈ (ps.take (i + 1)).flatten := fun hx => mem_take hD (by omega) hx
    have eh : hist S noT (cs.take (i + 1)) = ((ask S (hist S noT (cs.take i)).1 e).2.1, (hist S noT (cs.take i)).2 ++ calls (ask S (hist S noT (cs.take i)).1 e).2.2) := by
      rw [etk, hist_append]
      simp [hist]
    have R := ask_run ok (T := (hist S noT (cs.take i)).1) hen
    have hin : ∀ x ∈ calls (ask S (hist S noT (cs.take i)).1 e).2.2, x ∈ D := by
      intro x hx
      rcases run_in ok C.cr 25 _ [] e (fit25 ok) hen (.inr heD) x hx with z | z
      · obtain ⟨v, ev⟩ := (ih.dom x).mpr z
        have := (R.was x hx).1
        rw [ev] at this
        cases this
      · exact z
    have fr : (hist S noT (cs.take i)).1 e = none := by
      cases q : (hist S noT (cs.take i)).1 e with
      | none => rfl
      | some v => exact absurd ((ih.dom e).mp ⟨v, q⟩) (C.dj e heD)
    have k := ask_clo ok hen ih.clo
    rw [← show (hist S noT (cs.take (i + 1))).1 = _ from congrArg Prod.fst eh] at k
    refine ⟨k, fun x => ?_, fun x hx => ?_, fun j E hj hE => ?_⟩
    · rw [eh]
      constructor
      · rintro ⟨v, hv⟩
        by_cases q : (ask S (hist S noT (cs.take i)).1 e).2.1 x = (hist S noT (cs.take i)).1 x
        · rw [show (ask S (hist S noT (cs.take i)).1 e).2.1 x = some v from hv] at q
          exact mem_take_succ ((ih.dom x).mp ⟨v, q.symm⟩)
        · exact inD (hin x (R.new x q))
      · intro hx
        rw [take_flat hD, List.mem_append] at hx
        rcases hx with hx | hx
        · obtain ⟨v, hv⟩ := (ih.dom x).mpr hx
          exact ⟨v, R.sub x v hv⟩
        · have cP : Closed S (fun x => ∃ v, (ask S (hist S noT (cs.take i)).1 e).2.1 x = some v) := by
            rintro y hy ⟨v, hv⟩ o ho
            rcases ask_clo ok hen ih.clo y v hy hv o ho with z | z
            · simp at z
            · exact z
          exact C.conn e heD x hx _ cP ⟨_, ask_got ok hen⟩
    · rw [eh] at hx
      rcases List.mem_append.mp hx with hx | hx
      · exact mem_take_succ (ih.seen x hx)
      · exact inD (hin x hx)
    · rw [eh]
      show cs[j]? = first E ((hist S noT (cs.take i)).2 ++ _)
      rw [first_append]
      by_cases hji : j = i
      · subst hji
        rw [hD] at hE; cases hE
        obtain ⟨r, er⟩ := ask_free (S := S) fr
        rw [first_none fun x hx z => C.dj x z (ih.seen x hx), er, first_cons, if_pos heD, he]
        rfl
      · rw [← ih.es_ j E (by omega) hE]
        obtain ⟨c, hc⟩ : ∃ c, cs[j]? = some c := ⟨cs[j]'(by rw [h.len]; omega), List.getElem?_eq_getElem _⟩
        rw [hc]; rfl
theorem ch_play (ok : S.Ok) {ps : List (List Nat)} (p : Parts S ps) {cs : List Nat} (h : Chosen ps cs) : ents ps (hist S noT cs).2 = cs.map some := by
  have a := ch_ok ok p h ps.length (Nat.le_refl _)
  have et : cs.take ps.length = cs := by rw [← h.len, List.take_length]
  have a4 := a.es_
  rw [et] at a4
  refine List.ext_getElem? fun i => ?_
  by_cases hi : i < ps.length
  · have hD := List.getElem?_eq_getElem hi
    have e := a4 i _ hi hD
    obtain ⟨c, hc⟩ : ∃ c, cs[i]? = some c := ⟨cs[i]'(by rw [h.len]; omega), List.getElem?_eq_getElem _⟩
    rw [hc] at e
    simp [ents, hD, hc, ← e]
  · rw [List.getElem?_eq_none (by simp [ents]; omega), List.getElem?_eq_none (by simp [h.len]; omega)]


/-! ### the components as the program lists them -/
noncomputable def rch (S : Sys) (c o : Nat) : Bool := @decide (Reach S c o) (Classical.propDecidable _)
theorem rch_iff {c o : Nat} : rch S c o = true ↔ Reach S c o := by unfold rch; exact @decide_eq_true_iff _ (Classical.propDecidable _)
noncomputable def partOf (S : Sys) (c : Nat) : List Nat := (List.range S.n).filter fun o => rch S c o && rch S o c
noncomputable def whole (S : Sys) : List (List Nat) := ((List.range S.n).filter fun c => decide ((partOf S c).head? = some c)).map (partOf S)
def leads (S : Sys) (D W : List Nat) : Bool := D.any fun x => (S.ops x).any fun o => decide (o ∈ W) && !decide (o ∈ D)
def rdy (S : Sys) (W : List (List Nat)) : List (List Nat) := W.filter fun D => !leads S D W.flatten
def order (S : Sys) : Nat → List (List Nat) → List (List Nat)
  | 0, _ => []
  | f + 1, W => match rdy S W with
    | [] => []
    | D :: _ => D :: order S f (W.filter fun E => decide (E ≠ D))
noncomputable def comps (S : Sys) : List (List Nat) := order S (whole S).length (whole S)

theorem leads_false {D W : List Nat} : leads S D W = false ↔ ∀ x ∈ D, ∀ o ∈ S.ops x, o ∈ W → o ∈ D := by
  unfold leads
  rw [List.any_eq_false]
  constructor
  · intro h x hx o ho hW
    have := h x hx
    simp only [List.any_eq_true, Bool.and_eq_true, decide_eq_true_eq, Bool.not_eq_true', decide_eq_false_iff_not, not_exists, not_and] at this
    have := this o ho hW
    exact Classical.not_not.mp this
  · intro h x hx
    simp only [List.any_eq_true, Bool.and_eq_true, decide_eq_true_eq, Bool.not_eq_true', decide_eq_false_iff_not, not_exists, not_and]
    exact fun o ho hW z => z (h x hx o ho hW)
theorem mem_partOf {c o : Nat} : o ∈ partOf S c ↔ o < S.n ∧ Reach S c o ∧ Reach S o c := by
  unfold partOf
  rw [List.mem_filter, List.mem_range, Bool.and_eq_true, rch_iff, rch_iff]
theorem part_eq {a b : Nat} (h : Reach S a b) (k : Reach S b a) : partOf S a = partOf S b := by
  unfold partOf
  refine List.filter_congr fun o _ => ?_
  have e1 : rch S a o = rch S b o := Bool.eq_iff_iff.mpr (by rw [rch_iff, rch_iff]; exact ⟨fun z => k.trans z, fun z => h.trans z⟩)
  have e2 : rch S o a = rch S o b := Bool.eq_iff_iff.mpr (by rw [rch_iff, rch_iff]; exact ⟨fun z => z.trans h, fun z => z.trans k⟩)
  rw [e1, e2]
theorem part_self {c : Nat} (h : c < S.n) : c ∈ partOf S c := mem_partOf.mpr ⟨h, .refl c, .refl c⟩
theorem mem_whole {D : List Nat} : D ∈ whole S ↔ ∃ c, c < S.n ∧ (partOf S c).head? = some c ∧ D = partOf S c := by
  unfold whole
  rw [List.mem_map]
  constructor
  · rintro ⟨c, h, rfl⟩
    rw [List.mem_filter, List.mem_range, decide_eq_true_eq] at h
    exact ⟨c, h.1, h.2, rfl⟩
  · rintro ⟨c, h1, h2, rfl⟩
    exact ⟨c, List.mem_filter.mpr ⟨List.mem_range.mpr h1, decide_eq_true h2⟩, rfl⟩
theorem whole_eq {D : List Nat} (h : D ∈ whole S) {x : Nat} (hx : x ∈ D) : D = partOf S x := by
  obtain ⟨c, _, _, rfl⟩ := mem_whole.mp h
  obtain ⟨_, a, b⟩ := mem_partOf.mp hx
  exact part_eq a b
theorem whole_cover {c : Nat} (h : c < S.n) : c ∈ (whole S).flatten := by
  obtain ⟨m, r, hm⟩ : ∃ m r, partOf S c = m :: r := by
    cases e : partOf S c with
    | nil => have := part_self (S := S) h; rw [e] at this; simp at this
    | cons m r => exact ⟨m, r, rfl⟩
  have hmc : m ∈ partOf S c := by rw [hm]; simp
  obtain ⟨h1, h2, h3⟩ := mem_partOf.mp hmc
  have e := part_eq h2 h3
  refine List.mem_flatten.mpr ⟨partOf S m, mem_whole.mpr ⟨m, h1, ?_, rfl⟩, ?_⟩
  · rw [← e, hm]; rfl
  · rw [← e]; exact part_self h
theorem whole_lt {D : List Nat} (h : D ∈ whole S) {x : Nat} (hx : x ∈ D) : x < S.n := by
  obtain ⟨c, _, _, rfl⟩ := mem_whole.mp h
  exact (mem_partOf.mp hx).1
theorem whole_ne {D : List Nat} (h : D ∈ whole S) : D ≠ [] := by
  obtain ⟨c, h1, _, rfl⟩ := mem_whole.mp h
  intro e
  have := part_self (S := S) h1
  rw [e] at this
  simp at this
theorem whole_asc {D : List Nat} (h : D ∈ whole S) : D.Pairwise (· < ·) := by
  obtain ⟨c, _, _, rfl⟩ := mem_whole.mp h
  exact List.Pairwise.filter _ List.pairwise_lt_range
theorem whole_nodup : (whole S).Nodup := by
  unfold whole
  rw [List.Nodup, List.pairwise_map]
  refine List.Pairwise.imp_of_mem ?_ (List.Pairwise.filter _ (List.nodup_range (n := S.n)))
  intro a b ha hb hne e
  rw [List.mem_filter, decide_eq_true_eq] at ha hb
  have h1 := ha.2
  rw [e, hb.2] at h1
  exact hne (Option.some.inj h1).symm

theorem filter_lt {α : Type} {p q : α → Bool} : ∀ (l : List α), (∀ x ∈ l, p x = true → q x = true) → (∃ x ∈ l, q x = true ∧ p x = false) → (l.filter p).length < (l.filter q).length := by
  have le : ∀ (l : List α), (∀ x ∈ l, p x = true → q x = true) → (l.filter p).length ≤ (l.filter q).length := by
    intro l
    induction l with
    | nil => intro _; exact Nat.le_refl _
    | cons a l ih =>
      intro h
      have ih := ih fun x hx => h x (by simp [hx])
      rw [List.filter_cons, List.filter_cons]
      cases e : p a with
      | true => rw [h a (by simp) e]; simp only [if_true, List.length_cons]; omega
      | false =>
        cases q a <;> simp only [if_true, Bool.false_eq_true, if_false, List.length_cons] <;> omega
  intro l
  induction l with
  | nil => rintro _ ⟨x, hx, _⟩; simp at hx
  | cons a l ih =>
    rintro h ⟨x, hx, hq, hp⟩
    have h' : ∀ x ∈ l, p x = true → q x = true := fun x hx => h x (by simp [hx])
    rw [List.filter_cons, List.filter_cons]
    rcases List.mem_cons.mp hx with rfl | hx
    · have := le l h'
      rw [hp, hq]
      simp only [if_true, Bool.false_eq_true, if_false, List.length_cons]
      omega
    · have ih := ih h' ⟨x, hx, hq, hp⟩
      cases e : p a with
      | true => rw [h a (by simp) e]; simp only [if_true, List.length_cons]; omega
      | false =>
        cases q a <;> simp only [if_true, Bool.false_eq_true, if_false, List.length_cons] <;> omega

noncomputable def cnt (S : Sys) (c : Nat) : Nat := ((List.range S.n).filter (rch S c)).length
theorem rdy_some {W : List (List Nat)} (hW : ∀ D ∈ W, D ∈ whole S) (hne : W ≠ []) : ∃ D r, rdy S W = D :: r := by
  have key : ∀ k c, partOf S c ∈ W → c < S.n → cnt S c ≤ k → ∃ D ∈ W, leads S D W.flatten = false := by
    intro k
    induction k with
    | zero =>
      intro c _ hc h
      have : c ∈ (List.range S.n).filter (rch S c) := List.mem_filter.mpr ⟨List.mem_range.mpr hc, rch_iff.mpr (.refl c)⟩
      have := List.length_pos_of_mem this
      unfold cnt at h
      omega
    | succ k ih =>
      intro c hD hc h
      cases e : leads S (partOf S c) W.flatten with
      | false => exact ⟨_, hD, e⟩
      | true =>
        have : ¬ (leads S (partOf S c) W.flatten = false) := by rw [e]; exact fun z => nomatch z
        rw [leads_false] at this
        simp only [Classical.not_forall] at this
        obtain ⟨x, hx, o, ho, hoW, hoD⟩ := this
        obtain ⟨hxn, r1, r2⟩ := mem_partOf.mp hx
        obtain ⟨E, hE, hoE⟩ := List.mem_flatten.mp hoW
        have eE := whole_eq (hW E hE) hoE
        have hon := whole_lt (hW E hE) hoE
        have ro := r1.op hxn ho
        have nr : ¬ Reach S o c := fun z => hoD (mem_partOf.mpr ⟨hon, ro, z⟩)
        refine ih o (eE ▸ hE) hon ?_
        have : cnt S o < cnt S c := by
          refine filter_lt _ (fun y _ z => ?_) ⟨c, List.mem_range.mpr hc, rch_iff.mpr (.refl c), ?_⟩
          · rw [rch_iff] at z ⊢
            exact ro.trans z
          · cases q : rch S o c with
            | false => rfl
            | true => exact absurd (rch_iff.mp q) nr
        omega
  obtain ⟨D, hD⟩ := List.exists_mem_of_ne_nil _ hne
  obtain ⟨c, hc, _, rfl⟩ := mem_whole.mp (hW D hD)
  obtain ⟨E, hE, e⟩ := key _ c hD hc (Nat.le_refl _)
  have : E ∈ rdy S W := List.mem_filter.mpr ⟨hE, by rw [e]; rfl⟩
  cases q : rdy S W with
  | nil => rw [q] at this; simp at this
  | cons D r => exact ⟨D, r, rfl⟩
theorem rdy_cons {W : List (List Nat)} {D : List Nat} {r : List (List Nat)} (h : rdy S W = D :: r) : D ∈ W ∧ leads S D W.flatten = false := by
  have : D ∈ rdy S W := by rw [h]; simp
  obtain ⟨a, b⟩ := List.mem_filter.mp this
  exact ⟨a, by simpa using b⟩
theorem filter_ne_perm {α : Type} [DecidableEq α] : ∀ {W : List α} {D : α}, W.Nodup → D ∈ W → W.Perm (D :: W.filter fun E => decide (E ≠ D)) := by
  intro W
  induction W with
  | nil => intro D _ h; simp at h
  | cons a W ih =>
    intro D nd h
    rw [List.nodup_cons] at nd
    by_cases e : a = D
    · subst e
      have : W.filter (fun E => decide (E ≠ a)) = W := List.filter_eq_self.mpr fun x hx => decide_eq_true fun z => nd.1 (z ▸ hx)
      rw [List.filter_cons]
      simp only [ne_eq, not_true_eq_false, decide_false, Bool.false_eq_true, if_false]
      rw [show (fun E => decide ¬E = a) = (fun E => decide (E ≠ a)) from rfl, this]
    · have hD : D ∈ W := (List.mem_cons.mp h).resolve_left (fun z => e z.symm)
      rw [List.filter_cons]
      simp only [ne_eq, e, not_false_eq_true, decide_true, if_true]
      exact ((ih nd.2 hD).cons a).trans (List.Perm.swap _ _ _)

theorem order_ok : ∀ (f : Nat) (W : List (List Nat)), (∀ D ∈ W, D ∈ whole S) → W.Nodup → W.length ≤ f →
    (order S f W).Perm W ∧ ∀ i D, (order S f W)[i]? = some D → ∀ x ∈ D, ∀ o ∈ S.ops x, o ∈ W.flatten → o ∈ D ∨ o ∈ ((order S f W).take i).flatten := by
  intro f
  induction f with
  | zero =>
    intro W _ _ hl
    have : W = [] := List.length_eq_zero_iff.mp (by omega)
    subst this
    exact ⟨List.Perm.refl _, fun i D h => by simp [order] at h⟩
  | succ f ih =>
    intro W hW nd hl
    by_cases hne : W = []
    · subst hne
      have : rdy S [] = [] := rfl
      unfold order
      rw [this]
      exact ⟨List.Perm.refl _, fun i D h => by simp at h⟩
    · obtain ⟨D, r, hr⟩ := rdy_some hW hne
      obtain ⟨hD, hlead⟩ := rdy_cons hr
      have pm := filter_ne_perm nd hD
      have hW' : ∀ E ∈ W.filter (fun E => decide (E ≠ D)), E ∈ whole S := fun E hE => hW E (List.mem_filter.mp hE).1
      have nd' : (W.filter (fun E => decide (E ≠ D))).Nodup := nd.filter _
      have hl' : (W.filter (fun E => decide (E ≠ D))).length ≤ f := by
        have := pm.length_eq
        rw [List.length_cons] at this
        omega
      obtain ⟨i1, i2⟩ := ih _ hW' nd' hl'
      have eo : order S (f + 1) W = D :: order S f (W.filter fun E => decide (E ≠ D)) := by
        rw [order, hr]
      rw [eo]
      refine ⟨(i1.cons D).trans pm.symm, fun i E hE x hx o ho hoW => ?_⟩
      cases i with
      | zero =>
        rw [List.getElem?_cons_zero] at hE
        cases hE
        exact .inl (leads_false.mp hlead x hx o ho hoW)
      | succ i =>
        rw [List.getElem?_cons_succ] at hE
        rw [List.take_succ_cons, List.flatten_cons, List.mem_append]
        by_cases hoD : o ∈ D
        · exact .inr (.inl hoD)
        · have : o ∈ (W.filter fun E => decide (E ≠ D)).flatten := by
            obtain ⟨G, hG, hoG⟩ := List.mem_flatten.mp hoW
            refine List.mem_flatten.mpr ⟨G, List.mem_filter.mpr ⟨hG, decide_eq_true fun z => hoD (z ▸ hoG)⟩, hoG⟩
          rcases i2 i E hE x hx o ho this with z | z
          · exact .inl z
          · exact .inr (.inr z)

theorem comps_parts (ok : S.Ok) : Parts S (comps S) := by
  obtain ⟨pm, topo⟩ := order_ok (S := S) (whole S).length (whole S) (fun _ h => h) whole_nodup (Nat.le_refl _)
  have mw : ∀ D ∈ comps S, D ∈ whole S := fun D h => pm.mem_iff.mp h
  have ndp : (comps S).Nodup := pm.symm.nodup whole_nodup
  have cov : ∀ c, c < S.n → c ∈ (whole S).flatten := fun c h => whole_cover h
  have tp : ∀ i D, (comps S)[i]? = some D → ∀ x ∈ D, ∀ o ∈ S.ops x, o ∈ D ∨ o ∈ ((comps S).take i).flatten := fun i D hD x hx o ho =>
    topo i D hD x hx o ho (cov o (ok.ops x (whole_lt (mw D (List.mem_of_getElem? hD)) hx) o ho))
  refine ⟨fun c => ⟨fun h => ?_, fun h => ?_⟩, fun i D hD => ?_, fun D hD => whole_asc (mw D hD), fun D hD => whole_ne (mw D hD)⟩
  · obtain ⟨D, hD, hx⟩ := List.mem_flatten.mp (cov c h)
    exact List.mem_flatten.mpr ⟨D, pm.mem_iff.mpr hD, hx⟩
  · obtain ⟨D, hD, hx⟩ := List.mem_flatten.mp h
    exact whole_lt (mw D hD) hx
  · have hDw := mw D (List.mem_of_getElem? hD)
    have cl : Closed S (fun x => x ∈ ((comps S).take i).flatten) := by
      intro x _ hx o ho
      obtain ⟨j, E, hj, hE, hxE⟩ := of_mem_take hx
      rcases tp j E hE x hxE o ho with z | z
      · exact mem_take hE hj z
      · obtain ⟨k, G, hk, hG, z⟩ := of_mem_take z
        exact mem_take hG (by omega) z
    refine ⟨cl, ?_, fun x hx hl => ?_, fun x hx => whole_lt hDw hx, fun e he d hd => ?_⟩
    · intro x hx h o ho
      rcases h with h | h
      · exact .inl (cl x hx h o ho)
      · exact (tp i D hD x h o ho).symm
    · obtain ⟨j, E, hj, hE, hxE⟩ := of_mem_take hl
      have e1 := whole_eq hDw hx
      have e2 := whole_eq (mw E (List.mem_of_getElem? hE)) hxE
      have e3 : D = E := e1.trans e2.symm
      subst e3
      have := (List.getElem?_inj (List.getElem?_eq_some_iff.mp hE).1 ndp).mp (hE.trans hD.symm)
      omega
    · rw [whole_eq hDw he] at hd
      exact (mem_partOf.mp hd).2.1

end Bg
set_option Elab.async false
set_option linter.all false
set_option maxRecDepth 100000
set_option maxHeartbeats 0
namespace BgT
open PySem PySem.Spec PyProof.Rows L2
/-! ### the text by places -/
def top (i : Nat) : Stmt := PySem.Challenge.pw_busyguess_k24_whole_what_was_called_firs.main.body.getD i (.Pass ⟨0, 0, 0, 0⟩)
abbrev s_is_integer : Stmt := top 19
abbrev s_is_level : Stmt := top 20
abbrev s_is_function : Stmt := top 21
abbrev s_capped_sum : Stmt := top 22
abbrev s_turned : Stmt := top 23
abbrev s_value_of : Stmt := top 24
abbrev s_reach_among : Stmt := top 26
abbrev s_all_cells : Stmt := top 27
abbrev s_unordered_components : Stmt := top 28
abbrev s_leads_outside : Stmt := top 29
abbrev s_components_among : Stmt := top 30
abbrev s_components : Stmt := top 31
abbrev s_need_policy : Stmt := top 38
abbrev s_need_fitting : Stmt := top 41
abbrev s_is_kept : Stmt := top 42
abbrev s_joined_taint : Stmt := top 44
abbrev s_called : Stmt := top 46
abbrev s_free_cells : Stmt := top 49
abbrev s_is_entry : Stmt := top 50
abbrev s_table_by_entries : Stmt := top 51
abbrev s_choices : Stmt := top 52
abbrev s_all_entries : Stmt := top 53
abbrev s_cleared : Stmt := top 54
abbrev s_entry_for : Stmt := top 55
abbrev s_entries_of : Stmt := top 56
abbrev s_are_operands : Stmt := top 81
abbrev s_is_cell : Stmt := top 82
abbrev s_law_pen : Stmt := top 85
abbrev s_law_pick : Stmt := top 86
abbrev s_law_shuffled : Stmt := top 87
abbrev s_law_rule : Stmt := top 88
abbrev s_law_inner : Stmt := top 89
abbrev s_law_rows : Stmt := top 90
abbrev s_law_web : Stmt := top 91
abbrev s_law_reached : Stmt := top 92
abbrev s_law_leads : Stmt := top 93
abbrev s_law_parts : Stmt := top 94
abbrev s_law_first : Stmt := top 95
abbrev s_law_played : Stmt := top 96
abbrev s_law_orders : Stmt := top 97
abbrev s_law_small_right : Stmt := top 98
abbrev s_law_again : Stmt := top 99
abbrev s_law_large_right : Stmt := top 100
abbrev s_law : Stmt := top 101
abbrev s_Run_init : Stmt := inClass (top 45) 0
abbrev s_Run_call : Stmt := inClass (top 45) 1
abbrev s_Run_evaluate : Stmt := inClass (top 45) 2
abbrev s_KeepAll_init : Stmt := inClass (top 58) 1
abbrev s_KeepAll_run : Stmt := inClass (top 58) 8
abbrev s_KeepAll_ask : Stmt := inClass (top 58) 10
abbrev s_KeepAll_events : Stmt := inClass (top 58) 15
abbrev s_System_init : Stmt := inClass (top 83) 2
abbrev s_System_triple : Stmt := inClass (top 83) 6
abbrev s_System_operands : Stmt := inClass (top 83) 7
abbrev s_System_function : Stmt := inClass (top 83) 8
abbrev s_System_guess : Stmt := inClass (top 83) 9
abbrev s_System_len : Stmt := inClass (top 83) 12
abbrev s_KeepAll_table : Stmt := inClass (top 58) 4
abbrev s_System_of : Stmt := inClass (top 83) 3
/-! ### addresses -/
/-- a keyword default that is an object -/
def kwAt (f : Str × Option Str) (x : Str) (K : PySem.W.Frag) : Addr := match K.lookup (He.fAd K f) with
  | some ⟨_, _, .func fd, _⟩ => (match fd.kwdefaults with
    | .ref D => (match PySem.W.nsIn K D x with
      | some (some (.ref a)) => a
      | _ => 0)
    | _ => 0)
  | _ => 0
/-- the first of a record's parts, an object -/
def recAt (T : String) (C m : Str) (K : PySem.W.Frag) : Addr := match PySem.W.recIn K (He.ma K (He.ga K C) m) T with
  | some (.ref g :: _) => g
  | _ => 0
def gTable (K : PySem.W.Frag) : Addr := recAt "property" "KeepAll" "table" K
def gOf (K : PySem.W.Frag) : Addr := recAt "classmethod" "System" "of" K
/-- the function's datum at an address -/
def fdOf (K : PySem.W.Frag) (a : Addr) : FuncData := match K.lookup a with
  | some ⟨_, _, .func fd, _⟩ => fd
  | _ => default
abbrev FnP (K : PySem.W.Frag) (x qual : Str) (st : Stmt) (dvs : List V) (kws : List (Str × V)) (f : Addr) : Prop := FunD K x qual (defArgs st) (defBody st) (defScope st) dvs kws f (fdOf K f)
theorem fnP_of {K : PySem.W.Frag} {x qual : Str} {st : Stmt} {dvs : List V} {kws : List (Str × V)} {f : Addr} (h : ∃ fd, FunD K x qual (defArgs st) (defBody st) (defScope st) dvs kws f fd) : FnP K x qual st dvs kws f := by
  obtain ⟨fd, F⟩ := h
  obtain ⟨oc, od, dV, kV, doc, pm, an, cdv, ct, osl, e, lk, c, d, k⟩ := F.ex
  have q : fdOf K f = fd := by unfold fdOf; rw [lk]
  show FunD K x qual (defArgs st) (defBody st) (defScope st) dvs kws f (fdOf K f)
  rw [q]
  exact F
/-! ### two defs that stand in records -/
abbrev FnX : Type := Option (Str × Str × Arguments × FuncBody × Scope × Addr × List (Str × Addr) × Addr)
def fnX (K : PySem.W.Frag) (a : Addr) : FnX := match K.lookup a with
  | some ⟨_, _, .func fd, _⟩ => some (fd.name, fd.qualname, fd.params, fd.body, fd.scope, fd.globals, fd.closure, fd.builtins)
  | _ => none
def okX (K : PySem.W.Frag) (a : Addr) (q : Str) : Bool := PySem.W.keepIn K (.ref a) && (match K.lookup a with
  | some ⟨_, _, .func fd, _⟩ => PySem.W.codeIn K fd.code q && (He.dflB K fd.defaults [] && He.kwdB K fd.kwdefaults [])
  | _ => false)
theorem funX {K : PySem.W.Frag} {a : Addr} {x q : Str} {st : Stmt} (e : fnX K a = some (x, q, defArgs st, .stmts (defBody st), defScope st, mainGlobals, [], builtinsNs)) (c : okX K a q = true) : ∃ fd, FunD K x q (defArgs st) (defBody st) (defScope st) [] [] a fd := by
  obtain ⟨kp, c2⟩ := He.ba c
  unfold fnX at e
  cases z : K.lookup a with
  | none => rw [z] at c2; cases c2
  | some o =>
    obtain ⟨oc, od, dt, osl⟩ := o
    rw [z] at c2 e
    cases dt with
    | func fd =>
      obtain ⟨n1, n2, n3, n4, n5, n6, n7, n8, n9, n10, n11, n12, n13, n14, n15⟩ := fd
      simp only [Option.some.injEq, Prod.mk.injEq] at e
      obtain ⟨h1, h2, h3, h4, h5, h6, h7, h8⟩ := e
      subst h1 h2 h3 h4 h5 h6 h7 h8
      obtain ⟨k1, k2⟩ := He.ba c2
      obtain ⟨k3, k4⟩ := He.ba k2
      exact ⟨_, ⟨oc, od, n8, n9, n10, n11, n12, n13, n14, osl, rfl, z, k1, He.dflB_ok k3, He.kwdB_ok k4⟩, kp⟩
    | _ => cases c2

def d_is_integer : He.DefD := ⟨("is_integer", none), "is_integer", "is_integer", defArgs s_is_integer, defBody s_is_integer, defScope s_is_integer, [], []⟩
def d_is_level : He.DefD := ⟨("is_level", none), "is_level", "is_level", defArgs s_is_level, defBody s_is_level, defScope s_is_level, [], []⟩
def d_is_function : He.DefD := ⟨("is_function", none), "is_function", "is_function", defArgs s_is_function, defBody s_is_function, defScope s_is_function, [], []⟩
def d_capped_sum : He.DefD := ⟨("capped_sum", none), "capped_sum", "capped_sum", defArgs s_capped_sum, defBody s_capped_sum, defScope s_capped_sum, [], []⟩
def d_turned : He.DefD := ⟨("turned", none), "turned", "turned", defArgs s_turned, defBody s_turned, defScope s_turned, [], []⟩
def d_value_of : He.DefD := ⟨("value_of", none), "value_of", "value_of", defArgs s_value_of, defBody s_value_of, defScope s_value_of, [], []⟩
def d_reach_among : He.DefD := ⟨("reach_among", none), "reach_among", "reach_among", defArgs s_reach_among, defBody s_reach_among, defScope s_reach_among, [], []⟩
def d_all_cells : He.DefD := ⟨("all_cells", none), "all_cells", "all_cells", defArgs s_all_cells, defBody s_all_cells, defScope s_all_cells, [], []⟩
def d_unordered_components : He.DefD := ⟨("unordered_components", none), "unordered_components", "unordered_components", defArgs s_unordered_components, defBody s_unordered_components, defScope s_unordered_components, [], []⟩
def d_leads_outside : He.DefD := ⟨("leads_outside", none), "leads_outside", "leads_outside", defArgs s_leads_outside, defBody s_leads_outside, defScope s_leads_outside, [], []⟩
def d_components_among : He.DefD := ⟨("components_among", none), "components_among", "components_among", defArgs s_components_among, defBody s_components_among, defScope s_components_among, [], []⟩
def d_components : He.DefD := ⟨("components", none), "components", "components", defArgs s_components, defBody s_components, defScope s_components, [], []⟩
def d_need_policy : He.DefD := ⟨("need_policy", none), "need_policy", "need_policy", defArgs s_need_policy, defBody s_need_policy, defScope s_need_policy, [], []⟩
def d_need_fitting : He.DefD := ⟨("need_fitting", none), "need_fitting", "need_fitting", defArgs s_need_fitting, defBody s_need_fitting, defScope s_need_fitting, [], []⟩
def d_is_kept : He.DefD := ⟨("is_kept", none), "is_kept", "is_kept", defArgs s_is_kept, defBody s_is_kept, defScope s_is_kept, [], []⟩
def d_joined_taint : He.DefD := ⟨("joined_taint", none), "joined_taint", "joined_taint", defArgs s_joined_taint, defBody s_joined_taint, defScope s_joined_taint, [], []⟩
def d_called : He.DefD := ⟨("called", none), "called", "called", defArgs s_called, defBody s_called, defScope s_called, [], [("busy", .adr (kwAt ("called", none) "busy")), ("policy", .str "clean")]⟩
def d_free_cells : He.DefD := ⟨("free_cells", none), "free_cells", "free_cells", defArgs s_free_cells, defBody s_free_cells, defScope s_free_cells, [], []⟩
def d_is_entry : He.DefD := ⟨("is_entry", none), "is_entry", "is_entry", defArgs s_is_entry, defBody s_is_entry, defScope s_is_entry, [], []⟩
def d_table_by_entries : He.DefD := ⟨("table_by_entries", none), "table_by_entries", "table_by_entries", defArgs s_table_by_entries, defBody s_table_by_entries, defScope s_table_by_entries, [], []⟩
def d_choices : He.DefD := ⟨("choices", none), "choices", "choices", defArgs s_choices, defBody s_choices, defScope s_choices, [], []⟩
def d_all_entries : He.DefD := ⟨("all_entries", none), "all_entries", "all_entries", defArgs s_all_entries, defBody s_all_entries, defScope s_all_entries, [], [("limit", .int 1000)]⟩
def d_cleared : He.DefD := ⟨("cleared", none), "cleared", "cleared", defArgs s_cleared, defBody s_cleared, defScope s_cleared, [], []⟩
def d_entry_for : He.DefD := ⟨("entry_for", none), "entry_for", "entry_for", defArgs s_entry_for, defBody s_entry_for, defScope s_entry_for, [], []⟩
def d_entries_of : He.DefD := ⟨("entries_of", none), "entries_of", "entries_of", defArgs s_entries_of, defBody s_entries_of, defScope s_entries_of, [], []⟩
def d_are_operands : He.DefD := ⟨("are_operands", none), "are_operands", "are_operands", defArgs s_are_operands, defBody s_are_operands, defScope s_are_operands, [], []⟩
def d_is_cell : He.DefD := ⟨("is_cell", none), "is_cell", "is_cell", defArgs s_is_cell, defBody s_is_cell, defScope s_is_cell, [], []⟩
def d_law_pen : He.DefD := ⟨("_law_pen", none), "_law_pen", "_law_pen", defArgs s_law_pen, defBody s_law_pen, defScope s_law_pen, [], []⟩
def d_law_pick : He.DefD := ⟨("_law_pick", none), "_law_pick", "_law_pick", defArgs s_law_pick, defBody s_law_pick, defScope s_law_pick, [], []⟩
def d_law_shuffled : He.DefD := ⟨("_law_shuffled", none), "_law_shuffled", "_law_shuffled", defArgs s_law_shuffled, defBody s_law_shuffled, defScope s_law_shuffled, [], []⟩
def d_law_rule : He.DefD := ⟨("_law_rule", none), "_law_rule", "_law_rule", defArgs s_law_rule, defBody s_law_rule, defScope s_law_rule, [], []⟩
def d_law_inner : He.DefD := ⟨("_law_inner", none), "_law_inner", "_law_inner", defArgs s_law_inner, defBody s_law_inner, defScope s_law_inner, [], []⟩
def d_law_rows : He.DefD := ⟨("_law_rows", none), "_law_rows", "_law_rows", defArgs s_law_rows, defBody s_law_rows, defScope s_law_rows, [], []⟩
def d_law_web : He.DefD := ⟨("_law_web", none), "_law_web", "_law_web", defArgs s_law_web, defBody s_law_web, defScope s_law_web, [], []⟩
def d_law_reached : He.DefD := ⟨("_law_reached", none), "_law_reached", "_law_reached", defArgs s_law_reached, defBody s_law_reached, defScope s_law_reached, [], []⟩
def d_law_leads : He.DefD := ⟨("_law_leads", none), "_law_leads", "_law_leads", defArgs s_law_leads, defBody s_law_leads, defScope s_law_leads, [], []⟩
def d_law_parts : He.DefD := ⟨("_law_parts", none), "_law_parts", "_law_parts", defArgs s_law_parts, defBody s_law_parts, defScope s_law_parts, [], []⟩
def d_law_first : He.DefD := ⟨("_law_first", none), "_law_first", "_law_first", defArgs s_law_first, defBody s_law_first, defScope s_law_first, [], []⟩
def d_law_played : He.DefD := ⟨("_law_played", none), "_law_played", "_law_played", defArgs s_law_played, defBody s_law_played, defScope s_law_played, [], []⟩
def d_law_orders : He.DefD := ⟨("_law_orders", none), "_law_orders", "_law_orders", defArgs s_law_orders, defBody s_law_orders, defScope s_law_orders, [], []⟩
def d_law_small_right : He.DefD := ⟨("_law_small_right", none), "_law_small_right", "_law_small_right", defArgs s_law_small_right, defBody s_law_small_right, defScope s_law_small_right, [], []⟩
def d_law_again : He.DefD := ⟨("_law_again", none), "_law_again", "_law_again", defArgs s_law_again, defBody s_law_again, defScope s_law_again, [], []⟩
def d_law_large_right : He.DefD := ⟨("_law_large_right", none), "_law_large_right", "_law_large_right", defArgs s_law_large_right, defBody s_law_large_right, defScope s_law_large_right, [], []⟩
def d_law : He.DefD := ⟨("law", none), "law", "law", defArgs s_law, defBody s_law, defScope s_law, [], []⟩
def d_Run_init : He.DefD := ⟨("Run", some "__init__"), "__init__", "Run.__init__", defArgs s_Run_init, defBody s_Run_init, defScope s_Run_init, [], [("busy", .adr (kwAt ("Run", some "__init__") "busy")), ("most", .non)]⟩
def d_Run_call : He.DefD := ⟨("Run", some "call"), "call", "Run.call", defArgs s_Run_call, defBody s_Run_call, defScope s_Run_call, [], []⟩
def d_Run_evaluate : He.DefD := ⟨("Run", some "evaluate"), "evaluate", "Run.evaluate", defArgs s_Run_evaluate, defBody s_Run_evaluate, defScope s_Run_evaluate, [], []⟩
def d_KeepAll_init : He.DefD := ⟨("KeepAll", some "__init__"), "__init__", "Memo.__init__", defArgs s_KeepAll_init, defBody s_KeepAll_init, defScope s_KeepAll_init, [], []⟩
def d_KeepAll_run : He.DefD := ⟨("KeepAll", some "run"), "run", "Memo.run", defArgs s_KeepAll_run, defBody s_KeepAll_run, defScope s_KeepAll_run, [], []⟩
def d_KeepAll_ask : He.DefD := ⟨("KeepAll", some "ask"), "ask", "Memo.ask", defArgs s_KeepAll_ask, defBody s_KeepAll_ask, defScope s_KeepAll_ask, [], []⟩
def d_KeepAll_events : He.DefD := ⟨("KeepAll", some "events"), "events", "Memo.events", defArgs s_KeepAll_events, defBody s_KeepAll_events, defScope s_KeepAll_events, [], []⟩
def d_System_init : He.DefD := ⟨("System", some "__init__"), "__init__", "System.__init__", defArgs s_System_init, defBody s_System_init, defScope s_System_init, [], []⟩
def d_System_triple : He.DefD := ⟨("System", some "triple"), "triple", "System.triple", defArgs s_System_triple, defBody s_System_triple, defScope s_System_triple, [], []⟩
def d_System_operands : He.DefD := ⟨("System", some "operands"), "operands", "System.operands", defArgs s_System_operands, defBody s_System_operands, defScope s_System_operands, [], []⟩
def d_System_function : He.DefD := ⟨("System", some "function"), "function", "System.function", defArgs s_System_function, defBody s_System_function, defScope s_System_function, [], []⟩
def d_System_guess : He.DefD := ⟨("System", some "guess"), "guess", "System.guess", defArgs s_System_guess, defBody s_System_guess, defScope s_System_guess, [], []⟩
def d_System_len : He.DefD := ⟨("System", some "__len__"), "__len__", "System.__len__", defArgs s_System_len, defBody s_System_len, defScope s_System_len, [], []⟩
def fn0 : List He.DefD := [d_is_integer, d_is_level, d_is_function, d_capped_sum, d_turned, d_value_of, d_reach_among, d_all_cells, d_unordered_components, d_leads_outside, d_components_among, d_components, d_need_policy, d_need_fitting, d_is_kept, d_joined_taint, d_called, d_free_cells, d_is_entry, d_table_by_entries]
def fn1 : List He.DefD := [d_choices, d_all_entries, d_cleared, d_entry_for, d_entries_of, d_are_operands, d_is_cell, d_law_pen, d_law_pick, d_law_shuffled, d_law_rule, d_law_inner, d_law_rows, d_law_web, d_law_reached, d_law_leads, d_law_parts, d_law_first, d_law_played, d_law_orders]
def fn2 : List He.DefD := [d_law_small_right, d_law_again, d_law_large_right, d_law, d_Run_init, d_Run_call, d_Run_evaluate, d_KeepAll_init, d_KeepAll_run, d_KeepAll_ask, d_KeepAll_events, d_System_init, d_System_triple, d_System_operands, d_System_function, d_System_guess, d_System_len]
def fn : List He.DefD := fn0 ++ fn1 ++ fn2
def fa0 : List He.Fa := [.glo "is_integer", .glo "is_level", .glo "is_function", .glo "capped_sum", .glo "turned", .glo "value_of", .glo "reach_among", .glo "all_cells", .glo "unordered_components", .glo "leads_outside", .glo "components_among", .glo "components", .glo "need_policy", .glo "need_fitting", .glo "is_kept", .glo "joined_taint", .glo "called", .glo "free_cells", .glo "is_entry", .glo "table_by_entries"]
def fa1 : List He.Fa := [.glo "choices", .glo "all_entries", .glo "cleared", .glo "entry_for", .glo "entries_of", .glo "are_operands", .glo "is_cell", .glo "_law_pen", .glo "_law_pick", .glo "_law_shuffled", .glo "_law_rule", .glo "_law_inner", .glo "_law_rows", .glo "_law_web", .glo "_law_reached", .glo "_law_leads", .glo "_law_parts", .glo "_law_first", .glo "_law_played", .glo "_law_orders"]
def fa2 : List He.Fa := [.glo "_law_small_right", .glo "_law_again", .glo "_law_large_right", .glo "law", .glo "Run", .glo "KeepAll", .glo "System", .free "isinstance", .free "len", .free "int", .free "bool", .free "tuple", .free "str", .free "all", .free "min", .free "max", .free "sum", .free "enumerate", .free "sorted", .free "range"]
def fa3 : List He.Fa := [.free "list", .free "zip", .free "dict", .free "set", .free "abs", .int "MOST_LEVEL" 7, .int "LEVELS" 8, .int "MOST_VALUES" 8, .int "MOST_IN_SYSTEM" 24, .int "MOST_LISTED" 1000, .str "ALL" "all", .str "CLEAN" "clean", .str "NOTHING" "nothing", .cls "System", .mkr "System", .noat "System" "triples", .cls "Run", .mkr "Run", .noat "Run" "net", .noat "Run" "board"]
def fa4 : List He.Fa := [.noat "Run" "rule", .noat "Run" "busy", .noat "Run" "allowed", .noat "Run" "begun", .noat "Run" "happened", .cls "KeepAll", .mkr "KeepAll", .noat "KeepAll" "present", .noat "KeepAll" "stored", .noat "KeepAll" "counted", .noat "KeepAll" "latest", .noat "KeepAll" "most", .meth "Run" "__init__", .meth "Run" "call", .meth "Run" "evaluate", .meth "KeepAll" "__init__", .meth "KeepAll" "run", .meth "KeepAll" "ask", .meth "KeepAll" "events", .meth "System" "__init__"]
def fa5 : List He.Fa := [.meth "System" "triple", .meth "System" "operands", .meth "System" "function", .meth "System" "guess", .meth "System" "__len__"]
def fa : List He.Fa := fa0 ++ fa1 ++ fa2 ++ fa3 ++ fa4 ++ fa5
def dKinds : List He.Dv := [.str "always", .str "max", .str "min", .str "sum", .str "turn", .str "choose"]
def dPol : List He.Dv := [.str "all", .str "clean", .str "nothing"]
/-- a tuple without items -/
def nilB (K : PySem.W.Frag) (a : Addr) : Bool := match K.lookup a with
  | some ⟨.type c, _, .seq its _, _⟩ => decide (c = "tuple") && its.isEmpty
  | _ => false
theorem nilB_ok {K : PySem.W.Frag} {a : Addr} (h : nilB K a = true) (H : Hp) : SqT K H a [] := by
  unfold nilB at h
  cases q : K.lookup a with
  | none => rw [q] at h; cases h
  | some o =>
    obtain ⟨oc, od, dt, osl⟩ := o
    rw [q] at h
    cases oc with
    | type c =>
      cases dt with
      | seq its n =>
        obtain ⟨h1, h2⟩ := He.ba (show (decide (c = "tuple") && its.isEmpty) = true from h)
        have e : its = #[] := Array.isEmpty_iff.mp h2
        subst e
        exact .inr ⟨_, #[], n, q, congrArg Value.type (of_decide_eq_true h1), rfl, by simp, .nil⟩
      | _ => cases h
    | _ => cases dt <;> cases h
def bKwC (K : PySem.W.Frag) : Addr := kwAt ("called", none) "busy" K
def bKwR (K : PySem.W.Frag) : Addr := kwAt ("Run", some "__init__") "busy" K
def pTable (K : PySem.W.Frag) : Addr := He.ma K (He.ga K "KeepAll") "table"
def pOf (K : PySem.W.Frag) : Addr := He.ma K (He.ga K "System") "of"
def cSys (K : PySem.W.Frag) : Addr := He.ga K "System"
def cAll (K : PySem.W.Frag) : Addr := He.ga K "KeepAll"
def cRun (K : PySem.W.Frag) : Addr := He.ga K "Run"
def recB (K : PySem.W.Frag) (p : Addr) (T : String) (g : Addr) : Bool := match PySem.W.recIn K p T with
  | some (.ref a :: _) => decide (a = g)
  | _ => false
theorem recB_ok {K : PySem.W.Frag} {p g : Addr} {T : String} (h : recB K p T g = true) : ∃ rest, PySem.W.recIn K p T = some (.ref g :: rest) := by
  unfold recB at h
  split at h
  · rename_i a r e
    have := of_decide_eq_true h
    subst this
    exact ⟨r, e⟩
  · cases h
def exB : List (PySem.W.Frag → Bool) := [
  fun K => He.tupB K "KINDS" dKinds && He.eqO (PySem.W.nsIn K mainGlobals "KINDS") (some (some (.ref (He.ga K "KINDS")))),
  fun K => He.tupB K "POLICIES" dPol && He.eqO (PySem.W.nsIn K mainGlobals "POLICIES") (some (some (.ref (He.ga K "POLICIES")))),
  fun K => He.conB K "KeepAll" "POLICY" (.str "all"),
  fun K => nilB K (bKwC K),
  fun K => nilB K (bKwR K),
  fun K => He.eqO (PySem.W.findIn K (.ref (cAll K)) "table") (some (some (.ref (pTable K)))),
  fun K => He.eqO (PySem.W.specialIn K (.ref (pTable K)) "__get__") (some (some (.builtin "property.__get__"))),
  fun K => decide (PySem.W.takesIn K (.ref (pTable K)) = some true),
  fun K => recB K (pTable K) "property" (gTable K),
  fun K => okX K (gTable K) "Memo.table",
  fun K => PySem.W.readsIn K (cSys K) (.type "type"),
  fun K => He.eqO (PySem.W.specialIn K (.ref (cSys K)) "__getattribute__") (some (some (.builtin "type.__getattribute__"))),
  fun K => (match PySem.W.findCls K (.ref (cSys K)) (.type "type") "of" with
    | some (.get (.builtin b) (.ref p) .none (.ref C)) => decide (b = "classmethod.__get__") && (decide (p = pOf K) && decide (C = cSys K))
    | _ => false),
  fun K => recB K (pOf K) "classmethod" (gOf K),
  fun K => PySem.W.fnIn K (gOf K),
  fun K => okX K (gOf K) "System.of",
  fun K => PySem.W.keepIn K (.ref (cSys K)),
  fun K => PySem.W.isFn K (.ref (He.ma K (cSys K) "__len__"))]
def vX : List FnX := [
  some ("table", "Memo.table", defArgs s_KeepAll_table, .stmts (defBody s_KeepAll_table), defScope s_KeepAll_table, mainGlobals, [], builtinsNs),
  some ("of", "System.of", defArgs s_System_of, .stmts (defBody s_System_of), defScope s_System_of, mainGlobals, [], builtinsNs)]
/-! ### the hook -/
/-- the objects that are looked at, by their places -/
def adr0 : List Addr := [3, 2, 232, 238, 239, 245, 246, 250, 251, 257, 258, 262, 263, 267, 268, 272, 273, 279, 280, 284, 285, 291, 292, 296, 297, 303, 304, 305, 311, 312]
def adr1 : List Addr := [332, 333, 339, 340, 344, 345, 353, 354, 360, 361, 367, 368, 372, 373, 374, 375, 376, 377, 378, 381, 382, 388, 389, 393, 394, 400, 401, 407, 408, 414]
def adr2 : List Addr := [415, 416, 422, 423, 427, 428, 432, 433, 437, 438, 451, 452, 453, 459, 460, 462, 469, 470, 471, 477, 478, 479, 485, 486, 487, 493, 494, 495, 501, 502]
def adr3 : List Addr := [508, 509, 515, 516, 522, 523, 529, 530, 536, 537, 543, 544, 550, 551, 557, 558, 559, 565, 566, 572, 573, 577, 578, 579, 580, 581, 582, 583, 598, 599]
def adr4 : List Addr := [600, 601, 602, 714, 715, 721, 722, 735, 736, 742, 743, 745, 752, 753, 755, 762, 763, 764, 770, 771, 777, 778, 784, 785, 791, 792, 793, 799, 800, 806]
def adr5 : List Addr := [807, 813, 814, 820, 821, 825, 826, 827, 828, 829, 830, 831, 839, 840, 846, 847, 853, 854, 858, 859, 863, 864, 868, 869, 875, 876, 880, 881, 885, 886]
def adr6 : List Addr := [890, 891, 895, 896, 900, 901, 905, 906, 910, 911, 915, 916, 920, 921, 927, 928]
def adrs : List Addr := adr0 ++ adr1 ++ adr2 ++ adr3 ++ adr4 ++ adr5 ++ adr6
abbrev AlB : Type := He.AlD × (Bool × List FnX)
def obsB (K : PySem.W.Frag) : AlB := (He.obsD fa fn K, (exB.all fun f => f K, [fnX K (gTable K), fnX K (gOf K)]))
def valB : AlB := (He.valD fn, (true, vX))
def obsBG (g : Addr → Option Obj) : AlB := obsB (He.frG g adrs)
def hk : PySem.W.Hook where
  α := AlB
  obs := fun s => obsBG s.heap.get?
  val := fun _ => valB
  says := fun _ h => ∃ K : PySem.W.Frag, K.In h ∧ obsB K = valB
  of := fun _ _ e => ⟨_, He.frG_in, e⟩
  keeps := fun _ _ _ ⟨K, hK, c⟩ k => ⟨K, PySem.W.Frag.In.keeps hK k, c⟩
def ob (s : PySem.W.SharedT) : AlB := obsBG (HandSHeadRun.getT s)
theorem ob_eq (s : PySem.W.SharedT) : ob s = hk.obs s.abs := by
  have e : HandSHeadRun.getT s = s.abs.heap.get? := funext (HandSHeadRun.getT_eq s)
  show obsBG (HandSHeadRun.getT s) = obsBG s.abs.heap.get?
  rw [e]
def nm0 : List PySem.Str := ["_wall", "MemoError", "InvalidCell", "InvalidPolicy", "InvalidEntries", "InvalidText", "MissingError", "NoCell", "SizeError", "TooManyCells", "LargeComponent", "TooMany", "TooManyCalls", "MOST_LEVEL", "LEVELS", "MOST_VALUES", "KINDS", "is_integer", "is_level", "is_function", "capped_sum", "turned", "value_of", "reach_among", "all_cells", "unordered_components", "leads_outside", "components_among", "components", "ALL"]
def nm1 : List PySem.Str := ["CLEAN", "NOTHING", "POLICIES", "MOST_IN_COMPONENT", "need_policy", "need_small_components", "need_few_cells", "need_fitting", "is_kept", "joined_taint", "Run", "called", "MOST_LISTED", "free_cells", "is_entry", "table_by_entries", "choices", "all_entries", "cleared", "entry_for", "entries_of", "Memo", "KeepAll", "KeepClean", "KeepNothing", "empty_memo", "numbers_text", "function_text", "cell_line", "MOST_LINES"]
def nm2 : List PySem.Str := ["MOST_DIGITS", "TABLE", "LEVEL_WORDS", "number_read", "levels_of", "function_read", "numbers_read", "operands_read", "cell_read", "cells_read", "MOST_IN_SYSTEM", "are_operands", "is_cell", "System", "_law_pen", "_law_pick", "_law_shuffled", "_law_rule", "_law_inner", "_law_rows", "_law_web", "_law_reached", "_law_leads", "_law_parts", "_law_first", "_law_played", "_law_orders", "_law_small_right", "_law_again", "_law_large_right"]
def names : List PySem.Str := nm0 ++ nm1 ++ nm2
abbrev RwO : PySem.W.OpenRow := PySem.W.OpenLaw.row PySem.Challenge.rw_busyguess_k24_whole_what_was_called_firs
theorem headRun (w : World) : HandSHeadRun.RunEq RwO (PySem.W.view RwO.prog [101]) hk ob 8000 names w := by
  intro os
  kernel_rfl
/-! ### the facts by names -/
structure Tx (K : PySem.W.Frag) (mg : Str → Option Value) : Prop where
  g_is_integer : mg "is_integer" = some (.ref (He.ga K "is_integer"))
  g_is_level : mg "is_level" = some (.ref (He.ga K "is_level"))
  g_is_function : mg "is_function" = some (.ref (He.ga K "is_function"))
  g_capped_sum : mg "capped_sum" = some (.ref (He.ga K "capped_sum"))
  g_turned : mg "turned" = some (.ref (He.ga K "turned"))
  g_value_of : mg "value_of" = some (.ref (He.ga K "value_of"))
  g_reach_among : mg "reach_among" = some (.ref (He.ga K "reach_among"))
  g_all_cells : mg "all_cells" = some (.ref (He.ga K "all_cells"))
  g_unordered_components : mg "unordered_components" = some (.ref (He.ga K "unordered_components"))
  g_leads_outside : mg "leads_outside" = some (.ref (He.ga K "leads_outside"))
  g_components_among : mg "components_among" = some (.ref (He.ga K "components_among"))
  g_components : mg "components" = some (.ref (He.ga K "components"))
  g_need_policy : mg "need_policy" = some (.ref (He.ga K "need_policy"))
  g_need_fitting : mg "need_fitting" = some (.ref (He.ga K "need_fitting"))
  g_is_kept : mg "is_kept" = some (.ref (He.ga K "is_kept"))
  g_joined_taint : mg "joined_taint" = some (.ref (He.ga K "joined_taint"))
  g_called : mg "called" = some (.ref (He.ga K "called"))
  g_free_cells : mg "free_cells" = some (.ref (He.ga K "free_cells"))
  g_is_entry : mg "is_entry" = some (.ref (He.ga K "is_entry"))
  g_table_by_entries : mg "table_by_entries" = some (.ref (He.ga K "table_by_entries"))
  g_choices : mg "choices" = some (.ref (He.ga K "choices"))
  g_all_entries : mg "all_entries" = some (.ref (He.ga K "all_entries"))
  g_cleared : mg "cleared" = some (.ref (He.ga K "cleared"))
  g_entry_for : mg "entry_for" = some (.ref (He.ga K "entry_for"))
  g_entries_of : mg "entries_of" = some (.ref (He.ga K "entries_of"))
  g_are_operands : mg "are_operands" = some (.ref (He.ga K "are_operands"))
  g_is_cell : mg "is_cell" = some (.ref (He.ga K "is_cell"))
  g_law_pen : mg "_law_pen" = some (.ref (He.ga K "_law_pen"))
  g_law_pick : mg "_law_pick" = some (.ref (He.ga K "_law_pick"))
  g_law_shuffled : mg "_law_shuffled" = some (.ref (He.ga K "_law_shuffled"))
  g_law_rule : mg "_law_rule" = some (.ref (He.ga K "_law_rule"))
  g_law_inner : mg "_law_inner" = some (.ref (He.ga K "_law_inner"))
  g_law_rows : mg "_law_rows" = some (.ref (He.ga K "_law_rows"))
  g_law_web : mg "_law_web" = some (.ref (He.ga K "_law_web"))
  g_law_reached : mg "_law_reached" = some (.ref (He.ga K "_law_reached"))
  g_law_leads : mg "_law_leads" = some (.ref (He.ga K "_law_leads"))
  g_law_parts : mg "_law_parts" = some (.ref (He.ga K "_law_parts"))
  g_law_first : mg "_law_first" = some (.ref (He.ga K "_law_first"))
  g_law_played : mg "_law_played" = some (.ref (He.ga K "_law_played"))
  g_law_orders : mg "_law_orders" = some (.ref (He.ga K "_law_orders"))
  g_law_small_right : mg "_law_small_right" = some (.ref (He.ga K "_law_small_right"))
  g_law_again : mg "_law_again" = some (.ref (He.ga K "_law_again"))
  g_law_large_right : mg "_law_large_right" = some (.ref (He.ga K "_law_large_right"))
  g_law : mg "law" = some (.ref (He.ga K "law"))
  g_Run : mg "Run" = some (.ref (He.ga K "Run"))
  g_KeepAll : mg "KeepAll" = some (.ref (He.ga K "KeepAll"))
  g_System : mg "System" = some (.ref (He.ga K "System"))
  b_isinstance : mg "isinstance" = none
  b_len : mg "len" = none
  b_int : mg "int" = none
  b_bool : mg "bool" = none
  b_tuple : mg "tuple" = none
  b_str : mg "str" = none
  b_all : mg "all" = none
  b_min : mg "min" = none
  b_max : mg "max" = none
  b_sum : mg "sum" = none
  b_enumerate : mg "enumerate" = none
  b_sorted : mg "sorted" = none
  b_range : mg "range" = none
  b_list : mg "list" = none
  b_zip : mg "zip" = none
  b_dict : mg "dict" = none
  b_set : mg "set" = none
  b_abs : mg "abs" = none
  i_MOST_LEVEL : ∃ t, mg "MOST_LEVEL" = some (.int 7 t)
  i_LEVELS : ∃ t, mg "LEVELS" = some (.int 8 t)
  i_MOST_VALUES : ∃ t, mg "MOST_VALUES" = some (.int 8 t)
  i_MOST_IN_SYSTEM : ∃ t, mg "MOST_IN_SYSTEM" = some (.int 24 t)
  i_MOST_LISTED : ∃ t, mg "MOST_LISTED" = some (.int 1000 t)
  i_ALL : ∃ t, mg "ALL" = some (.str "all" t)
  i_CLEAN : ∃ t, mg "CLEAN" = some (.str "clean" t)
  i_NOTHING : ∃ t, mg "NOTHING" = some (.str "nothing" t)
  cl_System : Cls K (He.ga K "System")
  mk_System : Mk K (He.ga K "System") (He.ma K (He.ga K "System") "__init__")
  na_System_triples : NoAttr K (He.ga K "System") "triples"
  cl_Run : Cls K (He.ga K "Run")
  mk_Run : Mk K (He.ga K "Run") (He.ma K (He.ga K "Run") "__init__")
  na_Run_net : NoAttr K (He.ga K "Run") "net"
  na_Run_board : NoAttr K (He.ga K "Run") "board"
  na_Run_rule : NoAttr K (He.ga K "Run") "rule"
  na_Run_busy : NoAttr K (He.ga K "Run") "busy"
  na_Run_allowed : NoAttr K (He.ga K "Run") "allowed"
  na_Run_begun : NoAttr K (He.ga K "Run") "begun"
  na_Run_happened : NoAttr K (He.ga K "Run") "happened"
  cl_KeepAll : Cls K (He.ga K "KeepAll")
  mk_KeepAll : Mk K (He.ga K "KeepAll") (He.ma K (He.ga K "KeepAll") "__init__")
  na_KeepAll_present : NoAttr K (He.ga K "KeepAll") "present"
  na_KeepAll_stored : NoAttr K (He.ga K "KeepAll") "stored"
  na_KeepAll_counted : NoAttr K (He.ga K "KeepAll") "counted"
  na_KeepAll_latest : NoAttr K (He.ga K "KeepAll") "latest"
  na_KeepAll_most : NoAttr K (He.ga K "KeepAll") "most"
  m_Run_init : Meth K (He.ga K "Run") "__init__" (He.ma K (He.ga K "Run") "__init__")
  m_Run_call : Meth K (He.ga K "Run") "call" (He.ma K (He.ga K "Run") "call")
  m_Run_evaluate : Meth K (He.ga K "Run") "evaluate" (He.ma K (He.ga K "Run") "evaluate")
  m_KeepAll_init : Meth K (He.ga K "KeepAll") "__init__" (He.ma K (He.ga K "KeepAll") "__init__")
  m_KeepAll_run : Meth K (He.ga K "KeepAll") "run" (He.ma K (He.ga K "KeepAll") "run")
  m_KeepAll_ask : Meth K (He.ga K "KeepAll") "ask" (He.ma K (He.ga K "KeepAll") "ask")
  m_KeepAll_events : Meth K (He.ga K "KeepAll") "events" (He.ma K (He.ga K "KeepAll") "events")
  m_System_init : Meth K (He.ga K "System") "__init__" (He.ma K (He.ga K "System") "__init__")
  m_System_triple : Meth K (He.ga K "System") "triple" (He.ma K (He.ga K "System") "triple")
  m_System_operands : Meth K (He.ga K "System") "operands" (He.ma K (He.ga K "System") "operands")
  m_System_function : Meth K (He.ga K "System") "function" (He.ma K (He.ga K "System") "function")
  m_System_guess : Meth K (He.ga K "System") "guess" (He.ma K (He.ga K "System") "guess")
  m_System_len : Meth K (He.ga K "System") "__len__" (He.ma K (He.ga K "System") "__len__")
  F_is_integer : FnP K "is_integer" "is_integer" s_is_integer [] [] (He.ga K "is_integer")
  F_is_level : FnP K "is_level" "is_level" s_is_level [] [] (He.ga K "is_level")
  F_is_function : FnP K "is_function" "is_function" s_is_function [] [] (He.ga K "is_function")
  F_capped_sum : FnP K "capped_sum" "capped_sum" s_capped_sum [] [] (He.ga K "capped_sum")
  F_turned : FnP K "turned" "turned" s_turned [] [] (He.ga K "turned")
  F_value_of : FnP K "value_of" "value_of" s_value_of [] [] (He.ga K "value_of")
  F_reach_among : FnP K "reach_among" "reach_among" s_reach_among [] [] (He.ga K "reach_among")
  F_all_cells : FnP K "all_cells" "all_cells" s_all_cells [] [] (He.ga K "all_cells")
  F_unordered_components : FnP K "unordered_components" "unordered_components" s_unordered_components [] [] (He.ga K "unordered_components")
  F_leads_outside : FnP K "leads_outside" "leads_outside" s_leads_outside [] [] (He.ga K "leads_outside")
  F_components_among : FnP K "components_among" "components_among" s_components_among [] [] (He.ga K "components_among")
  F_components : FnP K "components" "components" s_components [] [] (He.ga K "components")
  F_need_policy : FnP K "need_policy" "need_policy" s_need_policy [] [] (He.ga K "need_policy")
  F_need_fitting : FnP K "need_fitting" "need_fitting" s_need_fitting [] [] (He.ga K "need_fitting")
  F_is_kept : FnP K "is_kept" "is_kept" s_is_kept [] [] (He.ga K "is_kept")
  F_joined_taint : FnP K "joined_taint" "joined_taint" s_joined_taint [] [] (He.ga K "joined_taint")
  F_called : FnP K "called" "called" s_called [] [("busy", .ref (bKwC K)), ("policy", .str "clean")] (He.ga K "called")
  F_free_cells : FnP K "free_cells" "free_cells" s_free_cells [] [] (He.ga K "free_cells")
  F_is_entry : FnP K "is_entry" "is_entry" s_is_entry [] [] (He.ga K "is_entry")
  F_table_by_entries : FnP K "table_by_entries" "table_by_entries" s_table_by_entries [] [] (He.ga K "table_by_entries")
  F_choices : FnP K "choices" "choices" s_choices [] [] (He.ga K "choices")
  F_all_entries : FnP K "all_entries" "all_entries" s_all_entries [] [("limit", .int 1000)] (He.ga K "all_entries")
  F_cleared : FnP K "cleared" "cleared" s_cleared [] [] (He.ga K "cleared")
  F_entry_for : FnP K "entry_for" "entry_for" s_entry_for [] [] (He.ga K "entry_for")
  F_entries_of : FnP K "entries_of" "entries_of" s_entries_of [] [] (He.ga K "entries_of")
  F_are_operands : FnP K "are_operands" "are_operands" s_are_operands [] [] (He.ga K "are_operands")
  F_is_cell : FnP K "is_cell" "is_cell" s_is_cell [] [] (He.ga K "is_cell")
  F_law_pen : FnP K "_law_pen" "_law_pen" s_law_pen [] [] (He.ga K "_law_pen")
  F_law_pick : FnP K "_law_pick" "_law_pick" s_law_pick [] [] (He.ga K "_law_pick")
  F_law_shuffled : FnP K "_law_shuffled" "_law_shuffled" s_law_shuffled [] [] (He.ga K "_law_shuffled")
  F_law_rule : FnP K "_law_rule" "_law_rule" s_law_rule [] [] (He.ga K "_law_rule")
  F_law_inner : FnP K "_law_inner" "_law_inner" s_law_inner [] [] (He.ga K "_law_inner")
  F_law_rows : FnP K "_law_rows" "_law_rows" s_law_rows [] [] (He.ga K "_law_rows")
  F_law_web : FnP K "_law_web" "_law_web" s_law_web [] [] (He.ga K "_law_web")
  F_law_reached : FnP K "_law_reached" "_law_reached" s_law_reached [] [] (He.ga K "_law_reached")
  F_law_leads : FnP K "_law_leads" "_law_leads" s_law_leads [] [] (He.ga K "_law_leads")
  F_law_parts : FnP K "_law_parts" "_law_parts" s_law_parts [] [] (He.ga K "_law_parts")
  F_law_first : FnP K "_law_first" "_law_first" s_law_first [] [] (He.ga K "_law_first")
  F_law_played : FnP K "_law_played" "_law_played" s_law_played [] [] (He.ga K "_law_played")
  F_law_orders : FnP K "_law_orders" "_law_orders" s_law_orders [] [] (He.ga K "_law_orders")
  F_law_small_right : FnP K "_law_small_right" "_law_small_right" s_law_small_right [] [] (He.ga K "_law_small_right")
  F_law_again : FnP K "_law_again" "_law_again" s_law_again [] [] (He.ga K "_law_again")
  F_law_large_right : FnP K "_law_large_right" "_law_large_right" s_law_large_right [] [] (He.ga K "_law_large_right")
  F_law : FnP K "law" "law" s_law [] [] (He.ga K "law")
  F_Run_init : FnP K "__init__" "Run.__init__" s_Run_init [] [("busy", .ref (bKwR K)), ("most", .non)] (He.ma K (He.ga K "Run") "__init__")
  F_Run_call : FnP K "call" "Run.call" s_Run_call [] [] (He.ma K (He.ga K "Run") "call")
  F_Run_evaluate : FnP K "evaluate" "Run.evaluate" s_Run_evaluate [] [] (He.ma K (He.ga K "Run") "evaluate")
  F_KeepAll_init : FnP K "__init__" "Memo.__init__" s_KeepAll_init [] [] (He.ma K (He.ga K "KeepAll") "__init__")
  F_KeepAll_run : FnP K "run" "Memo.run" s_KeepAll_run [] [] (He.ma K (He.ga K "KeepAll") "run")
  F_KeepAll_ask : FnP K "ask" "Memo.ask" s_KeepAll_ask [] [] (He.ma K (He.ga K "KeepAll") "ask")
  F_KeepAll_events : FnP K "events" "Memo.events" s_KeepAll_events [] [] (He.ma K (He.ga K "KeepAll") "events")
  F_System_init : FnP K "__init__" "System.__init__" s_System_init [] [] (He.ma K (He.ga K "System") "__init__")
  F_System_triple : FnP K "triple" "System.triple" s_System_triple [] [] (He.ma K (He.ga K "System") "triple")
  F_System_operands : FnP K "operands" "System.operands" s_System_operands [] [] (He.ma K (He.ga K "System") "operands")
  F_System_function : FnP K "function" "System.function" s_System_function [] [] (He.ma K (He.ga K "System") "function")
  F_System_guess : FnP K "guess" "System.guess" s_System_guess [] [] (He.ma K (He.ga K "System") "guess")
  F_System_len : FnP K "__len__" "System.__len__" s_System_len [] [] (He.ma K (He.ga K "System") "__len__")
  F_KeepAll_table : FnP K "table" "Memo.table" s_KeepAll_table [] [] (gTable K)
  F_System_of : FnP K "of" "System.of" s_System_of [] [] (gOf K)
  t_KINDS : mg "KINDS" = some (.ref (He.ga K "KINDS")) ∧ ∀ H : Hp, SqT K H (He.ga K "KINDS") (dKinds.map (He.Dv.v K))
  t_POLICIES : mg "POLICIES" = some (.ref (He.ga K "POLICIES")) ∧ ∀ H : Hp, SqT K H (He.ga K "POLICIES") (dPol.map (He.Dv.v K))
  con : ∃ u, Con K (He.ga K "KeepAll") "POLICY" (.str "all") u
  nilC : ∀ H : Hp, SqT K H (bKwC K) []
  nilR : ∀ H : Hp, SqT K H (bKwR K) []
  prop : PropOf K (He.ga K "KeepAll") "table" (pTable K) (gTable K)
  crd : ClX.CRead K (cSys K) (.type "type")
  cmt : ClX.CMet K (cSys K) (.type "type") "of" (pOf K) (gOf K)
  kpS : PySem.W.keepIn K (.ref (cSys K)) = true
  fnLen : PySem.W.isFn K (.ref (He.ma K (cSys K) "__len__")) = true
theorem tx_of {K : PySem.W.Frag} {h : Heap} {mg : Str → Option Value} (X : K.In h) (G : h.Ns mainGlobals mg) (e : obsB K = valB) : Tx K mg := by
  have c : He.SaysD fa fn K := congrArg (fun z : AlB => z.1) e
  have cx : (exB.all fun f => f K) = true := congrArg (fun z : AlB => z.2.1) e
  have cv : [fnX K (gTable K), fnX K (gOf K)] = vX := congrArg (fun z : AlB => z.2.2) e
  have ex : ∀ (i : Nat) (f : PySem.W.Frag → Bool), exB[i]? = some f → f K = true := fun i f h => List.all_eq_true.mp cx f (List.mem_of_getElem? h)
  have v1 : fnX K (gTable K) = _ := (List.cons.inj cv).1
  have v2 : fnX K (gOf K) = _ := (List.cons.inj (List.cons.inj cv).2).1
  have e12 := ex 12 _ rfl
  have cls : PySem.W.findCls K (.ref (cSys K)) (.type "type") "of" = some (.get (.builtin "classmethod.__get__") (.ref (pOf K)) .none (.ref (cSys K))) := by
    split at e12
    · rename_i b p C q
      obtain ⟨h1, h2⟩ := He.ba e12
      obtain ⟨h3, h4⟩ := He.ba h2
      rw [q, of_decide_eq_true h1, of_decide_eq_true h3, of_decide_eq_true h4]
    · cases e12
  exact {
    g_is_integer := He.glo_ok X G (c.fact 0 (f := .glo "is_integer") rfl)
    g_is_level := He.glo_ok X G (c.fact 1 (f := .glo "is_level") rfl)
    g_is_function := He.glo_ok X G (c.fact 2 (f := .glo "is_function") rfl)
    g_capped_sum := He.glo_ok X G (c.fact 3 (f := .glo "capped_sum") rfl)
    g_turned := He.glo_ok X G (c.fact 4 (f := .glo "turned") rfl)
    g_value_of := He.glo_ok X G (c.fact 5 (f := .glo "value_of") rfl)
    g_reach_among := He.glo_ok X G (c.fact 6 (f := .glo "reach_among") rfl)
    g_all_cells := He.glo_ok X G (c.fact 7 (f := .glo "all_cells") rfl)
    g_unordered_components := He.glo_ok X G (c.fact 8 (f := .glo "unordered_components") rfl)
    g_leads_outside := He.glo_ok X G (c.fact 9 (f := .glo "leads_outside") rfl)
    g_components_among := He.glo_ok X G (c.fact 10 (f := .glo "components_among") rfl)
    g_components := He.glo_ok X G (c.fact 11 (f := .glo "components") rfl)
    g_need_policy := He.glo_ok X G (c.fact 12 (f := .glo "need_policy") rfl)
    g_need_fitting := He.glo_ok X G (c.fact 13 (f := .glo "need_fitting") rfl)
    g_is_kept := He.glo_ok X G (c.fact 14 (f := .glo "is_kept") rfl)
    g_joined_taint := He.glo_ok X G (c.fact 15 (f := .glo "joined_taint") rfl)
    g_called := He.glo_ok X G (c.fact 16 (f := .glo "called") rfl)
    g_free_cells := He.glo_ok X G (c.fact 17 (f := .glo "free_cells") rfl)
    g_is_entry := He.glo_ok X G (c.fact 18 (f := .glo "is_entry") rfl)
    g_table_by_entries := He.glo_ok X G (c.fact 19 (f := .glo "table_by_entries") rfl)
    g_choices := He.glo_ok X G (c.fact 20 (f := .glo "choices") rfl)
    g_all_entries := He.glo_ok X G (c.fact 21 (f := .glo "all_entries") rfl)
    g_cleared := He.glo_ok X G (c.fact 22 (f := .glo "cleared") rfl)
    g_entry_for := He.glo_ok X G (c.fact 23 (f := .glo "entry_for") rfl)
    g_entries_of := He.glo_ok X G (c.fact 24 (f := .glo "entries_of") rfl)
    g_are_operands := He.glo_ok X G (c.fact 25 (f := .glo "are_operands") rfl)
    g_is_cell := He.glo_ok X G (c.fact 26 (f := .glo "is_cell") rfl)
    g_law_pen := He.glo_ok X G (c.fact 27 (f := .glo "_law_pen") rfl)
    g_law_pick := He.glo_ok X G (c.fact 28 (f := .glo "_law_pick") rfl)
    g_law_shuffled := He.glo_ok X G (c.fact 29 (f := .glo "_law_shuffled") rfl)
    g_law_rule := He.glo_ok X G (c.fact 30 (f := .glo "_law_rule") rfl)
    g_law_inner := He.glo_ok X G (c.fact 31 (f := .glo "_law_inner") rfl)
    g_law_rows := He.glo_ok X G (c.fact 32 (f := .glo "_law_rows") rfl)
    g_law_web := He.glo_ok X G (c.fact 33 (f := .glo "_law_web") rfl)
    g_law_reached := He.glo_ok X G (c.fact 34 (f := .glo "_law_reached") rfl)
    g_law_leads := He.glo_ok X G (c.fact 35 (f := .glo "_law_leads") rfl)
    g_law_parts := He.glo_ok X G (c.fact 36 (f := .glo "_law_parts") rfl)
    g_law_first := He.glo_ok X G (c.fact 37 (f := .glo "_law_first") rfl)
    g_law_played := He.glo_ok X G (c.fact 38 (f := .glo "_law_played") rfl)
    g_law_orders := He.glo_ok X G (c.fact 39 (f := .glo "_law_orders") rfl)
    g_law_small_right := He.glo_ok X G (c.fact 40 (f := .glo "_law_small_right") rfl)
    g_law_again := He.glo_ok X G (c.fact 41 (f := .glo "_law_again") rfl)
    g_law_large_right := He.glo_ok X G (c.fact 42 (f := .glo "_law_large_right") rfl)
    g_law := He.glo_ok X G (c.fact 43 (f := .glo "law") rfl)
    g_Run := He.glo_ok X G (c.fact 44 (f := .glo "Run") rfl)
    g_KeepAll := He.glo_ok X G (c.fact 45 (f := .glo "KeepAll") rfl)
    g_System := He.glo_ok X G (c.fact 46 (f := .glo "System") rfl)
    b_isinstance := He.free_ok X G (c.fact 47 (f := .free "isinstance") rfl)
    b_len := He.free_ok X G (c.fact 48 (f := .free "len") rfl)
    b_int := He.free_ok X G (c.fact 49 (f := .free "int") rfl)
    b_bool := He.free_ok X G (c.fact 50 (f := .free "bool") rfl)
    b_tuple := He.free_ok X G (c.fact 51 (f := .free "tuple") rfl)
    b_str := He.free_ok X G (c.fact 52 (f := .free "str") rfl)
    b_all := He.free_ok X G (c.fact 53 (f := .free "all") rfl)
    b_min := He.free_ok X G (c.fact 54 (f := .free "min") rfl)
    b_max := He.free_ok X G (c.fact 55 (f := .free "max") rfl)
    b_sum := He.free_ok X G (c.fact 56 (f := .free "sum") rfl)
    b_enumerate := He.free_ok X G (c.fact 57 (f := .free "enumerate") rfl)
    b_sorted := He.free_ok X G (c.fact 58 (f := .free "sorted") rfl)
    b_range := He.free_ok X G (c.fact 59 (f := .free "range") rfl)
    b_list := He.free_ok X G (c.fact 60 (f := .free "list") rfl)
    b_zip := He.free_ok X G (c.fact 61 (f := .free "zip") rfl)
    b_dict := He.free_ok X G (c.fact 62 (f := .free "dict") rfl)
    b_set := He.free_ok X G (c.fact 63 (f := .free "set") rfl)
    b_abs := He.free_ok X G (c.fact 64 (f := .free "abs") rfl)
    i_MOST_LEVEL := He.int_ok X G (c.fact 65 (f := .int "MOST_LEVEL" 7) rfl)
    i_LEVELS := He.int_ok X G (c.fact 66 (f := .int "LEVELS" 8) rfl)
    i_MOST_VALUES := He.int_ok X G (c.fact 67 (f := .int "MOST_VALUES" 8) rfl)
    i_MOST_IN_SYSTEM := He.int_ok X G (c.fact 68 (f := .int "MOST_IN_SYSTEM" 24) rfl)
    i_MOST_LISTED := He.int_ok X G (c.fact 69 (f := .int "MOST_LISTED" 1000) rfl)
    i_ALL := He.str_ok X G (c.fact 70 (f := .str "ALL" "all") rfl)
    i_CLEAN := He.str_ok X G (c.fact 71 (f := .str "CLEAN" "clean") rfl)
    i_NOTHING := He.str_ok X G (c.fact 72 (f := .str "NOTHING" "nothing") rfl)
    cl_System := He.cls_ok (c.fact 73 (f := .cls "System") rfl)
    mk_System := He.mkr_ok (c.fact 74 (f := .mkr "System") rfl)
    na_System_triples := He.noat_ok (c.fact 75 (f := .noat "System" "triples") rfl)
    cl_Run := He.cls_ok (c.fact 76 (f := .cls "Run") rfl)
    mk_Run := He.mkr_ok (c.fact 77 (f := .mkr "Run") rfl)
    na_Run_net := He.noat_ok (c.fact 78 (f := .noat "Run" "net") rfl)
    na_Run_board := He.noat_ok (c.fact 79 (f := .noat "Run" "board") rfl)
    na_Run_rule := He.noat_ok (c.fact 80 (f := .noat "Run" "rule") rfl)
    na_Run_busy := He.noat_ok (c.fact 81 (f := .noat "Run" "busy") rfl)
    na_Run_allowed := He.noat_ok (c.fact 82 (f := .noat "Run" "allowed") rfl)
    na_Run_begun := He.noat_ok (c.fact 83 (f := .noat "Run" "begun") rfl)
    na_Run_happened := He.noat_ok (c.fact 84 (f := .noat "Run" "happened") rfl)
    cl_KeepAll := He.cls_ok (c.fact 85 (f := .cls "KeepAll") rfl)
    mk_KeepAll := He.mkr_ok (c.fact 86 (f := .mkr "KeepAll") rfl)
    na_KeepAll_present := He.noat_ok (c.fact 87 (f := .noat "KeepAll" "present") rfl)
    na_KeepAll_stored := He.noat_ok (c.fact 88 (f := .noat "KeepAll" "stored") rfl)
    na_KeepAll_counted := He.noat_ok (c.fact 89 (f := .noat "KeepAll" "counted") rfl)
    na_KeepAll_latest := He.noat_ok (c.fact 90 (f := .noat "KeepAll" "latest") rfl)
    na_KeepAll_most := He.noat_ok (c.fact 91 (f := .noat "KeepAll" "most") rfl)
    m_Run_init := He.meth_ok (c.fact 92 (f := .meth "Run" "__init__") rfl)
    m_Run_call := He.meth_ok (c.fact 93 (f := .meth "Run" "call") rfl)
    m_Run_evaluate := He.meth_ok (c.fact 94 (f := .meth "Run" "evaluate") rfl)
    m_KeepAll_init := He.meth_ok (c.fact 95 (f := .meth "KeepAll" "__init__") rfl)
    m_KeepAll_run := He.meth_ok (c.fact 96 (f := .meth "KeepAll" "run") rfl)
    m_KeepAll_ask := He.meth_ok (c.fact 97 (f := .meth "KeepAll" "ask") rfl)
    m_KeepAll_events := He.meth_ok (c.fact 98 (f := .meth "KeepAll" "events") rfl)
    m_System_init := He.meth_ok (c.fact 99 (f := .meth "System" "__init__") rfl)
    m_System_triple := He.meth_ok (c.fact 100 (f := .meth "System" "triple") rfl)
    m_System_operands := He.meth_ok (c.fact 101 (f := .meth "System" "operands") rfl)
    m_System_function := He.meth_ok (c.fact 102 (f := .meth "System" "function") rfl)
    m_System_guess := He.meth_ok (c.fact 103 (f := .meth "System" "guess") rfl)
    m_System_len := He.meth_ok (c.fact 104 (f := .meth "System" "__len__") rfl)
    F_is_integer := fnP_of (c.def_ 0 (d := d_is_integer) rfl)
    F_is_level := fnP_of (c.def_ 1 (d := d_is_level) rfl)
    F_is_function := fnP_of (c.def_ 2 (d := d_is_function) rfl)
    F_capped_sum := fnP_of (c.def_ 3 (d := d_capped_sum) rfl)
    F_turned := fnP_of (c.def_ 4 (d := d_turned) rfl)
    F_value_of := fnP_of (c.def_ 5 (d := d_value_of) rfl)
    F_reach_among := fnP_of (c.def_ 6 (d := d_reach_among) rfl)
    F_all_cells := fnP_of (c.def_ 7 (d := d_all_cells) rfl)
    F_unordered_components := fnP_of (c.def_ 8 (d := d_unordered_components) rfl)
    F_leads_outside := fnP_of (c.def_ 9 (d := d_leads_outside) rfl)
    F_components_among := fnP_of (c.def_ 10 (d := d_components_among) rfl)
    F_components := fnP_of (c.def_ 11 (d := d_components) rfl)
    F_need_policy := fnP_of (c.def_ 12 (d := d_need_policy) rfl)
    F_need_fitting := fnP_of (c.def_ 13 (d := d_need_fitting) rfl)
    F_is_kept := fnP_of (c.def_ 14 (d := d_is_kept) rfl)
    F_joined_taint := fnP_of (c.def_ 15 (d := d_joined_taint) rfl)
    F_called := fnP_of (c.def_ 16 (d := d_called) rfl)
    F_free_cells := fnP_of (c.def_ 17 (d := d_free_cells) rfl)
    F_is_entry := fnP_of (c.def_ 18 (d := d_is_entry) rfl)
    F_table_by_entries := fnP_of (c.def_ 19 (d := d_table_by_entries) rfl)
    F_choices := fnP_of (c.def_ 20 (d := d_choices) rfl)
    F_all_entries := fnP_of (c.def_ 21 (d := d_all_entries) rfl)
    F_cleared := fnP_of (c.def_ 22 (d := d_cleared) rfl)
    F_entry_for := fnP_of (c.def_ 23 (d := d_entry_for) rfl)
    F_entries_of := fnP_of (c.def_ 24 (d := d_entries_of) rfl)
    F_are_operands := fnP_of (c.def_ 25 (d := d_are_operands) rfl)
    F_is_cell := fnP_of (c.def_ 26 (d := d_is_cell) rfl)
    F_law_pen := fnP_of (c.def_ 27 (d := d_law_pen) rfl)
    F_law_pick := fnP_of (c.def_ 28 (d := d_law_pick) rfl)
    F_law_shuffled := fnP_of (c.def_ 29 (d := d_law_shuffled) rfl)
    F_law_rule := fnP_of (c.def_ 30 (d := d_law_rule) rfl)
    F_law_inner := fnP_of (c.def_ 31 (d := d_law_inner) rfl)
    F_law_rows := fnP_of (c.def_ 32 (d := d_law_rows) rfl)
    F_law_web := fnP_of (c.def_ 33 (d := d_law_web) rfl)
    F_law_reached := fnP_of (c.def_ 34 (d := d_law_reached) rfl)
    F_law_leads := fnP_of (c.def_ 35 (d := d_law_leads) rfl)
    F_law_parts := fnP_of (c.def_ 36 (d := d_law_parts) rfl)
    F_law_first := fnP_of (c.def_ 37 (d := d_law_first) rfl)
    F_law_played := fnP_of (c.def_ 38 (d := d_law_played) rfl)
    F_law_orders := fnP_of (c.def_ 39 (d := d_law_orders) rfl)
    F_law_small_right := fnP_of (c.def_ 40 (d := d_law_small_right) rfl)
    F_law_again := fnP_of (c.def_ 41 (d := d_law_again) rfl)
    F_law_large_right := fnP_of (c.def_ 42 (d := d_law_large_right) rfl)
    F_law := fnP_of (c.def_ 43 (d := d_law) rfl)
    F_Run_init := fnP_of (c.def_ 44 (d := d_Run_init) rfl)
    F_Run_call := fnP_of (c.def_ 45 (d := d_Run_call) rfl)
    F_Run_evaluate := fnP_of (c.def_ 46 (d := d_Run_evaluate) rfl)
    F_KeepAll_init := fnP_of (c.def_ 47 (d := d_KeepAll_init) rfl)
    F_KeepAll_run := fnP_of (c.def_ 48 (d := d_KeepAll_run) rfl)
    F_KeepAll_ask := fnP_of (c.def_ 49 (d := d_KeepAll_ask) rfl)
    F_KeepAll_events := fnP_of (c.def_ 50 (d := d_KeepAll_events) rfl)
    F_System_init := fnP_of (c.def_ 51 (d := d_System_init) rfl)
    F_System_triple := fnP_of (c.def_ 52 (d := d_System_triple) rfl)
    F_System_operands := fnP_of (c.def_ 53 (d := d_System_operands) rfl)
    F_System_function := fnP_of (c.def_ 54 (d := d_System_function) rfl)
    F_System_guess := fnP_of (c.def_ 55 (d := d_System_guess) rfl)
    F_System_len := fnP_of (c.def_ 56 (d := d_System_len) rfl)
    F_KeepAll_table := fnP_of (funX v1 (ex 9 _ rfl))
    F_System_of := fnP_of (funX v2 (ex 15 _ rfl))
    t_KINDS := ⟨PySem.W.mg_of X G (He.eqO_ok (He.ba (ex 0 _ rfl)).2), fun H => He.tupB_ok (He.ba (ex 0 _ rfl)).1 H⟩
    t_POLICIES := ⟨PySem.W.mg_of X G (He.eqO_ok (He.ba (ex 1 _ rfl)).2), fun H => He.tupB_ok (He.ba (ex 1 _ rfl)).1 H⟩
    con := He.conB_ok (C := "KeepAll") (f := "POLICY") (v := .str "all") (ex 2 _ rfl)
    nilC := fun H => nilB_ok (ex 3 _ rfl) H
    nilR := fun H => nilB_ok (ex 4 _ rfl) H
    prop := ⟨He.eqO_ok (ex 5 _ rfl), He.eqO_ok (ex 6 _ rfl), of_decide_eq_true (ex 7 _ rfl), recB_ok (ex 8 _ rfl)⟩
    crd := ⟨ex 10 _ rfl, He.eqO_ok (ex 11 _ rfl)⟩
    cmt := ⟨cls, recB_ok (ex 13 _ rfl), ex 14 _ rfl⟩
    kpS := ex 16 _ rfl
    fnLen := ex 17 _ rfl
  }
end BgT
set_option Elab.async false
set_option linter.all false
set_option maxRecDepth 100000
set_option maxHeartbeats 4000000
namespace BgT
open PySem PySem.Spec PyProof.Rows L2
/-! ### constants of the module -/
section
variable {X : Cx} {x : Str} {pos : Pos}
theorem pe_const {i : Int} (h : ∃ t, X.mg x = some (.int i t)) (hg : Gl X x := by rfl) (hd : (x == ("__debug__" : Str)) = false := by decide) : PE X (.Name x pos) (tC (.int i)) := by
  obtain ⟨t, e⟩ := h
  exact pe_glob hg e ⟨t, rfl⟩ hd
theorem pe_constS {z : Str} (h : ∃ t, X.mg x = some (.str z t)) (hg : Gl X x := by rfl) (hd : (x == ("__debug__" : Str)) = false := by decide) : PE X (.Name x pos) (tC (.str z)) := by
  obtain ⟨t, e⟩ := h
  exact pe_glob hg e ⟨t, rfl⟩ hd
end
/-- no test in a comprehension -/
theorem tyes {σ : L2.St} {H : Hp} {A B : Hp → Prop} (h : A H) : tYes σ H fun b H3 => if b = true then A H3 else B H3 := by
  show if true = true then A H else B H
  rw [if_pos rfl]
  exact h
/-! ### data as it stands in the heap -/
abbrev vn (c : Nat) : V := .int (c : Int)
def optV : Option Int → V
  | none => .non
  | some v => .int v
def optN : Option Nat → V
  | none => .non
  | some c => vn c
inductive Kind where
  | always | max | min | sum | turn | choose
def Kind.nm : Kind → Str
  | .always => "always"
  | .max => "max"
  | .min => "min"
  | .sum => "sum"
  | .turn => "turn"
  | .choose => "choose"
inductive Fn where
  | lev (k : Kind) (c : Int)
  | tab (t : List Int)
instance : Inhabited Fn := ⟨.tab []⟩
def Fn.Ok : Fn → Prop
  | .lev _ c => Bg.Lv c
  | .tab t => t.length = 8 ∧ ∀ x ∈ t, Bg.Lv x
def cap (l : List Int) : Int := if l.sum < 7 then l.sum else 7
def turnSum : Nat → List Int → Int
  | _, [] => 0
  | i, v :: vs => ((i : Int) + 1) * v + turnSum (i + 1) vs
def valF : Fn → List Int → Int
  | .lev .always c, _ => c
  | .lev .max c, vs => vs.foldl (fun a b => if b > a then b else a) c
  | .lev .min c, vs => vs.foldl (fun a b => if b < a then b else a) c
  | .lev .sum c, vs => cap (c :: vs)
  | .lev .turn c, vs => (c + turnSum 0 vs).fmod 8
  | .lev .choose c, [] => c
  | .lev .choose _, v :: vs => (v :: vs).getD (v.fmod ((v :: vs).length : Int)).toNat 0
  | .tab t, vs => t.getD (cap vs).toNat 0
def FnAt (H : Hp) (v : V) : Fn → Prop
  | .lev k c => ∃ a, v = .ref a ∧ H a = some (.tup [.str k.nm, .int c])
  | .tab t => ∃ a b, v = .ref a ∧ H a = some (.tup [.str "table", .ref b]) ∧ H b = some (.tup (t.map V.int))
structure Row where
  ops : List Nat
  fn : Fn
  gs : Int
structure Row.Ok (n : Nat) (r : Row) : Prop where
  nd : r.ops.Nodup
  lt : ∀ o ∈ r.ops, o < n
  few : r.ops.length ≤ 8
  fn : r.fn.Ok
  gs : Bg.Lv r.gs
def TripAt (H : Hp) (v : V) (r : Row) : Prop := ∃ a o f, v = .ref a ∧ H a = some (.tup [.ref o, f, .int r.gs]) ∧ H o = some (.tup (r.ops.map vn)) ∧ FnAt H f r.fn
structure RowsOk (rows : List Row) : Prop where
  pos : 1 ≤ rows.length
  le : rows.length ≤ 24
  ok : ∀ r ∈ rows, r.Ok rows.length
def TripsAt (H : Hp) (vs : List V) (rows : List Row) : Prop := vs.length = rows.length ∧ ∀ (i : Nat) (r : Row), rows[i]? = some r → ∃ v, vs[i]? = some v ∧ TripAt H v r
/-- lists, tuples of tuples: of each item its content -/
def TupsAt (H : Hp) (vs : List V) (ds : List (List V)) : Prop := vs.length = ds.length ∧ ∀ (i : Nat) (d : List V), ds[i]? = some d → ∃ a, vs[i]? = some (.ref a) ∧ H a = some (.tup d)
def SysAt (K : PySem.W.Frag) (H : Hp) (s : Addr) (rows : List Row) : Prop := ∃ dx t vs, H s = some (.ins (He.ga K "System") dx [("triples", .ref t)]) ∧ H t = some (.tup vs) ∧ TripsAt H vs rows
/-- the system of such rows -/
def sysOf (rows : List Row) : Bg.Sys where
  n := rows.length
  ops := fun c => match rows[c]? with
    | some r => r.ops
    | none => []
  val := fun c vs => match rows[c]? with
    | some r => valF r.fn vs
    | none => 0
  gs := fun c => match rows[c]? with
    | some r => r.gs
    | none => 0
theorem FnAt.same {H H' : Hp} {v : V} {f : Fn} (h : FnAt H v f) (s : Same H H') : FnAt H' v f := by
  cases f with
  | lev k c => obtain ⟨a, e, h⟩ := h; exact ⟨a, e, s _ _ h⟩
  | tab t => obtain ⟨a, b, e, h, k⟩ := h; exact ⟨a, b, e, s _ _ h, s _ _ k⟩
theorem TripAt.same {H H' : Hp} {v : V} {r : Row} (h : TripAt H v r) (s : Same H H') : TripAt H' v r := by
  obtain ⟨a, o, f, e, h1, h2, h3⟩ := h
  exact ⟨a, o, f, e, s _ _ h1, s _ _ h2, h3.same s⟩
theorem TripsAt.same {H H' : Hp} {vs : List V} {rows : List Row} (h : TripsAt H vs rows) (s : Same H H') : TripsAt H' vs rows :=
  ⟨h.1, fun i r e => let ⟨v, q, t⟩ := h.2 i r e; ⟨v, q, t.same s⟩⟩
theorem TupsAt.same {H H' : Hp} {vs : List V} {ds : List (List V)} (h : TupsAt H vs ds) (s : Same H H') : TupsAt H' vs ds :=
  ⟨h.1, fun i d e => let ⟨a, q, t⟩ := h.2 i d e; ⟨a, q, s _ _ t⟩⟩
theorem SysAt.same {K : PySem.W.Frag} {H H' : Hp} {s : Addr} {rows : List Row} (h : SysAt K H s rows) (q : Same H H') : SysAt K H' s rows := by
  obtain ⟨dx, t, vs, h1, h2, h3⟩ := h
  exact ⟨dx, t, vs, q _ _ h1, q _ _ h2, h3.same q⟩
theorem same_upd {H : Hp} {a : Addr} {o : HO} (h : H a = none) : Same H (upd H a o) := fun b u e => by
  rw [upd_ne (ne_of_none e h)]; exact e
theorem sameN {H H' : Hp} {a : Addr} {o : HO} (s : Same H H') (h : H a = none) : Same H (upd H' a o) := fun b u e => by
  rw [upd_ne (ne_of_none e h)]; exact s b u e
theorem TupsAt.snoc {H : Hp} {vs : List V} {ds : List (List V)} {a : Addr} {d : List V} (h : TupsAt H vs ds) (e : H a = some (.tup d)) : TupsAt H (vs ++ [.ref a]) (ds ++ [d]) := by
  refine ⟨by simp [h.1], fun i x q => ?_⟩
  by_cases hi : i < ds.length
  · rw [List.getElem?_append_left hi] at q
    obtain ⟨b, h1, h2⟩ := h.2 i x q
    exact ⟨b, by rw [List.getElem?_append_left (by rw [h.1]; exact hi)]; exact h1, h2⟩
  · have hl : i = ds.length := by
      have := (List.getElem?_eq_some_iff.mp q).1
      simp at this
      omega
    subst hl
    rw [List.getElem?_append_right (Nat.le_refl _)] at q
    simp at q
    subst q
    exact ⟨a, by rw [List.getElem?_append_right (by rw [h.1]; exact Nat.le_refl _), h.1]; simp, e⟩
theorem TupsAt.nil {H : Hp} : TupsAt H [] [] := ⟨rfl, fun i d e => by simp at e⟩
theorem TupsAt.get {H : Hp} {vs : List V} {ds : List (List V)} (h : TupsAt H vs ds) {i : Nat} {v : V} (e : vs[i]? = some v) : ∃ a d, v = .ref a ∧ ds[i]? = some d ∧ H a = some (.tup d) := by
  have hi : i < ds.length := by rw [← h.1]; exact (List.getElem?_eq_some_iff.mp e).1
  obtain ⟨a, h1, h2⟩ := h.2 i _ (List.getElem?_eq_getElem hi)
  rw [e] at h1
  cases h1
  exact ⟨a, _, rfl, List.getElem?_eq_getElem hi, h2⟩
end BgT
set_option Elab.async false
set_option linter.all false
set_option maxRecDepth 100000
set_option maxHeartbeats 4000000
namespace BgT
open PySem PySem.Spec PyProof.Rows L2
section
variable {P : Program} {w : World} {K : PySem.W.Frag} {mg : Str → Option Value} {base : Heap}
abbrev FO (P : Program) (w : World) (K : PySem.W.Frag) (mg : Str → Option Value) (base : Heap) (k : Nat) (f : Addr) (ps : List Str) (sp : Sp) : Prop := FnOk P w K mg base CX0 k f (fdOf K f) ps sp

/-! ### is_integer -/
theorem sc_is_integer : FnScope ["thing"] ["thing"] (defScope s_is_integer) := ⟨rfl, rfl, rfl, by decide +kernel, rfl, by decide +kernel, by decide +kernel⟩
theorem bd_is_integer {K : PySem.W.Frag} {mg : Str → Option Value} (T : Tx K mg) : Binds K (fdOf K (He.ga K "is_integer")) ["thing"] [] := T.F_is_integer.bindsN (fun _ _ _ _ _ _ us hl => match us, hl with | [_], _ => rfl)
def sp_is_integer : Sp := fun vs H Q _ => ∃ i : Int, vs = [.int i] ∧ Q (.bl true) H
theorem ok_is_integer (T : Tx K mg) : FO P w K mg base 1 (He.ga K "is_integer") ["thing"] sp_is_integer := by
  refine T.F_is_integer.ok sc_is_integer (fun vs H Q E h => ?_) (fun cdv A outer s H vs Q E hr h => ?_)
  · obtain ⟨i, rfl, _⟩ := h; rfl
  · obtain ⟨i, rfl, q⟩ := h
    refine ⟨_, PSs.nox (pss_one (ps_ret (pe_and (pe_callB call_isi (by rfl) T.b_isinstance (by decide +kernel) (pa_cons (pv 0) (pa_cons (pe_bltn (v := .ty "int") (u := .type "int") (by rfl) T.b_int (by decide +kernel) rfl) pa_nil))) (pe_one (pe_not (pe_callB call_isi (by rfl) T.b_isinstance (by decide +kernel) (pa_cons (pv 0) (pa_cons (pe_bltn (v := .ty "bool") (u := .type "bool") (by rfl) T.b_bool (by decide +kernel) rfl) pa_nil)))))))), ?_⟩
    refine ⟨_, rfl, _, _, .type "int", .type "int", true, rfl, .ty _, .base (.int i), kit_ty (by decide +kernel), true, rfl, ?_⟩
    refine iteT ⟨_, rfl, _, _, .type "int", .type "bool", false, rfl, .ty _, .base (.int i), kit_ty (by decide +kernel), false, rfl, q⟩

/-! ### is_level -/
theorem sc_is_level : FnScope ["thing"] ["thing"] (defScope s_is_level) := ⟨rfl, rfl, rfl, by decide +kernel, rfl, by decide +kernel, by decide +kernel⟩
theorem bd_is_level {K : PySem.W.Frag} {mg : Str → Option Value} (T : Tx K mg) : Binds K (fdOf K (He.ga K "is_level")) ["thing"] [] := T.F_is_level.bindsN (fun _ _ _ _ _ _ us hl => match us, hl with | [_], _ => rfl)
def sp_is_level : Sp := fun vs H Q _ => ∃ i : Int, vs = [.int i] ∧ Bg.Lv i ∧ Q (.bl true) H
theorem ok_is_level (T : Tx K mg) : FO P w K mg base 2 (He.ga K "is_level") ["thing"] sp_is_level := by
  refine T.F_is_level.ok sc_is_level (fun vs H Q E h => ?_) (fun cdv A outer s H vs Q E hr h => ?_)
  · obtain ⟨i, rfl, _⟩ := h; rfl
  · obtain ⟨i, rfl, lv, q⟩ := h
    refine ⟨_, PSs.nox (pss_one (ps_ret (pe_and (pe_call (ok_is_integer T) (hr.mono (by decide)) rfl T.g_is_integer T.F_is_integer.kp (bd_is_integer T) .nil pass0 (pa_cons (pv 0) pa_nil)) (pe_one (pe_chain op_le op_le pe_int (pv 0) (pe_const T.i_MOST_LEVEL)))))), ?_⟩
    refine ⟨_, rfl, i, rfl, true, rfl, iteT ?_⟩
    refine ⟨_, rfl, 0, i, rfl, rfl, true, ?_, iteT ⟨i, 7, rfl, rfl, ?_⟩⟩
    · show V.bl (decide (0 ≤ i)) = V.bl true
      rw [decide_eq_true lv.1]
    · show Q (V.bl (decide (i ≤ 7))) H
      rw [decide_eq_true lv.2]
      exact q
end
end BgT
set_option Elab.async false
set_option linter.all false
set_option maxRecDepth 100000
set_option maxHeartbeats 4000000
namespace BgT
open PySem PySem.Spec PyProof.Rows L2
section
variable {P : Program} {w : World} {K : PySem.W.Frag} {mg : Str → Option Value} {base : Heap}
theorem nm_tab (k : Kind) : decide (V.str k.nm = V.str "table") = false := by cases k <;> decide +kernel
theorem nm_in (K : PySem.W.Frag) (k : Kind) : inV (V.str k.nm) (dKinds.map (He.Dv.v K)) = true := by
  show inV (V.str k.nm) [.str "always", .str "max", .str "min", .str "sum", .str "turn", .str "choose"] = true
  cases k <;> decide +kernel
/-! ### is_function -/
theorem sc_is_function : FnScope ["thing", "kind", "part", "entry"] ["thing"] (defScope s_is_function) := ⟨rfl, rfl, rfl, by decide +kernel, rfl, by decide +kernel, by decide +kernel⟩
theorem bd_is_function {K : PySem.W.Frag} {mg : Str → Option Value} (T : Tx K mg) : Binds K (fdOf K (He.ga K "is_function")) ["thing"] [] := T.F_is_function.bindsN (fun _ _ _ _ _ _ us hl => match us, hl with | [_], _ => rfl)
def sp_is_function : Sp := fun vs H Q _ => ∃ (v : V) (f : Fn), vs = [v] ∧ FnAt H v f ∧ f.Ok ∧ ∀ H', Same H H' → Q (.bl true) H'
theorem ok_is_function (T : Tx K mg) : FO P w K mg base 3 (He.ga K "is_function") ["thing"] sp_is_function := by
  refine T.F_is_function.ok sc_is_function (fun vs H Q E h => ?_) (fun cdv A outer s H vs Q E hr h => ?_)
  · obtain ⟨i, f, rfl, _⟩ := h; rfl
  · obtain ⟨v, f, rfl, hf, hok, q⟩ := h
    refine ⟨_, PSs.nox (pss_cons (ps_if (PW.pt (pw_or (pt_not (pt_val (pe_callB call_isi (by rfl) T.b_isinstance (by decide +kernel) (pa_cons (pv 0) (pa_cons (pe_bltn (v := .ty "tuple") (u := .type "tuple") (by rfl) T.b_tuple (by decide +kernel) rfl) pa_nil))))) (pw_or (pt_cmpR op_ne (pe_callB call_len_seq (by rfl) T.b_len (by decide +kernel) (pa_cons (pv 0) pa_nil)) pe_int (nomark _)) (pw_or1 (pt_not (pt_val (pe_callB call_isi (by rfl) T.b_isinstance (by decide +kernel) (pa_cons (pe_ix ix_tup (pv 0) pe_int (fun _ _ => rfl)) (pa_cons (pe_bltn (v := .ty "str") (u := .type "str") (by rfl) T.b_str (by decide +kernel) rfl) pa_nil)))))))))
 (pss_one (ps_ret pe_bl))
 pss_nil)
 (pss_cons (ps_asg (pv 0) (pg_tup rfl (pgs_cons (pg_name (i := 1) sc_is_function.nd rfl (Or.inl rfl)) (pgs_cons (pg_name (i := 2) sc_is_function.nd rfl (Or.inl rfl)) pgs_nil))))
 (pss_cons (ps_if (pt_cmpR op_eq (pv 1) pe_str (nomark _))
 (pss_one (ps_ret (pe_and (pe_callB call_isi (by rfl) T.b_isinstance (by decide +kernel) (pa_cons (pv 2) (pa_cons (pe_bltn (v := .ty "tuple") (u := .type "tuple") (by rfl) T.b_tuple (by decide +kernel) rfl) pa_nil))) (pe_and (pe_cmpR op_eq (pe_callB call_len_seq (by rfl) T.b_len (by decide +kernel) (pa_cons (pv 2) pa_nil)) (pe_const T.i_LEVELS) (nomark _)) (pe_one (pe_callB (cr_all rfl) (by rfl) T.b_all (by decide +kernel) (pa_cons (pe_lc (own := [("entry", 3)]) (g := gName 3) rfl sc_is_function.nd (pi_tup (pv 2)) (blkOk_by (own := [("entry", 3)]) (N := ["thing", "kind", "part", "entry"]) (sc := defScope s_is_function) (by decide +kernel)) (fun _ _ _ _ _ => (pg_name (i := 3) sc_is_function.nd rfl (by first | exact Or.inl rfl | exact Or.inr rfl))) (fun _ _ _ _ _ => pts_nil) (fun _ _ _ _ _ => (pe_call (ok_is_level T) (hr.mono (by decide)) rfl T.g_is_level T.F_is_level.kp (bd_is_level T) .nil pass0 (pa_cons (pv 3) pa_nil)))) pa_nil)))))))
 pss_nil)
 (pss_one (ps_ret (pe_and (pe_cmpR op_in_seq (pv 1) (pe_glob (v := .ref (He.ga K "KINDS")) rfl T.t_KINDS.1 rfl) (by rfl)) (pe_one (pe_call (ok_is_level T) (hr.mono (by decide)) rfl T.g_is_level T.F_is_level.kp (bd_is_level T) .nil pass0 (pa_cons (pv 2) pa_nil))))))))), ?_⟩
    cases f with
    | lev k c =>
      obtain ⟨a, rfl, ha⟩ := hf
      refine ⟨_, rfl, _, _, .type "tuple", .type "tuple", true, rfl, .ty _, .base (.tup ha), kit_ty (by decide +kernel), true, rfl, iteF ?_⟩
      refine ⟨_, rfl, a, _, rfl, .inr (SqT.of ha), rfl, _, rfl, iteNS rfl ?_⟩
      refine ⟨_, rfl, _, _, _, _, rfl, rfl, SqT.of ha, atI_nat (j := 0) rfl, _, _, .type "str", .type "str", true, rfl, .ty _, .base (.str _), kit_ty (by decide +kernel), true, rfl, iteF ?_⟩
      refine ⟨_, rfl, a, _, rfl, SqT.of ha, rfl, _, _, rfl, _, _, rfl, rfl, ?_⟩
      refine ⟨_, rfl, rfl, _, rfl, ?_⟩
      rw [nm_tab k]
      refine iteF ⟨_, rfl, _, _, rfl, .inr (T.t_KINDS.2 _), rfl, rfl, _, rfl, ?_⟩
      show if inV (V.str k.nm) (dKinds.map (He.Dv.v K)) = true then _ else _
      rw [nm_in]
      exact iteT ⟨_, rfl, c, rfl, hok, q _ (Same.refl H)⟩
    | tab t =>
      obtain ⟨a, b, rfl, ha, hb⟩ := hf
      refine ⟨_, rfl, _, _, .type "tuple", .type "tuple", true, rfl, .ty _, .base (.tup ha), kit_ty (by decide +kernel), true, rfl, iteF ?_⟩
      refine ⟨_, rfl, a, _, rfl, .inr (SqT.of ha), rfl, _, rfl, iteNS rfl ?_⟩
      refine ⟨_, rfl, _, _, _, _, rfl, rfl, SqT.of ha, atI_nat (j := 0) rfl, _, _, .type "str", .type "str", true, rfl, .ty _, .base (.str _), kit_ty (by decide +kernel), true, rfl, iteF ?_⟩
      refine ⟨_, rfl, a, _, rfl, SqT.of ha, rfl, _, _, rfl, _, _, rfl, rfl, ?_⟩
      refine ⟨_, rfl, rfl, _, rfl, ?_⟩
      rw [show decide (V.str "table" = V.str "table") = true from decide_eq_true rfl]
      refine iteT ⟨_, rfl, _, _, .type "tuple", .type "tuple", true, rfl, .ty _, .base (.tup hb), kit_ty (by decide +kernel), true, rfl, iteT ?_⟩
      refine ⟨_, rfl, b, _, rfl, .inr (SqT.of hb), rfl, true, ?_, iteT ?_⟩
      · show V.bl (decide (V.int (((t.map V.int).length : Nat) : Int) = V.int 8)) = V.bl true
        rw [decide_eq_true (by rw [List.length_map, hok.1]; rfl)]
      refine ⟨_, rfl, b, rfl, ⟨_, SqT.of hb⟩, fun D hD => ?_⟩
      have nb : b ≠ D := ne_of_none hb hD
      refine lc_tup (K := K) (a := b) (xs := t.map V.int) (fun i H' => H' = upd H D (.lst ((List.replicate i true).map V.bl))) rfl (fun i H' _ e => ?_) ?_ (fun H' e => ?_)
      · subst e; exact SqT.of (by rw [upd_ne nb]; exact hb)
      · intro i x H' hx e
        subst e
        rw [List.getElem?_map] at hx
        cases hy : t[i]? with
        | none => rw [hy] at hx; cases hx
        | some y =>
          rw [hy] at hx
          cases hx
          have hlt : i < 8 := by rw [← hok.1]; exact (List.getElem?_eq_some_iff.mp hy).1
          refine ⟨rfl, tyes ⟨_, rfl, y, rfl, hok.2 y (List.mem_of_getElem? hy), _, upd_same, ?_, ?_⟩⟩
          · show ((List.replicate i true).map V.bl).length < sizeLine
            rw [List.length_map, List.length_replicate]
            exact small1000 (by omega)
          · rw [upd_upd, List.replicate_succ']
            simp
      · subst e
        refine ⟨D, List.replicate (t.map V.int).length true, rfl, SqL.of upd_same, ?_⟩
        rw [show (List.replicate (t.map V.int).length true).all id = true by simp]
        exact q _ (same_upd hD)
end
end BgT
set_option Elab.async false
set_option linter.all false
set_option maxRecDepth 100000
set_option maxHeartbeats 4000000
namespace BgT
open PySem PySem.Spec PyProof.Rows L2
/-! ### sum(t) of a tuple of ints -/
section
variable {prog : Program} {w : World} {A : Around} {E : Value → Shared → Prop} {s : Shared} {l : Addr}
theorem iter_tup {items : Array Value} {Q : Value → Shared → Prop} (hl : s.heap.IsTuple l items)
    (h : ∀ s₂ : Shared, s₂ = { s with heap := s.heap.push { cls := .type "tuple_iterator", data := .fields #[.ref l, .int 0 0] } } →
      (s₂.heap.IsTupleIter s.heap.objs.size l 0 ∧ s₂.heap.IsTuple l items) → (∀ b ∈ [s.heap.objs.size, l], b < s₂.heap.objs.size) → l ≠ s.heap.objs.size → Q (.ref s.heap.objs.size) s₂) :
    wpAny (model prog w) A (pyIter (.ref l)) Q E s := by
  have hlt : l < s.heap.objs.size := by obtain ⟨_, e, _⟩ := hl; exact Heap.lt_size e
  refine wpAny_pyIter_tuple hl (h _ rfl ⟨⟨_, Heap.get?_push_size _ rfl, rfl, rfl⟩, hl.at fun o e => Heap.get?_push_of_some _ e⟩ (fun b hb => ?_) (Nat.ne_of_lt hlt))
  have hz : (s.heap.push { cls := .type "tuple_iterator", data := .fields #[.ref l, .int 0 0] }).objs.size = s.heap.objs.size + 1 := Heap.size_push ..
  show b < (s.heap.push { cls := .type "tuple_iterator", data := .fields #[.ref l, .int 0 0] }).objs.size
  rw [hz]
  have q : b = s.heap.objs.size ∨ b = l := by simpa using hb
  rcases q with q | q
  · rw [q]; exact Nat.lt_succ_self _
  · rw [q]; exact Nat.lt_succ_of_lt hlt
theorem sum_tup {its : List Value} {ns : List Int} {Q : Value → Shared → Prop} (hh : A.handled = none) (hl : s.heap.IsTuple l its.toArray) (hi : IntsAre its ns)
    (h : ∀ h' tk t', (∀ b o, s.heap.get? b = some o → h'.get? b = some o) → Q (.int ns.sum t') { s with heap := h', toks := tk }) : wpAny (model prog w) A (call (.builtin "sum") [.ref l]) Q E s := by
  obtain ⟨xs, e⟩ := hi.allInts.items
  have hn : numsOf (intItems xs).toList = ns := by rw [← e]; exact hi.numsOf
  rw [nums_intItems] at hn
  rw [e] at hl
  refine call_sum_walkG (iter_tup hl fun s₂ e st hfp hlI => ?_)
  subst e
  refine ⟨_, _, _, _, _, _, numAt xs, rfl, Walks.tuple (A := A.in1) hh _ l hlI (intItems xs), st, hfp, (fun _ _ => intItems_at), fun h' tk t' hk => ?_⟩
  have q := h h' tk t' fun b o e => hk b o (fun z => by
    have z' : b = s.heap.objs.size := by simpa using z
    exact Nat.lt_irrefl _ (by have := Heap.lt_size e; rw [z'] at this; exact this)) (Heap.get?_push_of_some _ e)
  have e1 : preSum (numAt xs) (intItems xs).size = ns.sum := by
    rw [preSum_eq, hn, List.take_of_length_le]
    rw [← hn]
    simp [intItems]
  rw [e1]
  exact q
end
section
variable {X : Cx}
theorem cr_sumT (hc : X.calm = true) : CallR X (.builtin "sum") fun vs H Q => ∃ (a : Addr) (ns : List Int), vs = [V.ref a] ∧ (SqL X.K H a (ns.map V.int) ∨ SqT X.K H a (ns.map V.int)) ∧ Q (.int ns.sum) H := by
  intro pins s σ H vs us Q I r h
  obtain ⟨a, ns, rfl, hs, q⟩ := h
  rcases hs with hs | hs
  · exact cr_sum hc pins s σ H _ us Q I r ⟨a, ns, rfl, hs, q⟩
  · obtain ⟨its, rv, hl, _⟩ := I.tuple hs
    rw [Vals.ref1 r]
    exact sum_tup (I.ok.hd hc) hl rv.ints fun h' tk t' hk => ⟨.int _, H, I.kept hk, ⟨_, rfl⟩, q⟩
end
/-! ### enumerate(t) of a tuple -/
theorem enumNew_tup (l : Addr) (items : Array Value) :
    Meets (Builtin.«enumerate.__new__» ⟨[.type "enumerate", .ref l], []⟩) (fun _ R s => s.heap.IsTuple l items ∧
      R (.ok (.ret (.ref (s.heap.push { cls := .type "tuple_iterator", data := .fields #[.ref l, .int 0 0] }).objs.size)))
        { s with heap := (s.heap.push { cls := .type "tuple_iterator", data := .fields #[.ref l, .int 0 0] }).push { cls := .type "enumerate", data := .fields #[.none, .bool false, .ref s.heap.objs.size, rawInt 0, .none, .none] } }) :=
  .of_wp fun prog w A R s h => by
    obtain ⟨hp, g, d, tk, os⟩ := s; obtain ⟨hl, h⟩ := h
    have hsub := sub_enumerate
    have hL : Heap.IsTuple (Shared.heap ⟨hp, g, d, tk, os⟩) l items := hl
    obtain ⟨o, ho, _⟩ := id hl
    wp_walk using AutoSeq1.wpAny_loadPart' ho
    refine wpAny_stack_any fun st => wpAny_pure ?_
    split
    · rename_i c _ _ _ _ _
      cases (c == Value.type "enumerate")
      · wp_walk using AutoSeq1.wpAny_loadPart' ho, wpAny_pyIter_tuple hL
        exact ⟨_, rfl, h⟩
      · wp_walk using AutoSeq1.wpAny_loadPart' ho, wpAny_pyIter_tuple hL
        exact ⟨_, rfl, h⟩
    · wp_walk using AutoSeq1.wpAny_loadPart' ho, wpAny_pyIter_tuple hL
      exact ⟨_, rfl, h⟩
section
variable {prog : Program} {w : World} {A : Around} {E : Value → Shared → Prop} {s : Shared}
theorem call_enumT {l : Addr} {items : Array Value} {Q : Value → Shared → Prop} (hL : s.heap.IsTuple l items)
    (h : ∀ h', IsEnum h' (s.heap.objs.size + 1) s.heap.objs.size 0 .none → h'.IsTupleIter s.heap.objs.size l 0 → h'.objs.size = s.heap.objs.size + 2 →
      (∀ b o, s.heap.get? b = some o → h'.get? b = some o) → Q (.ref (s.heap.objs.size + 1)) { s with heap := h' }) :
    wpAny (model prog w) A (call (.type "enumerate") [.ref l]) Q E s := by
  refine callType_new F.called_enumerate (by decide) (F.typeCall_enumerate_1 _) (F.newCall_enumerate_1 _) (fun obj => F.args_object_init_2 obj _) F.entry_enumerate_new
    (enumNew_tup l items) ⟨hL, ?_⟩
  have hz : (s.heap.push { cls := .type "tuple_iterator", data := .fields #[.ref l, .int 0 0] }).objs.size = s.heap.objs.size + 1 := Heap.size_push ..
  show _ ∧ _
  rw [hz]
  have he : IsEnum ((s.heap.push { cls := .type "tuple_iterator", data := .fields #[.ref l, .int 0 0] }).push
      { cls := .type "enumerate", data := .fields #[.none, .bool false, .ref s.heap.objs.size, rawInt 0, .none, .none] }) (s.heap.objs.size + 1) s.heap.objs.size 0 .none := by
    have := Heap.get?_push_size (s.heap.push { cls := .type "tuple_iterator", data := .fields #[.ref l, .int 0 0] })
      (o := { cls := .type "enumerate", data := .fields #[.none, .bool false, .ref s.heap.objs.size, rawInt 0, .none, .none] }) rfl
    rw [hz] at this; exact this
  exact ⟨⟨_, he, rfl⟩, h _ he ⟨_, Heap.get?_push_of_some _ (Heap.get?_push_size _ rfl), rfl, rfl⟩ (by rw [Heap.size_push, hz]) fun b o x => Heap.get?_push_of_some _ (Heap.get?_push_of_some _ x)⟩
end
/-- the tuple at a, each item in a new pair -/
def ItE (K : PySem.W.Frag) (a : Addr) : It :=
  ⟨fun i H => ∃ (xs : List V) (x : V), SqT K H a xs ∧ xs[i]? = some x, fun i H v H' => ∃ T x, v = .ref T ∧ H T = none ∧ H' = upd H T (.tup [.int (i : Nat), x]) ∧ ∀ xs, SqT K H a xs → xs[i]? = some x, fun i H => ∃ xs : List V, SqT K H a xs ∧ xs.length ≤ i⟩
theorem turn_enumT {P : Program} {w : World} {K : PySem.W.Frag} {elts : List Expr} {kk : Nat} {tpos : Pos} (a e it : Addr) :
    Turn P w K (.Tuple elts kk tpos) (ItE K a) [e, it] e (fun i h => (∃ old, IsEnum h e it ((i : Nat) : Int) old) ∧ h.IsTupleIter it a i ∧ e ≠ it ∧ a ≠ it ∧ a ≠ e) where
  mem := by simp
  obj := fun i h st b hb => by
    obtain ⟨⟨old, he⟩, ⟨o, ho, hc, hd⟩, _⟩ := st
    have e' : b = e ∨ b = it := by simpa using hb
    rcases e' with z | z
    · rw [z]; exact ⟨_, he, fun v q => nomatch q⟩
    · rw [z]; exact ⟨o, ho, fun v q => by rw [hd] at q; cases q⟩
  keep := fun i h h' st k => let ⟨⟨old, he⟩, hi, hne⟩ := st; ⟨⟨old, k e (by simp) _ he⟩, hi.at fun o q => k it (by simp) o q, hne⟩
  item := by
    intro X hP hw hK hc i pins s σ H E I hf st hg
    subst hP hw hK
    obtain ⟨⟨old, he⟩, hit, hne, hai, hae⟩ := st
    obtain ⟨xs, x, hq, hx⟩ := hg
    obtain ⟨its, rv, p, hz⟩ := I.tuple hq
    obtain ⟨u, hu, ru⟩ := rv.get hx
    have hel : e < s.heap.objs.size := Heap.lt_size he
    have hil : it < s.heap.objs.size := by obtain ⟨_, q, _⟩ := hit; exact Heap.lt_size q
    have hil2 : i < its.toArray.size := by
      have := (List.getElem?_eq_some_iff.mp hu).1
      simpa using this
    refine wpAny_pyNext_enum_itemD (Draws.tuple (A := X.A.in1) (I.ok.hd hc) it a hai its.toArray) he ⟨hit, p⟩ hil2 hne (by simp [hne, hae.symm]) fun y h' tk hP ho hst hT hsz hk => ?_
    have ey : y = u := by
      have : its[i]? = some y := by simpa using hP
      rw [hu] at this
      exact (Option.some.inj this).symm
    subst ey
    refine ⟨_, rfl, wpAny_letOwnedTupleGo_enum (s := { s with heap := h', toks := tk + 1 }) ho fun h'' he' sb => ?_⟩
    have hT2 : h''.get? s.heap.objs.size = some { cls := .type "tuple", data := .seq #[.int i tk, y] } := (sb.2 _ (Nat.ne_of_gt hel)).trans hT
    have new : ObjOk X.prog X.w (upd H s.heap.objs.size (.tup [.int (i : Nat), x])) h'' s.heap.objs.size (.tup [.int (i : Nat), x]) :=
      ⟨by show 2 ≤ sizeLine; decide, [.int i tk, y], .cons ⟨_, rfl⟩ (.cons ru .nil), ⟨_, hT2, rfl, _, rfl⟩⟩
    have I1 : Inv X pins σ (upd H s.heap.objs.size (.tup [.int (i : Nat), x])) { s with heap := h'', toks := tk + 1 } :=
      I.turnedNew (ch := [e, it]) (fun b ob hb q => (sb.2 b (fun z => hb (by simp [z]))).trans (hk b ob (fun z => hb (by simp [z])) (fun z => hb (by simp [z])) q)) hf (Nat.le_refl _) new
    refine ⟨.ref s.heap.objs.size, _, I1, rfl, ⟨_, x, rfl, I.hok.fresh (Nat.le_refl _), rfl, fun ys hy => by rw [I.tuple_inj hy hq]; exact hx⟩, ⟨⟨y, ?_⟩, hst.1.at fun o q => (sb.2 it (Ne.symm hne)).trans q, hne, hai, hae⟩, fun b hb => ?_⟩
    · have e1 : ((i + 1 : Nat) : Int) = (i : Int) + 1 := by omega
      rw [e1]; exact he'
    · have hb' : b < s.heap.objs.size := by
        have e' : b = e ∨ b = it := by simpa using hb
        rcases e' with z | z
        · rw [z]; exact hel
        · rw [z]; exact hil
      rw [upd_ne (Nat.ne_of_lt hb')]
      exact (hf b hb).1
  done := by
    intro X hP hw hK hc i pins s σ H E I hf st hg
    subst hP hw hK
    obtain ⟨⟨old, he⟩, hit, hne, hai, hae⟩ := st
    obtain ⟨xs, hq, hx⟩ := hg
    obtain ⟨its, rv, p, hz⟩ := I.tuple hq
    obtain ⟨f0, f1, f2, f3, f4, f5⟩ := hf it (by simp)
    have hl := rv.length
    obtain ⟨o, ho, hc1, hd1⟩ := id hit
    have hT : s.TypeIs (.ref e) "enumerate" := ⟨_, he, rfl⟩
    unfold pyNext
    refine wpAny_bind (wpAny_attempt (wpAny_callSpecial?_slot (name := Str.ofString "__next__") hT F.slot_enumerate_next
      (wpAny_call_entry F.slot_enumerate_next hT F.entry_enumerate_next ?_ (F.args_enumerate_next_1 _))))
    show wpAny _ _ (field (.ref e) 2 >>= _) _ _ _
    refine wpAny_bind (wpAny_field he rfl (x := .ref it) rfl ?_)
    refine wpAny_bind (wpAny_nextOf_tuple_end (I.ok.hd hc) hit p (by simp; omega) fun h' x he' hx' => ?_)
    obtain ⟨o, ho, hc⟩ := hx'
    refine wpAny_bind (wpAny_isInstance (T := "StopIteration") (b := true) ⟨o, ho, hc⟩ isSubtype_stop ?_)
    exact wpAny_pure ⟨rfl, I.turned (t' := s.toks) (fun b o hb q => he' b o hb q) f0 f1 f3 f4 f5⟩
  self := fun A i s Q E st h => let ⟨⟨_, he⟩, _⟩ := st; wpAny_pyIter_enum he h
def iEnT (K : PySem.W.Frag) (ta : TA) : TI := fun σ H R => ta σ H fun vs H1 => ∃ a xs, vs = [.ref a] ∧ SqT K H1 a xs ∧ R (ItE K a) H1
theorem pi_enumT {X : Cx} {e : Expr} {ta : TA} {p pos tpos : Pos} {elts : List Expr} {kk : Nat} (hg : Gl X "enumerate") (hm : X.mg "enumerate" = none) (ha : PA X [e] ta) (hs : starEach [e] X.env = [(false, eval e X.env)] := by rfl) :
    PI X (.Tuple elts kk tpos) (.Call (.Name "enumerate" p) [e] [] pos) (iEnT X.K ta) := by
  refine ⟨fun pins s σ H R I h => ?_⟩
  refine Call_ (ld_blt I hg hm boot_enumerate (PyProof.Rows.callWith_type1 (thn (ha.run pos pins s σ H _ I h) fun us s1 ⟨vs, H1, I1, r1, q1⟩ => ?_) hs rfl))
  obtain ⟨a, xs, ex, hq, q⟩ := q1
  subst ex
  cases r1 with
  | cons r rr =>
    cases rr
    cases r
    obtain ⟨its, rv, p', hz⟩ := I1.tuple hq
    have hal : a < s1.heap.objs.size := by obtain ⟨_, e, _⟩ := p'; exact Heap.lt_size e
    refine call_enumT p' fun h' he hit hsz hk => wpAny_pyIter_enum he ?_
    have I2 : Inv X pins σ H1 { s1 with heap := h' } := I1.kept (t' := s1.toks) hk
    refine ⟨s1.heap.objs.size + 1, [s1.heap.objs.size + 1, s1.heap.objs.size], _, _, H1, rfl, I2, turn_enumT a (s1.heap.objs.size + 1) s1.heap.objs.size, ⟨⟨.none, he⟩, hit, Nat.succ_ne_self _, Nat.ne_of_lt hal, Nat.ne_of_lt (Nat.lt_succ_of_lt hal)⟩, fun b hb => ?_, q⟩
    have e' : b = s1.heap.objs.size + 1 ∨ b = s1.heap.objs.size := by simpa using hb
    have hle : s1.heap.objs.size ≤ b := by
      rcases e' with z | z
      · rw [z]; exact Nat.le_add_right _ _
      · rw [z]; exact Nat.le_refl _
    exact I1.fpOk hle (I1.hok.fresh hle)
theorem walk_enumT {K : PySem.W.Frag} {a : Addr} {xs : List V} : Walk (ItE K a) xs.length (fun H => SqT K H a xs) (YPair (fun i => some (.int (i : Nat))) (fun i => xs[i]?)) := by
  refine ⟨fun i _ hi q => ⟨xs, xs[i], q, by simp [hi]⟩, fun _ q => ⟨xs, q, Nat.le_refl _⟩, fun i H v H' _ q y => ?_⟩
  obtain ⟨T, x, h1, h2, h3, h4⟩ := y
  exact ⟨T, .int (i : Nat), x, h1, h2, h3, rfl, h4 xs q⟩
/-! ### len(o) by an own __len__ -/
section
variable {X : Cx} {k : Nat} {C g : Addr} {fd : FuncData} {sp : Sp}
theorem call_lenOwn (hr : Room (k + 1) X.A) (hs : PySem.W.findIn X.K (.ref C) "__len__" = some (some (.ref g))) (hf : PySem.W.isFn X.K (.ref g) = true) (c : Cls X.K C)
    (F : FnOk X.prog X.w X.K X.mg X.base CX0 k g fd ["self"] sp) (hb : Binds X.K fd ["self"] []) :
    CallR X (.builtin "len") fun vs H Q => ∃ a dx fs, vs = [V.ref a] ∧ H a = some (.ins C dx fs) ∧ sp [.ref a] H (fun v H' => ∃ n : Nat, v = .int (n : Int) ∧ (n : Int) < 2 ^ 63 ∧ Q (.int (n : Int)) H') E0 := by
  intro pins s σ H vs us Q I r h
  obtain ⟨a, dx, fs, rfl, ha, h⟩ := h
  rw [Vals.ref1 r]
  obtain ⟨mA, O, _⟩ := ins_get I.hok ha
  obtain ⟨od, J, _⟩ := O.look
  obtain ⟨m, Fm⟩ := I.fr
  refine PySem.W.len_K (h₀ := X.base) Fm I.ok.mod.kin J hs hf ?_
  refine wpAny_call (codeAny_mono (F.run X.A.in1 X.stack s H ⟨[.ref a], []⟩ [.ref a] [.ref a] _ E0 hr.in1 I.env0.in1 (hb s [.ref a] I.kIn rfl) (.cons rfl .nil) h) fun r s' hq => ?_)
  cases r with
  | error e => exact hq.elim
  | ok fl =>
    cases fl with
    | ret u =>
      obtain ⟨v, H', I', rv, n, ev, hn, q⟩ := I.after hq
      subst ev
      obtain ⟨t, rfl⟩ := rv
      exact ⟨⟨by omega, hn⟩, ⟨.int n, H', I'.tok _, ⟨_, rfl⟩, q⟩⟩
    | next => exact False.elim hq
    | brk => exact False.elim hq
    | cont => exact False.elim hq
end
end BgT
set_option Elab.async false
set_option linter.all false
set_option maxRecDepth 100000
set_option maxHeartbeats 4000000
namespace BgT
open PySem PySem.Spec PyProof.Rows L2
/-! ### match over written texts -/
structure PM (X : Cx) (cases : List MatchCase) (t : Str → TS) : Prop where
  run : ∀ (pins : List (Addr × Obj)) (s : Shared) (σ : L2.St) (H : Hp) (D : Ends) (y : Str) (u : Value) (first : Bool), Inv X pins σ H s → RelV (.str y) u → t y D σ H →
    wpAny (model X.prog X.w) X.A (matchCases cases X.env u first) (SP X pins D) X.xe s
section
variable {X : Cx}
def tmNil : Str → TS := fun _ D σ H => D.nx σ H
def tmCons (z : Str) (t : TS) (r : Str → TS) : Str → TS := fun y D σ H => if decide (V.str y = V.str z) = true then t D σ H else r y D σ H
theorem pm_nil : PM X [] tmNil := ⟨fun _ _ σ H _ _ _ _ I _ h => wpAny_matchCases_nil ⟨σ, H, I, h⟩⟩
theorem pm_cons {z : Str} {j : Nat} {p p2 : Pos} {body : List Stmt} {rest : List MatchCase} {t : TS} {r : Str → TS} (hb : PSs X body t) (hr : PM X rest r) :
    PM X (⟨.MatchValue (.Constant (.str z) j p) p2, none, body⟩ :: rest) (tmCons z t r) := by
  refine ⟨fun pins s σ H D y u first I ru h => ?_⟩
  refine wpAny_matchCases_cons (wpAny_matchPattern_Value (Calls.Constant_str ?_))
  refine thn (op_eq pins _ σ H (.str y) (.str z) u _ (fun v H' => v = .bl (decide (V.str y = V.str z)) ∧ H' = H) (I.tok _) ru ⟨_, rfl⟩ ⟨rfl, rfl, rfl⟩) fun c s2 ⟨v, H', I2, rv, ev, eH⟩ => ?_
  subst ev eH
  cases rv
  have h' : if decide (V.str y = V.str z) = true then t D σ H' else r y D σ H' := h
  refine wpAny_truthy_bool ?_
  by_cases q : V.str y = V.str z
  · rw [if_pos (decide_eq_true q)] at h' ⊢
    exact assignInOrder_nil (hb.run pins s2 σ H' D I2 h')
  · have q' : ¬ decide (V.str y = V.str z) = true := by simpa using q
    rw [if_neg q'] at h' ⊢
    exact hr.run pins s2 σ H' D y u false I2 ru h'
def tMatch (te : TE) (t : Str → TS) : TS := fun D σ H => te σ H fun x H1 => ∃ y, x = .str y ∧ t y D σ H1
theorem ps_match {subject : Expr} {cases : List MatchCase} {pos : Pos} {te : TE} {t : Str → TS} (he : PE X subject te) (hm : PM X cases t) : PS X (.Match subject cases pos) (tMatch te t) := by
  refine ⟨fun pins s σ H D I h => ?_⟩
  refine wpAny_Match (thn (he.run pins s σ H _ I h) fun u s1 ⟨x, H1, I1, r1, y, ex, q⟩ => ?_)
  subst ex
  exact hm.run pins s1 σ H1 D y u true I1 r1 q
end
/-! ### a def with a star parameter -/
section
variable {P : Program} {w : World} {K : PySem.W.Frag} {mg : Str → Option Value} {base : Heap} {x qual : Str} {st : Stmt} {f : Addr}
def spStar (n : Nat) (sp : Sp) : Sp := fun vs H Q E => ∃ ws rest, vs = ws ++ rest ∧ ws.length = n ∧ rest.length ≤ sizeLine ∧ ∀ p, H p = Option.none → sp (ws ++ [V.ref p]) (upd H p (.tup rest)) Q E
theorem okStar {N : List Str} {k : Nat} {sp : Sp} {pa pv : Str} (F : FnP K x qual st [] [] f) (S : FnScope N [pa, pv] (defScope st))
    (h0 : ∀ (kV doc pm : Value) (an : Option Addr) (cdv ct : Value) (a : Value), bindArgs (PySem.W.fnOf x qual (defArgs st) (defBody st) (defScope st) .none kV doc pm an cdv ct) ⟨[a], []⟩ = (newTuple [] >>= fun t => pure [(pa, a), (pv, t)]))
    (h1 : ∀ (kV doc pm : Value) (an : Option Addr) (cdv ct : Value) (a r : Value) (rs : List Value), bindArgs (PySem.W.fnOf x qual (defArgs st) (defBody st) (defScope st) .none kV doc pm an cdv ct) ⟨a :: r :: rs, []⟩ = (newTuple (r :: rs) >>= fun t => pure [(pa, a), (pv, t)]))
    (hbody : ∀ (cdv : Value) (A : Around) (outer : List Env) (s : Shared) (H : Hp) (vs : List V) (Q : VK) (E : XK), Room k (A.deeper (envOfC qual (defScope st) s.heap.objs.size f cdv)) → sp vs H Q E →
      ∃ t, PSs (cxOf CX0 P w K mg base N qual (defScope st) f cdv A outer s H E) (defBody st) t ∧ t { nx := fun _ H' => Q .non H', rt := Q } (L2.start N vs) H) :
    FnR P w K mg base CX0 (k + 1) f (spStar 1 sp) := by
  obtain ⟨oc, od, dV, kV, doc, pm, an, cdv, ct, osl, e, lk, hcd, hD, _⟩ := F.ex
  rcases hD with ⟨_, rfl⟩ | ⟨q, _⟩
  · rw [e] at lk
    exact StX.fn_star (ps := [pa]) (pv := pv) lk hcd S StX.cxUp_none (StX.bind_star1 (B := fun us => bindArgs (PySem.W.fnOf x qual (defArgs st) (defBody st) (defScope st) .none kV doc pm an cdv ct) ⟨us, []⟩) (h0 kV doc pm an cdv ct) (h1 kV doc pm an cdv ct)) fun A outer s H vs Q E hr hsp => hbody cdv A outer s H vs Q E hr hsp
  · exact absurd rfl q
end
end BgT
set_option Elab.async false
set_option linter.all false
set_option maxRecDepth 100000
set_option maxHeartbeats 4000000
namespace BgT
open PySem PySem.Spec PyProof.Rows L2
section
variable {P : Program} {w : World} {K : PySem.W.Frag} {mg : Str → Option Value} {base : Heap}
/-- a list or a tuple of these -/
def SeqOf (K : PySem.W.Frag) (H : Hp) (a : Addr) (xs : List V) : Prop := SqL K H a xs ∨ SqT K H a xs
/-! ### capped_sum -/
theorem sc_capped_sum : FnScope ["values"] ["values"] (defScope s_capped_sum) := ⟨rfl, rfl, rfl, by decide +kernel, rfl, by decide +kernel, by decide +kernel⟩
theorem bd_capped_sum {K : PySem.W.Frag} {mg : Str → Option Value} (T : Tx K mg) : Binds K (fdOf K (He.ga K "capped_sum")) ["values"] [] := T.F_capped_sum.bindsN (fun _ _ _ _ _ _ us hl => match us, hl with | [_], _ => rfl)
def sp_capped_sum (K : PySem.W.Frag) : Sp := fun vs H Q _ => ∃ (a : Addr) (ns : List Int), vs = [.ref a] ∧ SeqOf K H a (ns.map V.int) ∧ Q (.int (cap ns)) H
theorem ok_capped_sum (T : Tx K mg) : FO P w K mg base 1 (He.ga K "capped_sum") ["values"] (sp_capped_sum K) := by
  refine T.F_capped_sum.ok sc_capped_sum (fun vs H Q E h => ?_) (fun cdv A outer s H vs Q E hr h => ?_)
  · obtain ⟨i, f, rfl, _⟩ := h; rfl
  · obtain ⟨a, ns, rfl, hs, q⟩ := h
    refine ⟨_, PSs.nox (pss_one (ps_ret (pe_callB (call_min2 rfl) (by rfl) T.b_min (by decide +kernel) (pa_cons (pe_const T.i_MOST_LEVEL) (pa_cons (pe_callB (cr_sumT rfl) (by rfl) T.b_sum (by decide +kernel) (pa_cons (pv 0) pa_nil)) pa_nil))))), ?_⟩
    exact ⟨_, rfl, a, ns, rfl, hs, 7, ns.sum, rfl, q⟩
/-! ### turned -/
theorem turnSum_eq : ∀ (ns : List Int) (i : Nat), turnSum i ns = ((ns.zipIdx i).map fun p => ((p.2 : Int) + 1) * p.1).sum
  | [], _ => rfl
  | v :: vs, i => by
    simp only [turnSum, List.zipIdx_cons, List.map_cons, List.sum_cons]
    rw [turnSum_eq vs (i + 1)]
theorem sc_turned : FnScope ["start", "values", "index", "value"] ["start", "values"] (defScope s_turned) := ⟨rfl, rfl, rfl, by decide +kernel, rfl, by decide +kernel, by decide +kernel⟩
theorem bd_turned {K : PySem.W.Frag} {mg : Str → Option Value} (T : Tx K mg) : Binds K (fdOf K (He.ga K "turned")) ["start", "values"] [] := T.F_turned.bindsN (fun _ _ _ _ _ _ us hl => match us, hl with | [_, _], _ => rfl)
def sp_turned : Sp := fun vs H Q _ => ∃ (c : Int) (a : Addr) (ns : List Int), vs = [.int c, .ref a] ∧ H a = some (.tup (ns.map V.int)) ∧ ns.length ≤ 8 ∧ ∀ H', Same H H' → Q (.int ((c + turnSum 0 ns).fmod 8)) H'
theorem ok_turned (T : Tx K mg) : FO P w K mg base 1 (He.ga K "turned") ["start", "values"] sp_turned := by
  refine T.F_turned.ok sc_turned (fun vs H Q E h => ?_) (fun cdv A outer s H vs Q E hr h => ?_)
  · obtain ⟨c, a, ns, rfl, _⟩ := h; rfl
  · obtain ⟨c, a, ns, rfl, ha, hl, q⟩ := h
    refine ⟨_, PSs.nox (pss_one (ps_ret (pe_op op_modN (pe_op op_add (pv 0) (pe_callB (cr_sum rfl) (by rfl) T.b_sum (by decide +kernel) (pa_cons (pe_lc (own := [("index", 2), ("value", 3)]) (g := gTup K 2 (gCons (gName 2) (gCons (gName 3) gNil))) rfl sc_turned.nd (pi_enumT (by rfl) T.b_enumerate (pa_cons (pv 1) pa_nil)) (blkOk_by (own := [("index", 2), ("value", 3)]) (N := ["start", "values", "index", "value"]) (sc := defScope s_turned) (by decide +kernel)) (fun _ _ _ _ _ => (pg_tup rfl (pgs_cons (pg_name (i := 2) sc_turned.nd rfl (by first | exact Or.inl rfl | exact Or.inr rfl)) (pgs_cons (pg_name (i := 3) sc_turned.nd rfl (by first | exact Or.inl rfl | exact Or.inr rfl)) pgs_nil)))) (fun _ _ _ _ _ => pts_nil) (fun _ _ _ _ _ => (pe_op op_mul (pe_op op_add (pv 2) pe_int) (pv 3)))) pa_nil))) (pe_const T.i_LEVELS)))), ?_⟩
    refine ⟨_, rfl, _, rfl, a, ns.map V.int, rfl, SqT.of ha, fun D hD => ?_⟩
    have na : a ≠ D := ne_of_none ha hD
    refine lc_it (walk_enumT (K := K) (a := a) (xs := ns.map V.int)) (fun i H' => Same H H' ∧ H' D = some (.lst ((((ns.take i).zipIdx 0).map fun p => ((p.2 : Int) + 1) * p.1).map V.int)))
      ⟨same_upd hD, upd_same⟩ (fun i H' _ h => SqT.of (h.1 _ _ ha)) ?_ ?_
    · rintro i x H1 H2 hi ⟨s1, h1⟩ ⟨T', x1, x2, rfl, hT, rfl, e1, e2⟩
      rw [List.length_map] at hi
      have hlt : i < 8 := by omega
      obtain ⟨y, hy⟩ : ∃ y, ns[i]? = some y := ⟨ns[i], List.getElem?_eq_getElem hi⟩
      have e1' : x1 = .int (i : Int) := by cases e1; rfl
      have e2' : x2 = .int y := by
        have e2 : (ns.map V.int)[i]? = some x2 := e2
        rw [List.getElem?_map, hy] at e2; cases e2; rfl
      subst e1' e2'
      have nT : D ≠ T' := ne_of_none h1 hT
      refine ⟨_, _, rfl, SqT.of upd_same, rfl, _, _, rfl, _, _, rfl, rfl, rfl, tyes ?_⟩
      refine ⟨_, rfl, _, _, rfl, rfl, _, rfl, _, _, rfl, rfl, Or.inl ⟨by omega, by omega⟩, ?_⟩
      refine ⟨_, (by rw [upd_ne nT]; exact h1), ?_, sameN (s1.trans (same_upd hT)) hD, ?_⟩
      · rw [List.length_map, List.length_map, List.length_zipIdx, List.length_take]
        exact small1000 (by omega)
      · rw [upd_same, List.take_add_one, hy]
        simp [List.zipIdx_append, Nat.min_eq_left (Nat.le_of_lt hi)]
    · rintro H' ⟨s1, h1⟩
      rw [List.length_map, List.take_length] at h1
      refine ⟨D, _, rfl, SqL.of h1, _, _, rfl, rfl, _, _, rfl, rfl, (by show (8 : Int) ≠ 0; decide), ?_⟩
      rw [← turnSum_eq]
      exact q _ s1
/-! ### value_of -/
theorem foldMax_mem : ∀ (xs : List Int) (c : Int), xs.foldl (fun a b => if b > a then b else a) c ∈ c :: xs ∧ ∀ y ∈ c :: xs, y ≤ xs.foldl (fun a b => if b > a then b else a) c
  | [], c => ⟨by simp, by simp⟩
  | x :: xs, c => by
    rw [List.foldl_cons]
    obtain ⟨h1, h2⟩ := foldMax_mem xs (if x > c then x else c)
    have hh := h2 (if x > c then x else c) (by simp)
    refine ⟨?_, fun y hy => ?_⟩
    · rcases List.mem_cons.mp h1 with e | e
      · rw [e]; by_cases q : x > c <;> simp [q]
      · simp [e]
    · by_cases q : x > c
      · rw [if_pos q] at hh h2 ⊢
        rcases List.mem_cons.mp hy with rfl | hy
        · omega
        · exact h2 y hy
      · rw [if_neg q] at hh h2 ⊢
        rcases List.mem_cons.mp hy with rfl | hy
        · exact hh
        · rcases List.mem_cons.mp hy with rfl | hy
          · omega
          · exact h2 y (by simp [hy])
theorem foldMin_mem : ∀ (xs : List Int) (c : Int), xs.foldl (fun a b => if b < a then b else a) c ∈ c :: xs ∧ ∀ y ∈ c :: xs, xs.foldl (fun a b => if b < a then b else a) c ≤ y
  | [], c => ⟨by simp, by simp⟩
  | x :: xs, c => by
    rw [List.foldl_cons]
    obtain ⟨h1, h2⟩ := foldMin_mem xs (if x < c then x else c)
    have hh := h2 (if x < c then x else c) (by simp)
    refine ⟨?_, fun y hy => ?_⟩
    · rcases List.mem_cons.mp h1 with e | e
      · rw [e]; by_cases q : x < c <;> simp [q]
      · simp [e]
    · by_cases q : x < c
      · rw [if_pos q] at hh h2 ⊢
        rcases List.mem_cons.mp hy with rfl | hy
        · omega
        · exact h2 y hy
      · rw [if_neg q] at hh h2 ⊢
        rcases List.mem_cons.mp hy with rfl | hy
        · exact hh
        · rcases List.mem_cons.mp hy with rfl | hy
          · omega
          · exact h2 y (by simp [hy])
theorem sum_nn : ∀ (xs : List Int), (∀ x ∈ xs, Bg.Lv x) → 0 ≤ xs.sum
  | [], _ => by simp
  | x :: xs, h => by
    have := sum_nn xs fun y hy => h y (by simp [hy])
    have := (h x (by simp)).1
    simp only [List.sum_cons]
    omega
theorem cap_lv {xs : List Int} (h : ∀ x ∈ xs, Bg.Lv x) : Bg.Lv (cap xs) := by
  have := sum_nn xs h
  unfold cap
  by_cases q : xs.sum < 7
  · rw [if_pos q]; exact ⟨this, by omega⟩
  · rw [if_neg q]; exact ⟨by omega, by omega⟩
theorem fmod_lv {a : Int} {n : Int} (h : 0 < n) : 0 ≤ a.fmod n ∧ a.fmod n < n := by
  rw [Int.fmod_eq_emod_of_nonneg a (by omega)]
  exact ⟨Int.emod_nonneg a (by omega), Int.emod_lt_of_pos a h⟩
theorem getD_lv {xs : List Int} {i : Nat} (h : ∀ x ∈ xs, Bg.Lv x) (hi : i < xs.length) : Bg.Lv (xs.getD i 0) := by
  rw [List.getD_eq_getElem?_getD, List.getElem?_eq_getElem hi]
  exact h _ (List.getElem_mem hi)
theorem valF_lv {f : Fn} {xs : List Int} (hf : f.Ok) (h : ∀ x ∈ xs, Bg.Lv x) : Bg.Lv (valF f xs) := by
  cases f with
  | tab t =>
    show Bg.Lv (t.getD (cap xs).toNat 0)
    have := cap_lv h
    exact getD_lv hf.2 (by rw [hf.1]; obtain ⟨h1, h2⟩ := this; omega)
  | lev k c =>
    have hc : Bg.Lv c := hf
    have hcx : ∀ y ∈ c :: xs, Bg.Lv y := fun y hy => by
      rcases List.mem_cons.mp hy with rfl | hy
      · exact hc
      · exact h y hy
    cases k with
    | always => exact hc
    | max => exact hcx _ (foldMax_mem xs c).1
    | min => exact hcx _ (foldMin_mem xs c).1
    | sum => exact cap_lv hcx
    | turn =>
      have := fmod_lv (a := c + turnSum 0 xs) (n := 8) (by decide)
      exact ⟨this.1, by show (c + turnSum 0 xs).fmod 8 ≤ 7; omega⟩
    | choose =>
      cases xs with
      | nil => exact hc
      | cons v vs =>
        show Bg.Lv ((v :: vs).getD (v.fmod ((v :: vs).length : Int)).toNat 0)
        have := fmod_lv (a := v) (n := ((v :: vs).length : Int)) (by simp)
        exact getD_lv h (by omega)
theorem nm_eq (k j : Kind) : decide (V.str k.nm = V.str j.nm) = decide (k.nm = j.nm) := by simp
theorem sc_value_of : FnScope ["function", "values", "kind", "part"] ["function", "values"] (defScope s_value_of) := ⟨rfl, rfl, rfl, by decide +kernel, rfl, by decide +kernel, by decide +kernel⟩

def sp_value_of : Sp := fun vs H Q _ => ∃ (v : V) (f : Fn) (p : Addr) (xs : List Int), vs = [v, .ref p] ∧ FnAt H v f ∧ f.Ok ∧ H p = some (.tup (xs.map V.int)) ∧ xs.length ≤ 8 ∧ (∀ x ∈ xs, Bg.Lv x) ∧ ∀ H', Same H H' → Q (.int (valF f xs)) H'
theorem ok_value_of (T : Tx K mg) : FnR P w K mg base CX0 3 (He.ga K "value_of") (spStar 1 sp_value_of) := by
  refine okStar T.F_value_of sc_value_of (fun _ _ _ _ _ _ _ => rfl) (fun _ _ _ _ _ _ _ _ _ => rfl) (fun cdv A outer s H vs Q E hr h => ?_)
  · obtain ⟨v, f, p, xs, rfl, hf, hok, hp, hl, hlv, q⟩ := h
    refine ⟨_, PSs.nox (pss_cons (ps_asg (pv 0) (pg_tup rfl (pgs_cons (pg_name (i := 2) sc_value_of.nd rfl (Or.inl rfl)) (pgs_cons (pg_name (i := 3) sc_value_of.nd rfl (Or.inl rfl)) pgs_nil))))
 (pss_cons (ps_match (pv 2)
 (pm_cons (pss_one (ps_ret (pv 3)))
 (pm_cons (pss_one (ps_ret (pe_callB (cr_max rfl) (by rfl) T.b_max (by decide +kernel) (pa_cons (pe_lst (pa_cons (pv 3) (StX.pa_star (pv 1) pa_nil))) pa_nil))))
 (pm_cons (pss_one (ps_ret (pe_callB (cr_min rfl) (by rfl) T.b_min (by decide +kernel) (pa_cons (pe_lst (pa_cons (pv 3) (StX.pa_star (pv 1) pa_nil))) pa_nil))))
 (pm_cons (pss_one (ps_ret (pe_call (ok_capped_sum T) (hr.mono (by decide)) rfl T.g_capped_sum T.F_capped_sum.kp (bd_capped_sum T) .nil pass0 (pa_cons (pe_lst (pa_cons (pv 3) (StX.pa_star (pv 1) pa_nil))) pa_nil))))
 (pm_cons (pss_one (ps_ret (pe_call (ok_turned T) (hr.mono (by decide)) rfl T.g_turned T.F_turned.kp (bd_turned T) .nil pass0 (pa_cons (pv 3) (pa_cons (pv 1) pa_nil)))))
 (pm_cons (pss_one (ps_ret (pe_ix ix_tup (pv 3) (pe_call (ok_capped_sum T) (hr.mono (by decide)) rfl T.g_capped_sum T.F_capped_sum.kp (bd_capped_sum T) .nil pass0 (pa_cons (pv 1) pa_nil)) (fun _ _ => rfl))))
 pm_nil)))))))
 (pss_one (ps_ret (pe_ifExp (pt_cmpR op_gt (pe_callB call_len_seq (by rfl) T.b_len (by decide +kernel) (pa_cons (pv 1) pa_nil)) pe_int (nomark _)) (pe_ix ix_tup (pv 1) (pe_op op_modN (pe_ix ix_tup (pv 1) pe_int (fun _ _ => rfl)) (pe_callB call_len_seq (by rfl) T.b_len (by decide +kernel) (pa_cons (pv 1) pa_nil))) (fun _ _ => rfl)) (pv 3)))))), ?_⟩
    have hsum : ∀ (c : Int) (H' : Hp) (D : Addr), H' D = none → SqL K (upd H' D (.lst (V.int c :: xs.map V.int))) D ((c :: xs).map V.int) := fun c H' D hD => SqL.of upd_same
    cases f with
    | tab t =>
      obtain ⟨a, b, rfl, ha, hb⟩ := hf
      refine ⟨_, rfl, a, _, rfl, SqT.of ha, rfl, _, _, rfl, _, _, rfl, rfl, ?_⟩
      refine ⟨_, rfl, _, rfl, ?_⟩
      refine iteF (iteF (iteF (iteF (iteF (iteT ?_)))))
      have hc := cap_lv hlv
      obtain ⟨y, hy⟩ : ∃ y, t[(cap xs).toNat]? = some y := ⟨t[(cap xs).toNat]'(by rw [hok.1]; obtain ⟨h1, h2⟩ := hc; omega), List.getElem?_eq_getElem _⟩
      refine ⟨_, rfl, _, rfl, p, xs, rfl, .inr (SqT.of hp), b, _, _, V.int y, rfl, rfl, SqT.of hb, ?_, ?_⟩
      · have e : ((cap xs).toNat : Int) = cap xs := Int.toNat_of_nonneg hc.1
        rw [← e]
        exact atI_nat (by rw [List.getElem?_map, hy]; rfl)
      · have : valF (.tab t) xs = y := by
          show t.getD (cap xs).toNat 0 = y
          rw [List.getD_eq_getElem?_getD, hy]; rfl
        rw [← this]
        exact q _ (Same.refl H)
    | lev k c =>
      obtain ⟨a, rfl, ha⟩ := hf
      have hcl : (xs.map V.int).length + 1 ≤ sizeLine := by rw [List.length_map]; exact Nat.le_of_lt (small1000 (by omega))
      refine ⟨_, rfl, a, _, rfl, SqT.of ha, rfl, _, _, rfl, _, _, rfl, rfl, ?_⟩
      refine ⟨_, rfl, _, rfl, ?_⟩
      cases k with
      | always => exact iteT ⟨_, rfl, q _ (Same.refl H)⟩
      | max =>
        refine iteF (iteT ?_)
        refine ⟨_, rfl, _, rfl, p, _, rfl, .inl (SqT.of hp), ?_, fun D hD => ?_⟩
        · rw [List.append_nil]; exact hcl
        rw [List.append_nil]
        refine ⟨D, c :: xs, rfl, hsum c H D hD, by simp, fun m hm hle => ?_⟩
        have e := foldMax_mem xs c
        have : m = xs.foldl (fun a b => if b > a then b else a) c := Int.le_antisymm (e.2 m hm) (hle _ e.1)
        rw [this]
        exact q _ (same_upd hD)
      | min =>
        refine iteF (iteF (iteT ?_))
        refine ⟨_, rfl, _, rfl, p, _, rfl, .inl (SqT.of hp), ?_, fun D hD => ?_⟩
        · rw [List.append_nil]; exact hcl
        rw [List.append_nil]
        refine ⟨D, c :: xs, rfl, hsum c H D hD, by simp, fun m hm hle => ?_⟩
        have e := foldMin_mem xs c
        have : m = xs.foldl (fun a b => if b < a then b else a) c := Int.le_antisymm (hle _ e.1) (e.2 m hm)
        rw [this]
        exact q _ (same_upd hD)
      | sum =>
        refine iteF (iteF (iteF (iteT ?_)))
        refine ⟨_, rfl, _, rfl, p, _, rfl, .inl (SqT.of hp), ?_, fun D hD => ?_⟩
        · rw [List.append_nil]; exact hcl
        rw [List.append_nil]
        exact ⟨D, c :: xs, rfl, .inl (hsum c H D hD), q _ (same_upd hD)⟩
      | turn =>
        refine iteF (iteF (iteF (iteF (iteT ?_))))
        exact ⟨_, rfl, _, rfl, c, p, xs, rfl, hp, hl, fun H' s => q H' s⟩
      | choose =>
        refine iteF (iteF (iteF (iteF (iteF (iteF ?_)))))
        refine ⟨_, rfl, p, _, rfl, .inr (SqT.of hp), _, _, rfl, rfl, _, rfl, ?_⟩
        rw [List.length_map]
        cases xs with
        | nil => exact ⟨_, rfl, q _ (Same.refl H)⟩
        | cons v vs =>
          have hpos : (0 : Int) < ((v :: vs).length : Int) := by simp
          rw [decide_eq_true hpos]
          have hm := fmod_lv (a := v) hpos
          obtain ⟨y, hy⟩ : ∃ y, (v :: vs)[(v.fmod ((v :: vs).length : Int)).toNat]? = some y := ⟨(v :: vs)[(v.fmod ((v :: vs).length : Int)).toNat]'(by omega), List.getElem?_eq_getElem _⟩
          refine iteT ⟨_, rfl, _, rfl, p, _, _, V.int v, rfl, rfl, SqT.of hp, atI_nat (j := 0) rfl, ?_⟩
          refine ⟨_, rfl, p, _, rfl, .inr (SqT.of hp), _, _, rfl, rfl, ?_, ?_⟩
          · rw [List.length_map]; omega
          refine ⟨p, _, _, V.int y, rfl, rfl, SqT.of hp, ?_, ?_⟩
          · rw [List.length_map]
            have e : ((v.fmod ((v :: vs).length : Int)).toNat : Int) = v.fmod ((v :: vs).length : Int) := Int.toNat_of_nonneg hm.1
            rw [← e]
            exact atI_nat (by rw [List.getElem?_map, hy]; rfl)
          · have : valF (.lev .choose c) (v :: vs) = y := by
              show (v :: vs).getD (v.fmod ((v :: vs).length : Int)).toNat 0 = y
              rw [List.getD_eq_getElem?_getD, hy]; rfl
            rw [← this]
            exact q _ (Same.refl H)
end
end BgT
set_option Elab.async false
set_option linter.all false
set_option maxRecDepth 100000
set_option maxHeartbeats 4000000
namespace BgT
open PySem PySem.Spec PyProof.Rows L2
section
variable {P : Program} {w : World} {K : PySem.W.Frag} {mg : Str → Option Value} {base : Heap}
abbrev FM (P : Program) (w : World) (K : PySem.W.Frag) (mg : Str → Option Value) (base : Heap) (k : Nat) (C m : Str) (ps : List Str) (sp : Sp) : Prop := FnOk P w K mg base CX0 k (He.ma K (He.ga K C) m) (fdOf K (He.ma K (He.ga K C) m)) ps sp
/-! ### System.triple, operands, function, guess, __len__ -/
theorem sc_System_triple : FnScope ["self", "cell"] ["self", "cell"] (defScope s_System_triple) := ⟨rfl, rfl, rfl, by decide +kernel, rfl, by decide +kernel, by decide +kernel⟩
theorem bd_System_triple {K : PySem.W.Frag} {mg : Str → Option Value} (T : Tx K mg) : Binds K (fdOf K (He.ma K (He.ga K "System") "triple")) ["self", "cell"] [] := T.F_System_triple.bindsN (fun _ _ _ _ _ _ us hl => match us, hl with | [_, _], _ => rfl)
def sp_triple (K : PySem.W.Frag) : Sp := fun vs H Q _ => ∃ (s dx t : Addr) (ws : List V) (c : Nat) (v : V), vs = [.ref s, vn c] ∧ H s = some (.ins (He.ga K "System") dx [("triples", .ref t)]) ∧ H t = some (.tup ws) ∧ ws[c]? = some v ∧ Q v H
theorem ok_System_triple (T : Tx K mg) : FM P w K mg base 2 "System" "triple" ["self", "cell"] (sp_triple K) := by
  refine T.F_System_triple.ok sc_System_triple (fun vs H Q E h => ?_) (fun cdv A outer s H vs Q E hr h => ?_)
  · obtain ⟨s, dx, t, ws, c, v, rfl, _⟩ := h; rfl
  · obtain ⟨s, dx, t, ws, c, v, rfl, hs, ht, hv, q⟩ := h
    have hc : c < ws.length := (List.getElem?_eq_some_iff.mp hv).1
    refine ⟨_, PSs.nox (pss_cons (ps_if (PW.pt (pw_or (pt_not (pt_val (pe_call (ok_is_integer T) (hr.mono (by decide)) rfl T.g_is_integer T.F_is_integer.kp (bd_is_integer T) .nil pass0 (pa_cons (pv 1) pa_nil)))) (pw_or1 (pt_not (pt_chain op_le op_lt pe_int (pv 1) (pe_callB call_len_seq (by rfl) T.b_len (by decide +kernel) (pa_cons (pe_fld (pv 0) rfl) pa_nil)))))))
 pss_never
 pss_nil)
 (pss_one (ps_ret (pe_ix ix_tup (pe_fld (pv 0) rfl) (pv 1) (fun _ _ => rfl))))), ?_⟩
    refine ⟨_, rfl, _, rfl, true, rfl, iteF ?_⟩
    refine ⟨_, rfl, _, _, rfl, rfl, _, rfl, ?_⟩
    rw [decide_eq_true (by omega : (0 : Int) ≤ (c : Int))]
    refine iteT ⟨_, rfl, s, _, dx, _, _, rfl, hs, T.cl_System, T.na_System_triples, rfl, t, ws, rfl, .inr (SqT.of ht), _, _, rfl, rfl, _, rfl, ?_⟩
    rw [decide_eq_true (by omega : (c : Int) < (ws.length : Int))]
    refine iteF ?_
    exact ⟨_, rfl, s, _, dx, _, _, rfl, hs, T.cl_System, T.na_System_triples, rfl, _, rfl, t, _, _, v, rfl, rfl, SqT.of ht, atI_nat hv, q⟩
def sp_operands (K : PySem.W.Frag) : Sp := fun vs H Q _ => ∃ (s : Addr) (rows : List Row) (c : Nat) (r : Row), vs = [.ref s, vn c] ∧ SysAt K H s rows ∧ rows[c]? = some r ∧ ∀ o, H o = some (.tup (r.ops.map vn)) → Q (.ref o) H
def sp_function (K : PySem.W.Frag) : Sp := fun vs H Q _ => ∃ (s : Addr) (rows : List Row) (c : Nat) (r : Row), vs = [.ref s, vn c] ∧ SysAt K H s rows ∧ rows[c]? = some r ∧ ∀ v, FnAt H v r.fn → Q v H
def sp_guess (K : PySem.W.Frag) : Sp := fun vs H Q _ => ∃ (s : Addr) (rows : List Row) (c : Nat) (r : Row), vs = [.ref s, vn c] ∧ SysAt K H s rows ∧ rows[c]? = some r ∧ Q (.int r.gs) H
def sp_len (K : PySem.W.Frag) : Sp := fun vs H Q _ => ∃ (s : Addr) (rows : List Row), vs = [.ref s] ∧ SysAt K H s rows ∧ Q (.int (rows.length : Nat)) H
theorem sc_System_operands : FnScope ["self", "cell"] ["self", "cell"] (defScope s_System_operands) := ⟨rfl, rfl, rfl, by decide +kernel, rfl, by decide +kernel, by decide +kernel⟩
theorem bd_System_operands {K : PySem.W.Frag} {mg : Str → Option Value} (T : Tx K mg) : Binds K (fdOf K (He.ma K (He.ga K "System") "operands")) ["self", "cell"] [] := T.F_System_operands.bindsN (fun _ _ _ _ _ _ us hl => match us, hl with | [_, _], _ => rfl)
theorem ok_System_operands (T : Tx K mg) : FM P w K mg base 3 "System" "operands" ["self", "cell"] (sp_operands K) := by
  refine T.F_System_operands.ok sc_System_operands (fun vs H Q E h => ?_) (fun cdv A outer s H vs Q E hr h => ?_)
  · obtain ⟨s, rows, c, r, rfl, _⟩ := h; rfl
  · obtain ⟨s, rows, c, r, rfl, ⟨dx, t, ws, hs, ht, h1, h2⟩, hr0, q⟩ := h
    obtain ⟨v, hv, a, o, f, rfl, ha, ho, hf⟩ := h2 c r hr0
    refine ⟨_, PSs.nox (pss_one (ps_ret (pe_ix ix_tup (pe_meth (pv 0) T.cl_System T.m_System_triple (ok_System_triple T) (hr.mono (by decide)) (bd_System_triple T) .nil pass0 (pa_cons (pv 1) pa_nil)) pe_int (fun _ _ => rfl)))), ?_⟩
    exact ⟨_, rfl, s, dx, _, rfl, hs, rfl, _, rfl, s, dx, t, ws, c, _, rfl, hs, ht, hv, a, _, _, _, rfl, rfl, SqT.of ha, atI_nat (j := 0) rfl, q o ho⟩
theorem sc_System_function : FnScope ["self", "cell"] ["self", "cell"] (defScope s_System_function) := ⟨rfl, rfl, rfl, by decide +kernel, rfl, by decide +kernel, by decide +kernel⟩
theorem bd_System_function {K : PySem.W.Frag} {mg : Str → Option Value} (T : Tx K mg) : Binds K (fdOf K (He.ma K (He.ga K "System") "function")) ["self", "cell"] [] := T.F_System_function.bindsN (fun _ _ _ _ _ _ us hl => match us, hl with | [_, _], _ => rfl)
theorem ok_System_function (T : Tx K mg) : FM P w K mg base 3 "System" "function" ["self", "cell"] (sp_function K) := by
  refine T.F_System_function.ok sc_System_function (fun vs H Q E h => ?_) (fun cdv A outer s H vs Q E hr h => ?_)
  · obtain ⟨s, rows, c, r, rfl, _⟩ := h; rfl
  · obtain ⟨s, rows, c, r, rfl, ⟨dx, t, ws, hs, ht, h1, h2⟩, hr0, q⟩ := h
    obtain ⟨v, hv, a, o, f, rfl, ha, ho, hf⟩ := h2 c r hr0
    refine ⟨_, PSs.nox (pss_one (ps_ret (pe_ix ix_tup (pe_meth (pv 0) T.cl_System T.m_System_triple (ok_System_triple T) (hr.mono (by decide)) (bd_System_triple T) .nil pass0 (pa_cons (pv 1) pa_nil)) pe_int (fun _ _ => rfl)))), ?_⟩
    exact ⟨_, rfl, s, dx, _, rfl, hs, rfl, _, rfl, s, dx, t, ws, c, _, rfl, hs, ht, hv, a, _, _, _, rfl, rfl, SqT.of ha, atI_nat (j := 1) rfl, q f hf⟩
theorem sc_System_guess : FnScope ["self", "cell"] ["self", "cell"] (defScope s_System_guess) := ⟨rfl, rfl, rfl, by decide +kernel, rfl, by decide +kernel, by decide +kernel⟩
theorem bd_System_guess {K : PySem.W.Frag} {mg : Str → Option Value} (T : Tx K mg) : Binds K (fdOf K (He.ma K (He.ga K "System") "guess")) ["self", "cell"] [] := T.F_System_guess.bindsN (fun _ _ _ _ _ _ us hl => match us, hl with | [_, _], _ => rfl)
theorem ok_System_guess (T : Tx K mg) : FM P w K mg base 3 "System" "guess" ["self", "cell"] (sp_guess K) := by
  refine T.F_System_guess.ok sc_System_guess (fun vs H Q E h => ?_) (fun cdv A outer s H vs Q E hr h => ?_)
  · obtain ⟨s, rows, c, r, rfl, _⟩ := h; rfl
  · obtain ⟨s, rows, c, r, rfl, ⟨dx, t, ws, hs, ht, h1, h2⟩, hr0, q⟩ := h
    obtain ⟨v, hv, a, o, f, rfl, ha, ho, hf⟩ := h2 c r hr0
    refine ⟨_, PSs.nox (pss_one (ps_ret (pe_ix ix_tup (pe_meth (pv 0) T.cl_System T.m_System_triple (ok_System_triple T) (hr.mono (by decide)) (bd_System_triple T) .nil pass0 (pa_cons (pv 1) pa_nil)) pe_int (fun _ _ => rfl)))), ?_⟩
    exact ⟨_, rfl, s, dx, _, rfl, hs, rfl, _, rfl, s, dx, t, ws, c, _, rfl, hs, ht, hv, a, _, _, _, rfl, rfl, SqT.of ha, atI_nat (j := 2) rfl, q⟩
theorem sc_System_len : FnScope ["self"] ["self"] (defScope s_System_len) := ⟨rfl, rfl, rfl, by decide +kernel, rfl, by decide +kernel, by decide +kernel⟩
theorem bd_System_len {K : PySem.W.Frag} {mg : Str → Option Value} (T : Tx K mg) : Binds K (fdOf K (He.ma K (He.ga K "System") "__len__")) ["self"] [] := T.F_System_len.bindsN (fun _ _ _ _ _ _ us hl => match us, hl with | [_], _ => rfl)
theorem ok_System_len (T : Tx K mg) : FM P w K mg base 1 "System" "__len__" ["self"] (sp_len K) := by
  refine T.F_System_len.ok sc_System_len (fun vs H Q E h => ?_) (fun cdv A outer s H vs Q E hr h => ?_)
  · obtain ⟨s, rows, rfl, _⟩ := h; rfl
  · obtain ⟨s, rows, rfl, ⟨dx, t, ws, hs, ht, h1, h2⟩, q⟩ := h
    refine ⟨_, PSs.nox (pss_one (ps_ret (pe_callB call_len_seq (by rfl) T.b_len (by decide +kernel) (pa_cons (pe_fld (pv 0) rfl) pa_nil)))), ?_⟩
    refine ⟨_, rfl, s, _, dx, _, _, rfl, hs, T.cl_System, T.na_System_triples, rfl, t, ws, rfl, .inr (SqT.of ht), ?_⟩
    rw [h1]
    exact q
/-- len(system) -/
theorem lenS {X : Cx} (T : Tx X.K X.mg) (hr : Room 2 X.A) : CallR X (.builtin "len") fun vs H Q => ∃ (s : Addr) (rows : List Row), vs = [V.ref s] ∧ SysAt X.K H s rows ∧ rows.length ≤ 24 ∧ Q (.int (rows.length : Nat)) H := by
  intro pins s σ H vs us Q I r h
  obtain ⟨a, rows, rfl, ha, hl, q⟩ := h
  obtain ⟨dx, t, ws, hs, ht, hT⟩ := id ha
  exact call_lenOwn (k := 1) hr T.m_System_len.at_ T.fnLen T.cl_System (ok_System_len T) (bd_System_len T) pins s σ H _ us Q I r ⟨a, dx, _, rfl, hs, a, rows, rfl, ha, rows.length, rfl, by omega, q⟩
end
end BgT
set_option Elab.async false
set_option linter.all false
set_option maxRecDepth 100000
set_option maxHeartbeats 4000000
namespace BgT
open PySem PySem.Spec PyProof.Rows L2
/-! ### data compared -/
def pdN : Option Nat → PyData
  | none => .none
  | some c => .int (c : Int)
def pdV : Option Int → PyData
  | none => .none
  | some v => .int v
def pdC (c : Nat) : PyData := .int (c : Int)
theorem eqvAll_map {α : Type} [DecidableEq α] (f : α → PyData) (hf : ∀ x y, PyData.eqv (f x) (f y) = decide (x = y)) : ∀ xs ys : List α, PyData.eqvAll (xs.map f) (ys.map f) = decide (xs = ys)
  | [], [] => by simp [PyData.eqvAll]
  | [], y :: ys => by simp [PyData.eqvAll]
  | x :: xs, [] => by simp [PyData.eqvAll]
  | x :: xs, y :: ys => by
    simp only [List.map_cons, PyData.eqvAll, hf, eqvAll_map f hf xs ys, List.cons.injEq, Bool.decide_and]
theorem eqv_tup {α : Type} [DecidableEq α] (f : α → PyData) (hf : ∀ x y, PyData.eqv (f x) (f y) = decide (x = y)) (xs ys : List α) : PyData.eqv (.tuple (xs.map f)) (.tuple (ys.map f)) = decide (xs = ys) := by
  simp only [PyData.eqv]; exact eqvAll_map f hf xs ys
theorem eqv_lst {α : Type} [DecidableEq α] (f : α → PyData) (hf : ∀ x y, PyData.eqv (f x) (f y) = decide (x = y)) (xs ys : List α) : PyData.eqv (.list (xs.map f)) (.list (ys.map f)) = decide (xs = ys) := by
  simp only [PyData.eqv]; exact eqvAll_map f hf xs ys
theorem eqv_pdC (x y : Nat) : PyData.eqv (pdC x) (pdC y) = decide (x = y) := by
  unfold pdC
  rw [show PyData.eqv (.int (x : Int)) (.int (y : Int)) = ((x : Int) == (y : Int)) from by simp [PyData.eqv]]
  by_cases h : x = y
  · simp [h]
  · have : (x : Int) ≠ (y : Int) := by omega
    simp [h, this]
theorem eqv_int (x y : Int) : PyData.eqv (.int x) (.int y) = decide (x = y) := by
  rw [show PyData.eqv (.int x) (.int y) = (x == y) from by simp [PyData.eqv]]
  by_cases h : x = y <;> simp [h]
theorem eqv_pdV (x y : Option Int) : PyData.eqv (pdV x) (pdV y) = decide (x = y) := by
  cases x <;> cases y <;> simp [pdV, PyData.eqv]
  rw [Bool.eq_iff_iff]; simp
theorem eqv_pdN (x y : Option Nat) : PyData.eqv (pdN x) (pdN y) = decide (x = y) := by
  cases x with
  | none => cases y <;> simp [pdN, PyData.eqv]
  | some a =>
    cases y with
    | none => simp [pdN, PyData.eqv]
    | some b =>
      have := eqv_pdC a b
      simpa [pdN, pdC] using this
/-! shapes -/
def Shal (n : Nat) (d : PyData) : Prop := d.canLay0 = true ∧ d.depth ≤ n
theorem shal_all {n : Nat} : ∀ {ds : List PyData}, (∀ d ∈ ds, Shal n d) → PyData.canLayAll0 ds = true ∧ PyData.depthAll ds ≤ n
  | [], _ => ⟨by simp [PyData.canLayAll0], by simp [PyData.depthAll]⟩
  | d :: ds, h => by
    obtain ⟨a, b⟩ := shal_all (ds := ds) fun x hx => h x (by simp [hx])
    obtain ⟨c, e⟩ := h d (by simp)
    refine ⟨by simp [PyData.canLayAll0, a, c], ?_⟩
    simp only [PyData.depthAll]
    exact Nat.max_le.mpr ⟨e, b⟩
theorem Shal.lst {n : Nat} {ds : List PyData} (h : ∀ d ∈ ds, Shal n d) : Shal (n + 1) (.list ds) := by
  obtain ⟨a, b⟩ := shal_all h
  exact ⟨by simp only [PyData.canLay0]; exact a, by simp only [PyData.depth]; omega⟩
theorem Shal.tup {n : Nat} {ds : List PyData} (h : ∀ d ∈ ds, Shal n d) : Shal (n + 1) (.tuple ds) := by
  obtain ⟨a, b⟩ := shal_all h
  exact ⟨by simp only [PyData.canLay0]; exact a, by simp only [PyData.depth]; omega⟩
theorem shal_int (i : Int) : Shal 0 (.int i) := ⟨by simp [PyData.canLay0], by simp [PyData.depth]⟩
theorem shal_pdC (c : Nat) : Shal 0 (pdC c) := shal_int _
theorem shal_non : Shal 0 .none := ⟨by simp [PyData.canLay0], by simp [PyData.depth]⟩
theorem shal_pdN (o : Option Nat) : Shal 0 (pdN o) := by cases o; exact shal_non; exact shal_int _
theorem shal_pdV (o : Option Int) : Shal 0 (pdV o) := by cases o; exact shal_non; exact shal_int _
theorem Shal.ok {n : Nat} {d : PyData} (h : Shal n d) (hn : n ≤ 64) : SeqAt.shaped d = true := by
  unfold SeqAt.shaped
  rw [h.1, decide_eq_true (Nat.le_trans h.2 hn)]; rfl
/-! as it stands -/
section
variable {K : PySem.W.Frag} {H : Hp}
theorem dpAll_map {α : Type} (f : α → V) (g : α → PyData) (h : ∀ x, Dp K H (f x) (g x)) : ∀ xs : List α, DpAll K H (xs.map f) (xs.map g)
  | [] => .nil
  | x :: xs => .cons (h x) (dpAll_map f g h xs)
theorem dp_C (c : Nat) : Dp K H (vn c) (pdC c) := .int _
theorem dp_N (o : Option Nat) : Dp K H (optN o) (pdN o) := by cases o; exact .non; exact .int _
theorem dp_V (o : Option Int) : Dp K H (optV o) (pdV o) := by cases o; exact .non; exact .int _
/-- a list of tuples -/
theorem dpAll_tups {α : Type} (f : α → V) (g : α → PyData) (h : ∀ x, Dp K H (f x) (g x)) : ∀ {vs : List V} {ps : List (List α)}, TupsAt H vs (ps.map (·.map f)) → DpAll K H vs (ps.map fun D => .tuple (D.map g))
  | [], [], _ => .nil
  | [], _ :: _, h => by have := h.1; simp at this
  | _ :: _, [], h => by have := h.1; simp at this
  | v :: vs, p :: ps, q => by
    obtain ⟨a, h1, h2⟩ := q.2 0 (p.map f) rfl
    have e : v = .ref a := by simpa using h1
    subst e
    refine .cons (.tup (SqT.of h2) (dpAll_map f g h p)) (dpAll_tups f g h ⟨by have := q.1; simpa using this, fun i d e => ?_⟩)
    obtain ⟨b, h3, h4⟩ := q.2 (i + 1) d (by simpa using e)
    exact ⟨b, by simpa using h3, h4⟩
end
/-! ### lists against the empty one -/
section
variable {X : Cx}
def rNeNil (K : PySem.W.Frag) : R2 := fun x y H Q => ∃ a b xs ds n, x = .ref a ∧ y = .ref b ∧ SqL K H a xs ∧ DpAll K H xs ds ∧ (∀ d ∈ ds, Shal n d) ∧ n < 64 ∧ SqL K H b [] ∧ Q (.bl (!xs.isEmpty)) H
theorem op_neNil (hu : X.A.units + 64 < cLine) : OpR X (compareOp .NotEq) (rNeNil X.K) := by
  intro pins s σ H x y v u Q I rx ry h
  obtain ⟨a, b, xs, ds, n, rfl, rfl, ha, hd, hs, hn, hb, q⟩ := h
  refine op_neD hu pins s σ H _ _ v u Q I rx ry ⟨.list ds, .list [], .lst ha hd, .lst hb .nil, (Shal.lst hs).ok hn, (Shal.lst (n := 0) (ds := []) (by simp)).ok (by decide), ?_⟩
  have e : PyData.eqv (.list ds) (.list []) = xs.isEmpty := by
    cases hd with
    | nil => simp [PyData.eqv, PyData.eqvAll]
    | cons _ _ => simp [PyData.eqv, PyData.eqvAll]
  rw [e]
  exact q
end
/-- while xs != [] -/
theorem while_ne {K : PySem.W.Frag} {i : Nat} {tb : TS} {D : Ends} {σ : L2.St} {H : Hp} (Pv : L2.St → Hp → Prop) (μ : L2.St → Hp → Nat) (h0 : Pv σ H)
    (hs : ∀ σ H, Pv σ H → ∃ a xs ds n, σ[i]? = some (some (V.ref a)) ∧ H a = some (.lst xs) ∧ DpAll K H xs ds ∧ (∀ d ∈ ds, Shal n d) ∧ n < 64 ∧
      ∀ p, H p = none → a ≠ p → DpAll K (upd H p (.lst [])) xs ds ∧ (xs ≠ [] → tb { D with nx := fun σ' H' => Pv σ' H' ∧ μ σ' H' < μ σ H, ct := fun σ' H' => Pv σ' H' ∧ μ σ' H' < μ σ H, bk := D.nx } σ (upd H p (.lst []))) ∧ (xs = [] → D.nx σ (upd H p (.lst [])))) :
    tWhile (tTest (tOp (rNeNil K) (tVar i) (tLst tNil))) tb D σ H := by
  refine while_by Pv μ h0 (fun σ H p => ?_) fun σ H Q Q' h q => ?_
  · obtain ⟨a, xs, ds, n, e, ha, hd, hsh, hn, k⟩ := hs σ H p
    refine ⟨_, e, Nat.zero_le _, fun q hq => ?_⟩
    have na : a ≠ q := ne_of_none ha hq
    obtain ⟨k0, k1, k2⟩ := k q hq na
    refine ⟨a, q, xs, ds, n, rfl, rfl, SqL.of (by rw [upd_ne na]; exact ha), k0, hsh, hn, SqL.of upd_same, _, rfl, ?_⟩
    cases xs with
    | nil => exact iteF (k2 rfl)
    | cons x xs => exact iteT (k1 (by simp))
  · obtain ⟨v, e, z, g⟩ := q
    refine ⟨v, e, z, fun p hp => ?_⟩
    obtain ⟨a, b, xs, ds, n, e1, e2, h1, h2, h3, h4, h5, c, ec, q⟩ := g p hp
    exact ⟨a, b, xs, ds, n, e1, e2, h1, h2, h3, h4, h5, c, ec, h _ _ q⟩
/-! data stays -/
theorem dpAll_cells {K : PySem.W.Frag} {H : Hp} (xs : List Nat) : DpAll K H (xs.map vn) (xs.map pdC) := dpAll_map _ _ dp_C xs
theorem shal_cells (xs : List Nat) : ∀ d ∈ xs.map pdC, Shal 0 d := fun d hd => by
  obtain ⟨c, _, rfl⟩ := List.mem_map.mp hd
  exact shal_pdC c
/-! ### with the written part by its name (within comprehensions) -/
section
variable {X : Cx} {K : PySem.W.Frag} {tg : Expr}
theorem op_in_seqK (h : X.K = K := by rfl) : OpR X (compareOp .In) (rIn K false) := by subst h; exact op_in_seq
theorem op_notIn_seqK (h : X.K = K := by rfl) : OpR X (compareOp .NotIn) (rIn K true) := by subst h; exact op_notIn_seq
theorem ix_listK (h : X.K = K := by rfl) : IxR X (rIxL K) := by subst h; exact ix_list
theorem ix_tupK (h : X.K = K := by rfl) : IxR X (rIxT K) := by subst h; exact ix_tup
theorem op_neDK (hu : X.A.units + 64 < cLine) (h : X.K = K := by rfl) : OpR X (compareOp .NotEq) (rNeD K) := by subst h; exact op_neD hu
theorem op_eqDK (hu : X.A.units + 64 < cLine) (h : X.K = K := by rfl) : OpR X (compareOp .Eq) (rEqD K) := by subst h; exact op_eqD hu
theorem pi_listK {l : Expr} {tl : TE} (hl : PE X l tl) (h : X.K = K := by rfl) : PI X tg l (iList K tl) := by subst h; exact pi_list hl
theorem pi_tupK {l : Expr} {tl : TE} (hl : PE X l tl) (h : X.K = K := by rfl) : PI X tg l (iTup K tl) := by subst h; exact pi_tup hl
end
/-! ### membership among cells -/
theorem inV_cells (c : Nat) (xs : List Nat) : inV (vn c) (xs.map vn) = decide (c ∈ xs) := by
  unfold inV
  induction xs with
  | nil => simp
  | cons x xs ih =>
    rw [List.map_cons, List.any_cons, ih]
    have : eqV (vn x) (vn c) = decide (c = x) := by
      show ((x : Int) == (c : Int)) = _
      by_cases h : c = x
      · simp [h]
      · have : (x : Int) ≠ (c : Int) := by omega
        simp [h, this]
    rw [this]
    simp [Bool.decide_or]
theorem flat_cells (xs : List Nat) : (xs.map vn).all flatV = true := by simp [flatV]
end BgT
set_option Elab.async false
set_option linter.all false
set_option maxRecDepth 100000
set_option maxHeartbeats 4000000
namespace BgT
open PySem PySem.Spec PyProof.Rows L2
/-! ### the mathematics of reach_among -/
structure RI (S : Bg.Sys) (c : Nat) (fd wt : List Nat) : Prop where
  nd : fd.Nodup
  rf : ∀ x ∈ fd, x < S.n ∧ Bg.Reach S c x
  rw_ : ∀ x ∈ wt, x < S.n ∧ Bg.Reach S c x
  op : ∀ x ∈ fd, ∀ o ∈ S.ops x, o ∈ fd ∨ o ∈ wt
  at_ : c ∈ fd ∨ c ∈ wt
  few : wt.length ≤ 1 + 8 * fd.length
theorem RI.start {S : Bg.Sys} {c : Nat} (hc : c < S.n) : RI S c [] [c] :=
  ⟨List.nodup_nil, by simp, by simp; exact ⟨hc, .refl c⟩, by simp, by simp, by simp⟩
theorem RI.old {S : Bg.Sys} {c : Nat} {fd wt : List Nat} {x : Nat} (h : RI S c fd (wt ++ [x])) (hx : x ∈ fd) : RI S c fd wt := by
  refine ⟨h.nd, h.rf, fun y hy => h.rw_ y (by simp [hy]), fun y hy o ho => ?_, ?_, ?_⟩
  · rcases h.op y hy o ho with z | z
    · exact .inl z
    · rcases List.mem_append.mp z with z | z
      · exact .inr z
      · simp at z; subst z; exact .inl hx
  · rcases h.at_ with z | z
    · exact .inl z
    · rcases List.mem_append.mp z with z | z
      · exact .inr z
      · simp at z; subst z; exact .inl hx
  · have := h.few; simp at this; omega
theorem RI.new {S : Bg.Sys} (ok : S.Ok) {c : Nat} {fd wt : List Nat} {x : Nat} (h : RI S c fd (wt ++ [x])) (hx : x ∉ fd) : RI S c (fd ++ [x]) (wt ++ S.ops x) := by
  obtain ⟨hxn, hxr⟩ := h.rw_ x (by simp)
  refine ⟨?_, fun y hy => ?_, fun y hy => ?_, fun y hy o ho => ?_, ?_, ?_⟩
  · rw [List.nodup_append]
    exact ⟨h.nd, by simp, fun a ha b hb e => by simp at hb; subst hb; subst e; exact hx ha⟩
  · rcases List.mem_append.mp hy with hy | hy
    · exact h.rf y hy
    · simp at hy; subst hy; exact ⟨hxn, hxr⟩
  · rcases List.mem_append.mp hy with hy | hy
    · exact h.rw_ y (by simp [hy])
    · exact ⟨ok.ops x hxn y hy, hxr.op hxn hy⟩
  · rcases List.mem_append.mp hy with hy | hy
    · rcases h.op y hy o ho with z | z
      · exact .inl (by simp [z])
      · rcases List.mem_append.mp z with z | z
        · exact .inr (by simp [z])
        · exact .inl (by simp at z; simp [z])
    · simp at hy; subst hy; exact .inr (by simp [ho])
  · rcases h.at_ with z | z
    · exact .inl (by simp [z])
    · rcases List.mem_append.mp z with z | z
      · exact .inr (by simp [z])
      · exact .inl (by simp at z; simp [z])
  · have h1 := h.few
    have h2 := ok.few x hxn
    simp at h1 ⊢
    omega
theorem RI.done {S : Bg.Sys} {c : Nat} {fd : List Nat} (h : RI S c fd []) : ∀ o, o ∈ fd ↔ Bg.Reach S c o := by
  intro o
  refine ⟨fun z => (h.rf o z).2, fun z => ?_⟩
  refine z (fun x => x ∈ fd) (fun x _ hx o ho => ?_) (h.at_.resolve_right (by simp))
  exact (h.op x hx o ho).resolve_right (by simp)
theorem RI.len {S : Bg.Sys} {c : Nat} {fd wt : List Nat} (h : RI S c fd wt) : fd.length ≤ S.n := Bg.nodup_le _ _ h.nd fun x hx => (h.rf x hx).1
/-! ### systems of rows -/
theorem sys_ops {rows : List Row} {c : Nat} {r : Row} (h : rows[c]? = some r) : (sysOf rows).ops c = r.ops := by simp [sysOf, h]
theorem sys_gs {rows : List Row} {c : Nat} {r : Row} (h : rows[c]? = some r) : (sysOf rows).gs c = r.gs := by simp [sysOf, h]
theorem sys_val {rows : List Row} {c : Nat} {r : Row} (h : rows[c]? = some r) (vs : List Int) : (sysOf rows).val c vs = valF r.fn vs := by simp [sysOf, h]
theorem row_at {rows : List Row} {c : Nat} (h : c < (sysOf rows).n) : ∃ r, rows[c]? = some r := ⟨rows[c]'h, List.getElem?_eq_getElem h⟩
theorem RowsOk.row {rows : List Row} (ok : RowsOk rows) {c : Nat} {r : Row} (h : rows[c]? = some r) : r.Ok rows.length := ok.ok r (List.mem_of_getElem? h)
theorem RowsOk.sys {rows : List Row} (ok : RowsOk rows) : (sysOf rows).Ok where
  le := ok.le
  ops := fun c hc o ho => by
    obtain ⟨r, hr⟩ := row_at hc
    rw [sys_ops hr] at ho
    exact (ok.row hr).lt o ho
  few := fun c hc => by
    obtain ⟨r, hr⟩ := row_at hc
    rw [sys_ops hr]
    exact (ok.row hr).few
theorem RowsOk.lvl {rows : List Row} (ok : RowsOk rows) : (sysOf rows).Lvl where
  gs := fun c hc => by
    obtain ⟨r, hr⟩ := row_at hc
    rw [sys_gs hr]
    exact (ok.row hr).gs
  val := fun c hc vs h => by
    obtain ⟨r, hr⟩ := row_at hc
    rw [sys_val hr]
    exact valF_lv (ok.row hr).fn h
def cellsV (n : Nat) : List V := (List.range n).map vn
section
variable {P : Program} {w : World} {K : PySem.W.Frag} {mg : Str → Option Value} {base : Heap}
/-! ### all_cells -/
theorem sc_all_cells : FnScope ["system"] ["system"] (defScope s_all_cells) := ⟨rfl, rfl, rfl, by decide +kernel, rfl, by decide +kernel, by decide +kernel⟩
theorem bd_all_cells {K : PySem.W.Frag} {mg : Str → Option Value} (T : Tx K mg) : Binds K (fdOf K (He.ga K "all_cells")) ["system"] [] := T.F_all_cells.bindsN (fun _ _ _ _ _ _ us hl => match us, hl with | [_], _ => rfl)
def sp_all_cells (K : PySem.W.Frag) : Sp := fun vs H Q _ => ∃ (s : Addr) (rows : List Row), vs = [.ref s] ∧ SysAt K H s rows ∧ RowsOk rows ∧ ∀ p, H p = none → Q (.ref p) (upd H p (.tup (cellsV rows.length)))
theorem rgV_cells (n : Nat) : rgV 0 (n : Int) = cellsV n := by
  unfold rgV cellsV
  simp [vn]
theorem ok_all_cells (T : Tx K mg) : FO P w K mg base 3 (He.ga K "all_cells") ["system"] (sp_all_cells K) := by
  refine T.F_all_cells.ok sc_all_cells (fun vs H Q E h => ?_) (fun cdv A outer s H vs Q E hr h => ?_)
  · obtain ⟨s, rows, rfl, _⟩ := h; rfl
  · obtain ⟨s, rows, rfl, hs, hok, q⟩ := h
    refine ⟨_, PSs.nox (pss_one (ps_ret (pe_tupRg rfl (by rfl) T.b_tuple (prg_1 (by rfl) T.b_range (pe_callB (lenS T (hr.mono (by decide))) (by rfl) T.b_len (by decide +kernel) (pa_cons (pv 0) pa_nil)))))), ?_⟩
    refine ⟨_, rfl, s, rows, rfl, hs, hok.le, _, rfl, ?_, fun p hp => ?_⟩
    · have := hok.le
      exact ⟨by omega, by omega, by omega, by omega, by omega⟩
    · rw [rgV_cells]
      exact q p hp
/-! ### reach_among, over all cells -/
theorem sc_reach_among : FnScope ["system", "cell", "cells", "found", "waiting", "here", "operand"] ["system", "cell", "cells"] (defScope s_reach_among) := ⟨rfl, rfl, rfl, by decide +kernel, rfl, by decide +kernel, by decide +kernel⟩
theorem bd_reach_among {K : PySem.W.Frag} {mg : Str → Option Value} (T : Tx K mg) : Binds K (fdOf K (He.ga K "reach_among")) ["system", "cell", "cells"] [] := T.F_reach_among.bindsN (fun _ _ _ _ _ _ us hl => match us, hl with | [_, _, _], _ => rfl)
def sp_reach_among (K : PySem.W.Frag) : Sp := fun vs H Q _ => ∃ (s t : Addr) (rows : List Row) (c : Nat), vs = [.ref s, vn c, .ref t] ∧ SysAt K H s rows ∧ RowsOk rows ∧ H t = some (.tup (cellsV rows.length)) ∧ c < rows.length ∧
  ∀ H' p (xs : List Nat), Same H H' → H p = none → H' p = some (.lst (xs.map vn)) → (∀ o, o ∈ xs ↔ Bg.Reach (sysOf rows) c o) → Q (.ref p) H'
theorem ok_reach_among (T : Tx K mg) : FO P w K mg base 4 (He.ga K "reach_among") ["system", "cell", "cells"] (sp_reach_among K) := by
  refine T.F_reach_among.ok sc_reach_among (fun vs H Q E h => ?_) (fun cdv A outer s H vs Q E hr h => ?_)
  · obtain ⟨s, t, rows, c, rfl, _⟩ := h; rfl
  · obtain ⟨s, t, rows, c, rfl, hs, hok, ht, hc, q⟩ := h
    refine ⟨_, PSs.nox (pss_cons (ps_set (i := 3) sc_reach_among.nd rfl (Or.inl rfl) (pe_lst pa_nil))
 (pss_cons (ps_set (i := 4) sc_reach_among.nd rfl (Or.inl rfl) (pe_lst (pa_cons (pv 1) pa_nil)))
 (pss_cons (ps_while PassesOwn.never (pt_cmpR (op_neNil hr.units) (pv 4) (pe_lst pa_nil) (nomark _))
 (pss_cons (ps_set (i := 5) sc_reach_among.nd rfl (Or.inl rfl) (pe_bm0 PySem.F.plainAttrs_list PySem.F.slot_list_pop PySem.F.type_list_pop mt_pop (pv 4)))
 (pss_one (ps_if (pt_cmpR op_notIn_seq (pv 5) (pv 3) (by rfl))
 (pss_cons (ps_expr (pe_bm PySem.F.plainAttrs_list PySem.F.slot_list_append PySem.F.type_list_append mt_append (pv 3) (pa_cons (pv 5) pa_nil)))
 (pss_one (ps_expr (pe_bm PySem.F.plainAttrs_list PySem.F.slot_list_extend PySem.F.type_list_extend mt_extend (pv 4) (pa_cons (pe_lc (own := [("operand", 6)]) (g := gName 6) rfl sc_reach_among.nd (pi_tup (pe_meth (pv 0) T.cl_System T.m_System_operands (ok_System_operands T) (hr.mono (by decide)) (bd_System_operands T) .nil pass0 (pa_cons (pv 5) pa_nil))) (blkOk_by (own := [("operand", 6)]) (N := ["system", "cell", "cells", "found", "waiting", "here", "operand"]) (sc := defScope s_reach_among) (by decide +kernel)) (fun _ _ _ _ _ => (pg_name (i := 6) sc_reach_among.nd rfl (by first | exact Or.inl rfl | exact Or.inr rfl))) (fun _ _ _ _ _ => pts_one (pt_cmpR (op_in_seqK (K := K)) (pv 6) (pv 2) (by rfl))) (fun _ _ _ _ _ => (pv 6))) pa_nil)))))
 pss_nil))))
 (pss_one (ps_ret (pv 3)))))), ?_⟩
    refine ⟨Nat.zero_le _, fun f hf => ?_⟩
    refine ⟨_, rfl, (by show 1 ≤ sizeLine; decide), fun wa hw => ?_⟩
    have hw0 : H wa = none := (same_upd hf).free hw
    have nfw : f ≠ wa := ne_of_none upd_same hw
    refine while_ne (fun σ H' => ∃ (fd wt : List Nat) (hv : Option V), σ = [some (.ref s), some (vn c), some (.ref t), some (.ref f), some (.ref wa), hv, none] ∧ Same H H' ∧ H' f = some (.lst (fd.map vn)) ∧ H' wa = some (.lst (wt.map vn)) ∧ RI (sysOf rows) c fd wt)
      (fun σ H' => match H' f, H' wa with
        | some (.lst a), some (.lst b) => (rows.length - a.length) * 10 + b.length
        | _, _ => 0)
      ⟨[], [c], none, rfl, sameN (same_upd hf) hw0, by rw [upd_ne nfw]; exact upd_same, upd_same, .start hc⟩ ?_
    rintro σ H1 ⟨fd, wt, hv, rfl, s1, h1, h2, ri⟩
    refine ⟨wa, wt.map vn, wt.map pdC, 0, rfl, h2, dpAll_cells wt, shal_cells wt, by decide, fun p hp nap => ⟨dpAll_cells wt, fun hne => ?_, fun he => ?_⟩⟩
    · have nfp : f ≠ p := ne_of_none h1 hp
      have h1' : upd H1 p (.lst []) f = some (.lst (fd.map vn)) := by rw [upd_ne nfp]; exact h1
      have h2' : upd H1 p (.lst []) wa = some (.lst (wt.map vn)) := by rw [upd_ne nap]; exact h2
      have s1' : Same H (upd H1 p (.lst [])) := sameN s1 (s1.free hp)
      have nwf : wa ≠ f := Ne.symm nfw
      have hp0 : H p = none := s1.free hp
      obtain ⟨wt', x, rfl⟩ : ∃ wt' x, wt = wt' ++ [x] := by
        rcases List.eq_nil_or_concat wt with e | ⟨a, b, e⟩
        · subst e; simp at hne
        · exact ⟨a, b, by rw [e]; simp⟩
      generalize hH2 : upd H1 p (.lst []) = H2 at h1' h2' s1'
      have hxn := (ri.rw_ x (by simp)).1
      obtain ⟨r, hr0⟩ := row_at (rows := rows) hxn
      -- here = waiting.pop()
      refine ⟨_, rfl, .inl ⟨rfl, _, SqL.of h2'⟩, wa, _, vn x, rfl, rfl, h2', by simp, ?_⟩
      have edl : ((wt' ++ [x]).map vn).dropLast = wt'.map vn := by simp
      rw [edl]
      have h3 : upd H2 wa (.lst (wt'.map vn)) f = some (.lst (fd.map vn)) := by rw [upd_ne nfw]; exact h1'
      have s3 : Same H (upd H2 wa (.lst (wt'.map vn))) := sameN s1' hw0
      generalize hH3 : upd H2 wa (.lst (wt'.map vn)) = H3 at h3 s3
      have h3w : H3 wa = some (.lst (wt'.map vn)) := by rw [← hH3]; exact upd_same
      -- if here not in found
      refine ⟨_, rfl, _, rfl, f, _, rfl, .inl (SqL.of h3), rfl, flat_cells fd, _, rfl, ?_⟩
      rw [inV_cells]
      have meas : (match H1 f, H1 wa with
        | some (.lst a), some (.lst b) => (rows.length - a.length) * 10 + b.length
        | _, _ => 0) = (rows.length - fd.length) * 10 + (wt'.length + 1) := by rw [h1, h2]; simp
      by_cases hxf : x ∈ fd
      · rw [decide_eq_true hxf]
        refine iteF ⟨⟨fd, wt', _, rfl, s3, h3, h3w, ri.old hxf⟩, ?_⟩
        rw [meas, h3, h3w]
        simp only [List.length_map]
        omega
      · rw [decide_eq_false hxf]
        have hri := ri.new hok.sys hxf
        have hl1 := hri.len
        have hl1' : fd.length + 1 ≤ rows.length := by
          have z : (fd ++ [x]).length ≤ rows.length := hl1
          simpa using z
        have hle := hok.le
        have hops : (sysOf rows).ops x = r.ops := sys_ops hr0
        have hfew : r.ops.length ≤ 8 := (hok.row hr0).few
        have hwf := ri.few
        refine iteT ⟨_, rfl, .inl ⟨rfl, _, SqL.of h3⟩, _, rfl, f, _, _, rfl, rfl, h3, small1000 (by rw [List.length_map]; omega), ?_⟩
        have efd : fd.map vn ++ [vn x] = (fd ++ [x]).map vn := by simp
        rw [efd]
        have hf0 : H f = none := hf
        have s4 : Same H (upd H3 f (.lst ((fd ++ [x]).map vn))) := sameN s3 hf0
        have h4w : upd H3 f (.lst ((fd ++ [x]).map vn)) wa = some (.lst (wt'.map vn)) := by rw [upd_ne nwf]; exact h3w
        generalize hH4 : upd H3 f (.lst ((fd ++ [x]).map vn)) = H4 at s4 h4w
        have h4f : H4 f = some (.lst ((fd ++ [x]).map vn)) := by rw [← hH4]; exact upd_same
        -- waiting.extend([..])
        refine ⟨_, rfl, .inl ⟨rfl, _, SqL.of h4w⟩, ?_⟩
        refine ⟨_, rfl, s, _, _, rfl, (hs.same s4).choose_spec.choose_spec.choose_spec.1, rfl, _, rfl, s, rows, x, r, rfl, hs.same s4, hr0, fun o ho => ?_⟩
        refine ⟨o, rfl, ⟨_, SqT.of ho⟩, fun D hD => ?_⟩
        have noD : o ≠ D := ne_of_none ho hD
        refine lc_tup (K := K) (a := o) (xs := r.ops.map vn) (fun i H' => Same H4 H' ∧ H' D = some (.lst ((r.ops.take i).map vn))) ⟨same_upd hD, upd_same⟩ (fun i H' _ h => SqT.of (h.1 _ _ ho)) ?_ ?_
        · rintro i y H5 hi ⟨s5, h5⟩
          rw [List.getElem?_map] at hi
          obtain ⟨z, hz⟩ : ∃ z, r.ops[i]? = some z := by
            cases e : r.ops[i]? with
            | none => rw [e] at hi; cases hi
            | some z => exact ⟨z, rfl⟩
          rw [hz] at hi
          cases hi
          have hzn : z < rows.length := (hok.row hr0).lt z (List.mem_of_getElem? hz)
          have hil : i < 8 := Nat.lt_of_lt_of_le (List.getElem?_eq_some_iff.mp hz).1 hfew
          refine ⟨rfl, _, rfl, _, rfl, t, _, rfl, .inr (SqT.of (s5 _ _ (s4 _ _ ht))), rfl, flat_cells _, _, rfl, ?_⟩
          rw [show (if false = true then !inV (vn z) (cellsV rows.length) else inV (vn z) (cellsV rows.length)) = true from by
            show inV (vn z) ((List.range rows.length).map vn) = true
            rw [inV_cells]; simp [hzn]]
          refine iteT ⟨_, rfl, _, h5, small1000 (by simp; omega), sameN s5 hD, ?_⟩
          rw [upd_same, List.take_add_one, hz]
          simp
        · rintro H5 ⟨s5, h5⟩
          rw [List.length_map, List.take_length] at h5
          have h5w := s5 _ _ h4w
          have h5f := s5 _ _ h4f
          refine ⟨wa, D, _, _, rfl, rfl, h5w, h5, Nat.le_of_lt (small1000 (by simp at hwf ⊢; omega)), ?_⟩
          have ewt : wt'.map vn ++ r.ops.map vn = (wt' ++ (sysOf rows).ops x).map vn := by rw [hops]; simp
          rw [ewt]
          refine ⟨⟨fd ++ [x], wt' ++ (sysOf rows).ops x, _, rfl, sameN (s4.trans s5) hw0, by rw [upd_ne nfw]; exact h5f, upd_same, hri⟩, ?_⟩
          rw [meas, upd_ne nfw, h5f, upd_same]
          simp only [List.length_map, List.length_append, List.length_cons, List.length_nil, hops]
          omega
    · have e : wt = [] := by simpa using he
      subst e
      have nfp : f ≠ p := ne_of_none h1 hp
      exact ⟨_, rfl, q _ f fd (sameN s1 (s1.free hp)) hf (by rw [upd_ne nfp]; exact h1) ri.done⟩
end
end BgT
set_option Elab.async false
set_option linter.all false
set_option maxRecDepth 100000
set_option maxHeartbeats 4000000
namespace BgT
open PySem PySem.Spec PyProof.Rows L2
section
variable {P : Program} {w : World} {K : PySem.W.Frag} {mg : Str → Option Value} {base : Heap}
theorem map_at {α β : Type} {f : α → β} {xs : List α} {i : Nat} {v : β} (h : (xs.map f)[i]? = some v) : ∃ x, xs[i]? = some x ∧ v = f x := by
  rw [List.getElem?_map] at h
  cases e : xs[i]? with
  | none => rw [e] at h; cases h
  | some z => rw [e] at h; cases h; exact ⟨z, rfl, rfl⟩
theorem mem_takeS {α : Type} {xs : List α} {i : Nat} {z x : α} (hz : xs[i]? = some z) (h : x ∈ xs.take (i + 1)) : x ∈ xs.take i ∨ x = z := by
  rw [List.take_add_one, hz] at h
  simpa using h
theorem SeqOf.in_ {K : PySem.W.Frag} {H : Hp} {b : Addr} {xs : List V} (h : SeqOf K H b xs) : SqL K H b xs ∨ SqT K H b xs := h
/-! ### leads_outside -/
theorem sc_leads_outside : FnScope ["system", "component", "cells", "cell", "operand"] ["system", "component", "cells"] (defScope s_leads_outside) := ⟨rfl, rfl, rfl, by decide +kernel, rfl, by decide +kernel, by decide +kernel⟩
theorem bd_leads_outside {K : PySem.W.Frag} {mg : Str → Option Value} (T : Tx K mg) : Binds K (fdOf K (He.ga K "leads_outside")) ["system", "component", "cells"] [] := T.F_leads_outside.bindsN (fun _ _ _ _ _ _ us hl => match us, hl with | [_, _, _], _ => rfl)
def sp_leads_outside (K : PySem.W.Frag) : Sp := fun vs H Q _ => ∃ (s c b : Addr) (rows : List Row) (D W : List Nat), vs = [.ref s, .ref c, .ref b] ∧ SysAt K H s rows ∧ RowsOk rows ∧ H c = some (.tup (D.map vn)) ∧ SeqOf K H b (W.map vn) ∧
  (∀ x ∈ D, x < rows.length) ∧ Q (.bl (Bg.leads (sysOf rows) D W)) H
theorem ok_leads_outside (T : Tx K mg) : FO P w K mg base 4 (He.ga K "leads_outside") ["system", "component", "cells"] (sp_leads_outside K) := by
  refine T.F_leads_outside.ok sc_leads_outside (fun vs H Q E h => ?_) (fun cdv A outer s H vs Q E hr h => ?_)
  · obtain ⟨s, c, b, rows, D, W, rfl, _⟩ := h; rfl
  · obtain ⟨s, c, b, rows, D, W, rfl, hs, hok, hc, hb, hlt, q⟩ := h
    obtain ⟨dx, t, vs, hs1, -⟩ := id hs
    refine ⟨_, PSs.nox (pss_cons (ps_for PassesOwn.never rfl (pi_tup (pv 1)) (pg_name (i := 3) sc_leads_outside.nd rfl (Or.inl rfl))
 (pss_one (ps_for PassesOwn.never rfl (pi_tup (pe_meth (pv 0) T.cl_System T.m_System_operands (ok_System_operands T) (hr.mono (by decide)) (bd_System_operands T) .nil pass0 (pa_cons (pv 3) pa_nil))) (pg_name (i := 4) sc_leads_outside.nd rfl (Or.inl rfl))
 (pss_one (ps_if (PW.pt (pw_and (pt_cmpR op_in_seq (pv 4) (pv 2) (by rfl)) (pw_and1 (pt_cmpR op_notIn_seq (pv 4) (pv 1) (by rfl)))))
 (pss_one (ps_ret pe_bl))
 pss_nil)))))
 (pss_one (ps_ret pe_bl))), ?_⟩
    refine ⟨_, rfl, c, rfl, ⟨_, SqT.of hc⟩, ?_⟩
    refine for_tup (K := K) (a := c) (xs := D.map vn) (fun i σ H' => H' = H ∧ (∃ a e, σ = [some (.ref s), some (.ref c), some (.ref b), a, e]) ∧ ∀ x ∈ D.take i, ∀ o ∈ (sysOf rows).ops x, ¬ (o ∈ W ∧ o ∉ D))
      ⟨rfl, ⟨_, _, rfl⟩, by simp⟩ (fun i σ H' _ h => h.1 ▸ SqT.of hc) ?_ ?_
    · rintro i x σ H' hx ⟨rfl, ⟨a, e, rfl⟩, hi⟩
      obtain ⟨x, hx1, rfl⟩ := map_at hx
      have hxD : x ∈ D := List.mem_of_getElem? hx1
      obtain ⟨r, hr0⟩ := row_at (rows := rows) (hlt x hxD)
      refine ⟨_, rfl, s, _, _, rfl, hs1, rfl, _, rfl, s, rows, x, r, rfl, hs, hr0, fun o ho => ?_⟩
      refine ⟨o, rfl, ⟨_, SqT.of ho⟩, ?_⟩
      refine for_tup (K := K) (a := o) (xs := r.ops.map vn) (fun j σ H'' => H'' = H' ∧ (∃ e, σ = [some (.ref s), some (.ref c), some (.ref b), some (vn x), e]) ∧ ∀ o ∈ r.ops.take j, ¬ (o ∈ W ∧ o ∉ D))
        ⟨rfl, ⟨_, rfl⟩, by simp⟩ (fun i σ H'' _ h => h.1 ▸ SqT.of ho) ?_ ?_
      · rintro j y σ H'' hy ⟨rfl, ⟨e, rfl⟩, hj⟩
        obtain ⟨y, hy1, rfl⟩ := map_at hy
        have hyo : y ∈ r.ops := List.mem_of_getElem? hy1
        refine ⟨_, rfl, _, rfl, b, _, rfl, hb, rfl, flat_cells _, _, rfl, ?_⟩
        rw [inV_cells]
        by_cases hyW : y ∈ W
        · rw [decide_eq_true hyW]
          refine iteT ⟨_, rfl, _, rfl, c, _, rfl, .inr (SqT.of hc), rfl, flat_cells _, _, rfl, ?_⟩
          rw [inV_cells]
          by_cases hyD : y ∈ D
          · rw [decide_eq_true hyD]
            refine iteF ⟨rfl, ⟨_, rfl⟩, fun o ho => ?_⟩
            rcases mem_takeS hy1 ho with h | rfl
            · exact hj o h
            · exact fun z => z.2 hyD
          · rw [decide_eq_false hyD]
            refine iteT ?_
            have e : Bg.leads (sysOf rows) D W = true := by
              unfold Bg.leads
              rw [List.any_eq_true]
              refine ⟨x, hxD, ?_⟩
              rw [sys_ops hr0, List.any_eq_true]
              exact ⟨y, hyo, by simp [hyW, hyD]⟩
            rw [e] at q
            exact q
        · rw [decide_eq_false hyW]
          refine iteF ⟨rfl, ⟨_, rfl⟩, fun o ho => ?_⟩
          rcases mem_takeS hy1 ho with h | rfl
          · exact hj o h
          · exact fun z => hyW z.1
      · rintro σ H'' ⟨rfl, ⟨e, rfl⟩, hj⟩
        refine ⟨rfl, ⟨_, _, rfl⟩, fun z hz => ?_⟩
        rcases mem_takeS hx1 hz with h | rfl
        · exact hi z h
        · rw [sys_ops hr0]
          rw [List.length_map, List.take_length] at hj
          exact hj
    · rintro σ H' ⟨rfl, ⟨a, e, rfl⟩, hi⟩
      rw [List.length_map, List.take_length] at hi
      have e : Bg.leads (sysOf rows) D W = false := Bg.leads_false.mpr fun x hx o ho hW => Classical.byContradiction fun hD => hi x hx o ho ⟨hW, hD⟩
      rw [e] at q
      exact q
/-! ### a dict of cells -/
def dV (n : Nat) (f : Nat → V) : List (Key × V) := (List.range n).map fun (c : Nat) => (Sum.inl (c : Int), f c)
theorem dV_len (n : Nat) (f : Nat → V) : (dV n f).length = n := by simp [dV]
theorem dV_val (f : Nat → V) : ∀ (n c : Nat), valV (dV n f) (Sum.inl (c : Int) : Key) = if c < n then some (f c) else none
  | 0, c => by simp [dV, valV]
  | n + 1, c => by
    have e : dV (n + 1) f = dV n f ++ [(Sum.inl (n : Int), f n)] := by simp [dV, List.range_succ]
    have h0 : valV (dV n f) (Sum.inl (n : Int) : Key) = none := by rw [dV_val f n n, if_neg (Nat.lt_irrefl _)]
    rw [e, valV_snoc _ _ _ _ h0, dV_val f n c]
    by_cases h : c = n
    · subst h
      rw [if_pos rfl, if_pos (Nat.lt_succ_self _)]
    · rw [if_neg (fun z => h (by have := Sum.inl.inj z; omega))]
      by_cases h2 : c < n
      · rw [if_pos h2, if_pos (by omega)]
      · rw [if_neg h2, if_neg (by omega)]
theorem dV_put (f : Nat → V) (n : Nat) : putK (dV n f) (Sum.inl (n : Int) : Key) (f n) = dV (n + 1) f := by
  rw [putK_new _ (by rw [dV_val f n n, if_neg (Nat.lt_irrefl _)])]
  simp [dV, List.range_succ]
theorem dV_congr {n : Nat} {f g : Nat → V} (h : ∀ c, c < n → f c = g c) : dV n f = dV n g := by
  unfold dV
  exact List.map_congr_left fun c hc => by rw [h c (List.mem_range.mp hc)]
/-! ### unordered_components -/
theorem sc_unordered_components : FnScope ["system", "cells", "cell", "reached", "found", "component", "other"] ["system", "cells"] (defScope s_unordered_components) := ⟨rfl, rfl, rfl, by decide +kernel, rfl, by decide +kernel, by decide +kernel⟩
theorem bd_unordered_components {K : PySem.W.Frag} {mg : Str → Option Value} (T : Tx K mg) : Binds K (fdOf K (He.ga K "unordered_components")) ["system", "cells"] [] := T.F_unordered_components.bindsN (fun _ _ _ _ _ _ us hl => match us, hl with | [_, _], _ => rfl)
def sp_unordered_components (K : PySem.W.Frag) : Sp := fun vs H Q _ => ∃ (s t : Addr) (rows : List Row), vs = [.ref s, .ref t] ∧ SysAt K H s rows ∧ RowsOk rows ∧ H t = some (.tup (cellsV rows.length)) ∧
  ∀ H' p us, Same H H' → H p = none → H' p = some (.lst us) → TupsAt H' us ((Bg.whole (sysOf rows)).map (·.map vn)) → Q (.ref p) H'
theorem ok_unordered_components (T : Tx K mg) : FO P w K mg base 5 (He.ga K "unordered_components") ["system", "cells"] (sp_unordered_components K) := by
  refine T.F_unordered_components.ok sc_unordered_components (fun vs H Q E h => ?_) (fun cdv A outer s H vs Q E hr h => ?_)
  · obtain ⟨s, t, rows, rfl, _⟩ := h; rfl
  · obtain ⟨s, t, rows, rfl, hs, hok, ht, q⟩ := h
    refine ⟨_, PSs.nox (pss_cons (ps_set (i := 3) sc_unordered_components.nd rfl (Or.inr rfl) (pe_dc (own := [("cell", 2)]) (g := gName 2) rfl sc_unordered_components.nd (pi_tup (pv 1)) (blkOk_by (own := [("cell", 2)]) (N := ["system", "cells", "cell", "reached", "found", "component", "other"]) (sc := defScope s_unordered_components) (by decide +kernel)) (fun _ _ _ _ _ => (pg_name (i := 2) sc_unordered_components.nd rfl (by first | exact Or.inl rfl | exact Or.inr rfl))) (fun _ _ _ _ _ => pts_nil) (fun _ _ _ _ _ => (pv 2)) (fun _ _ _ _ _ => (pe_call (ok_reach_among T) (hr.mono (by decide)) rfl T.g_reach_among T.F_reach_among.kp (bd_reach_among T) .nil pass0 (pa_cons (pv 0) (pa_cons (pv 2) (pa_cons (pv 1) pa_nil)))))))
 (pss_cons (ps_set (i := 4) sc_unordered_components.nd rfl (Or.inl rfl) (pe_lst pa_nil))
 (pss_cons (ps_for PassesOwn.never rfl (pi_tup (pv 1)) (pg_name (i := 2) sc_unordered_components.nd rfl (Or.inr rfl))
 (pss_cons (ps_set (i := 5) sc_unordered_components.nd rfl (Or.inl rfl) (pe_callTy call_tuple_of (by rfl) T.b_tuple (by decide +kernel) (pa_cons (pe_lc (own := [("other", 6)]) (g := gName 6) rfl sc_unordered_components.nd (pi_tup (pv 1)) (blkOk_by (own := [("other", 6)]) (N := ["system", "cells", "cell", "reached", "found", "component", "other"]) (sc := defScope s_unordered_components) (by decide +kernel)) (fun _ _ _ _ _ => (pg_name (i := 6) sc_unordered_components.nd rfl (by first | exact Or.inl rfl | exact Or.inr rfl))) (fun _ _ _ _ _ => pts_one (PW.pt (pw_and (pt_cmpR (op_in_seqK (K := K)) (pv 6) (pe_dget (hu_of hr) (pv 3) (pv 2) (fun _ _ => rfl)) (by rfl)) (pw_and1 (pt_cmpR (op_in_seqK (K := K)) (pv 2) (pe_dget (hu_of hr) (pv 3) (pv 6) (fun _ _ => rfl)) (by rfl)))))) (fun _ _ _ _ _ => (pv 6))) pa_nil)))
 (pss_one (ps_if (pt_cmpR op_eq (pe_ix ix_tup (pv 5) pe_int (fun _ _ => rfl)) (pv 2) (nomark _))
 (pss_one (ps_expr (pe_bm PySem.F.plainAttrs_list PySem.F.slot_list_append PySem.F.type_list_append mt_append (pv 4) (pa_cons (pv 5) pa_nil))))
 pss_nil))))
 (pss_one (ps_ret (pv 4)))))), ?_⟩
    -- reached = {..}
    refine ⟨_, rfl, t, rfl, ⟨_, SqT.of ht⟩, fun D hD => ?_⟩
    have ntD : t ≠ D := ne_of_none ht hD
    refine dc_tup (K := K) (a := t) (xs := cellsV rows.length) (fun i H' => Same H H' ∧ ∃ f : Nat → Addr, H' D = some (.dK (dV i fun c => .ref (f c))) ∧ ∀ c, c < i → ∃ xs : List Nat, H' (f c) = some (.lst (xs.map vn)) ∧ ∀ o, o ∈ xs ↔ Bg.Reach (sysOf rows) c o)
      ⟨same_upd hD, fun _ => 0, upd_same, fun c hc => absurd hc (Nat.not_lt_zero _)⟩ (fun i H' _ h => SqT.of (h.1 _ _ ht)) ?_ ?_
    · rintro i x H1 hx ⟨s1, f, hd, hf⟩
      obtain ⟨y, hy, rfl⟩ := map_at hx
      have hi : i < rows.length := by
        have := (List.getElem?_eq_some_iff.mp hy).1
        simpa using this
      obtain rfl : y = i := by
        rw [List.getElem?_range hi] at hy
        exact (Option.some.inj hy).symm
      refine ⟨rfl, tyes ⟨_, rfl, _, rfl, _, rfl, _, rfl, s, t, rows, y, rfl, hs.same s1, hok, s1 _ _ ht, hi, fun H2 p xs s2 hp hp2 hxs => ?_⟩⟩
      have hd2 := s2 _ _ hd
      have hle := hok.le
      refine ⟨_, Sum.inl (y : Int), rfl, hd2, by rw [dV_len]; exact small1000 (by omega), sameN (s1.trans s2) hD, fun c => if c = y then p else f c, ?_, fun c hc => ?_⟩
      · rw [upd_same]
        have e1 : dV y (fun c => V.ref (f c)) = dV y (fun c => V.ref (if c = y then p else f c)) := dV_congr fun c hc => by rw [if_neg (by omega)]
        rw [e1]
        have := dV_put (fun c => V.ref (if c = y then p else f c)) y
        simp only [if_true] at this
        rw [← this]
      · by_cases h : c = y
        · subst h
          have : p ≠ D := Ne.symm (ne_of_none hd hp)
          refine ⟨xs, ?_, hxs⟩
          show upd H2 D _ (if c = c then p else f c) = _
          rw [if_pos rfl, upd_ne this]
          exact hp2
        · obtain ⟨zs, h1, h2⟩ := hf c (by omega)
          have h1 := s2 _ _ h1
          refine ⟨zs, ?_, h2⟩
          show upd H2 D _ (if c = y then p else f c) = _
          rw [if_neg h, upd_ne (ne_of h1 hd2 (by simp))]
          exact h1
    · rintro H1 ⟨s1, f, hd, hf⟩
      rw [show (cellsV rows.length).length = rows.length from by simp [cellsV]] at hd hf
      refine ⟨Nat.zero_le _, fun g hg => ?_⟩
      have hg0 := s1.free hg
      have hgD : D ≠ g := ne_of_none hd hg
      refine ⟨_, rfl, t, rfl, ⟨_, SqT.of (by rw [upd_ne (ne_of_none (s1 _ _ ht) hg)]; exact s1 _ _ ht)⟩, ?_⟩
      refine for_tup (K := K) (a := t) (xs := cellsV rows.length) (fun i σ H' => Same H1 H' ∧ (∃ cv cm, σ = [some (.ref s), some (.ref t), cv, some (.ref D), some (.ref g), cm, none]) ∧
          ∃ us, H' g = some (.lst us) ∧ TupsAt H' us ((((List.range i).filter fun c => decide ((Bg.partOf (sysOf rows) c).head? = some c)).map (Bg.partOf (sysOf rows))).map (·.map vn)))
        ⟨same_upd hg, ⟨_, _, rfl⟩, [], upd_same, .nil⟩ (fun i σ H' _ h => SqT.of (h.1 _ _ (s1 _ _ ht))) ?_ ?_
      · rintro i x σ H2 hx ⟨s2, ⟨cv, cm, rfl⟩, us, hus, htu⟩
        obtain ⟨y, hy, rfl⟩ := map_at hx
        have hi : i < rows.length := by
          have := (List.getElem?_eq_some_iff.mp hy).1
          simpa using this
        obtain rfl : y = i := by
          rw [List.getElem?_range hi] at hy
          exact (Option.some.inj hy).symm
        have ht2 := s2 _ _ (s1 _ _ ht)
        refine ⟨_, rfl, t, rfl, ⟨_, SqT.of ht2⟩, fun L hL => ?_⟩
        refine lc_tup (K := K) (a := t) (xs := cellsV rows.length) (fun i H' => Same H2 H' ∧ H' L = some (.lst (((List.range i).filter fun o => Bg.rch (sysOf rows) y o && Bg.rch (sysOf rows) o y).map vn)))
          ⟨same_upd hL, upd_same⟩ (fun i H' _ h => SqT.of (h.1 _ _ ht2)) ?_ ?_
        · rintro j x H3 hx ⟨s3, h3⟩
          obtain ⟨z, hz, rfl⟩ := map_at hx
          have hj : j < rows.length := by
            have := (List.getElem?_eq_some_iff.mp hz).1
            simpa using this
          obtain rfl : z = j := by
            rw [List.getElem?_range hj] at hz
            exact (Option.some.inj hz).symm
          obtain ⟨xs, hx1, hx2⟩ := hf y hi
          obtain ⟨zs, hz1, hz2⟩ := hf z hj
          have hd3 := s3 _ _ (s2 _ _ hd)
          have hle := hok.le
          have edy : valV (dV rows.length fun c => V.ref (f c)) (Sum.inl (y : Int) : Key) = some (.ref (f y)) := by rw [dV_val, if_pos hi]
          have edz : valV (dV rows.length fun c => V.ref (f c)) (Sum.inl (z : Int) : Key) = some (.ref (f z)) := by rw [dV_val, if_pos hj]
          have inx : decide (z ∈ xs) = Bg.rch (sysOf rows) y z := Bool.eq_iff_iff.mpr (by rw [Bg.rch_iff, decide_eq_true_iff]; exact hx2 z)
          have inz : decide (y ∈ zs) = Bg.rch (sysOf rows) z y := Bool.eq_iff_iff.mpr (by rw [Bg.rch_iff, decide_eq_true_iff]; exact hz2 y)
          refine ⟨rfl, _, rfl, _, rfl, _, rfl, D, _, rfl, edy ▸ DGet.k (k := Sum.inl (y : Int)) hd3, _, _, rfl, .inl (SqL.of (s3 _ _ (s2 _ _ hx1))), rfl, flat_cells _, _, rfl, ?_⟩
          rw [show (if false = true then !inV (vn z) (xs.map vn) else inV (vn z) (xs.map vn)) = Bg.rch (sysOf rows) y z from by
            rw [← inx]; exact inV_cells z xs]
          have keep : ∀ b, b = (Bg.rch (sysOf rows) y z && Bg.rch (sysOf rows) z y) → (if b = true then ∃ acc, H3 L = some (.lst acc) ∧ acc.length < sizeLine ∧ Same H2 (upd H3 L (.lst (acc ++ [vn z]))) ∧ upd H3 L (.lst (acc ++ [vn z])) L = some (.lst (((List.range (z + 1)).filter fun o => Bg.rch (sysOf rows) y o && Bg.rch (sysOf rows) o y).map vn))
              else Same H2 H3 ∧ H3 L = some (.lst (((List.range (z + 1)).filter fun o => Bg.rch (sysOf rows) y o && Bg.rch (sysOf rows) o y).map vn))) := by
            rintro b rfl
            have hlen : ((List.range z).filter fun o => Bg.rch (sysOf rows) y o && Bg.rch (sysOf rows) o y).length ≤ z := by
              have := List.length_filter_le (fun o => Bg.rch (sysOf rows) y o && Bg.rch (sysOf rows) o y) (List.range z)
              simpa using this
            cases e : (Bg.rch (sysOf rows) y z && Bg.rch (sysOf rows) z y) with
            | true =>
              refine iteT ⟨_, h3, small1000 (by rw [List.length_map]; omega), sameN s3 hL, ?_⟩
              rw [upd_same, List.range_succ, List.filter_append, List.filter_cons, e]
              simp
            | false =>
              refine iteF ⟨s3, ?_⟩
              rw [h3, List.range_succ, List.filter_append, List.filter_cons, e]
              simp
          cases e1 : Bg.rch (sysOf rows) y z with
          | true =>
            refine iteT ⟨_, rfl, _, rfl, _, rfl, D, _, rfl, edz ▸ DGet.k (k := Sum.inl (z : Int)) hd3, _, _, rfl, .inl (SqL.of (s3 _ _ (s2 _ _ hz1))), rfl, flat_cells _, _, rfl, ?_⟩
            rw [show (if false = true then !inV (vn y) (zs.map vn) else inV (vn y) (zs.map vn)) = Bg.rch (sysOf rows) z y from by
              rw [← inz]; exact inV_cells y zs]
            have k := keep _ rfl
            rw [e1, Bool.true_and] at k
            cases e2 : Bg.rch (sysOf rows) z y with
            | true =>
              rw [e2] at k
              rw [if_pos rfl] at k
              exact iteT ⟨_, rfl, k⟩
            | false =>
              rw [e2, if_neg (by decide)] at k
              exact iteF k
          | false =>
            have k := keep _ rfl
            rw [e1, Bool.false_and, if_neg (by decide)] at k
            exact iteF k
        · rintro H3 ⟨s3, h3⟩
          rw [show (cellsV rows.length).length = rows.length from by simp [cellsV]] at h3
          have e3 : ((List.range rows.length).filter fun o => Bg.rch (sysOf rows) y o && Bg.rch (sysOf rows) o y) = Bg.partOf (sysOf rows) y := rfl
          rw [e3] at h3
          refine ⟨L, _, rfl, .inl ⟨SqL.of h3, fun l hl => ?_⟩⟩
          have hg2 : H3 g = some (.lst us) := s3 _ _ hus
          have ngl : g ≠ l := ne_of_none hg2 hl
          obtain ⟨m, r, hm⟩ : ∃ m r, Bg.partOf (sysOf rows) y = m :: r := by
            cases e : Bg.partOf (sysOf rows) y with
            | nil => have z := Bg.part_self (S := sysOf rows) (c := y) hi; rw [e] at z; simp at z
            | cons m r => exact ⟨m, r, rfl⟩
          have s4 : Same H2 (upd H3 l (.tup ((Bg.partOf (sysOf rows) y).map vn))) := sameN s3 (s3.free hl)
          generalize hH4 : upd H3 l (.tup ((Bg.partOf (sysOf rows) y).map vn)) = H4 at s4
          have hl4 : H4 l = some (.tup ((Bg.partOf (sysOf rows) y).map vn)) := by rw [← hH4]; exact upd_same
          have hg4 : H4 g = some (.lst us) := s4 _ _ hus
          have filt : ((List.range (y + 1)).filter fun c => decide ((Bg.partOf (sysOf rows) c).head? = some c)) =
              ((List.range y).filter fun c => decide ((Bg.partOf (sysOf rows) c).head? = some c)) ++ if m = y then [y] else [] := by
            rw [List.range_succ, List.filter_append, List.filter_cons, hm]
            by_cases h : m = y <;> simp [h]
          refine ⟨_, rfl, l, _, _, vn m, rfl, rfl, SqT.of hl4, atI_nat (j := 0) (by rw [hm]; rfl), _, rfl, rfl, _, rfl, ?_⟩
          by_cases h : m = y
          · subst h
            have hlen : us.length ≤ m := by
              rw [htu.1, List.length_map, List.length_map]
              have := List.length_filter_le (fun c => decide ((Bg.partOf (sysOf rows) c).head? = some c)) (List.range m)
              simpa using this
            have hle := hok.le
            rw [decide_eq_true rfl]
            refine iteT ⟨_, rfl, .inl ⟨rfl, _, SqL.of hg4⟩, _, rfl, g, _, _, rfl, rfl, hg4, small1000 (by omega), sameN (s2.trans s4) hg, ⟨_, _, rfl⟩, _, upd_same, ?_⟩
            rw [filt, if_pos rfl, List.map_append, List.map_append]
            have nlg : l ≠ g := Ne.symm ngl
            refine TupsAt.snoc ⟨htu.1, fun i d hd => ?_⟩ (by rw [upd_ne nlg]; exact hl4)
            obtain ⟨b, h1, h2⟩ := htu.2 i d hd
            have nb : b ≠ g := ne_of h2 hus (by simp)
            exact ⟨b, h1, by rw [upd_ne nb]; exact s4 _ _ h2⟩
          · rw [decide_eq_false (fun e => h (by have := V.int.inj e; omega))]
            refine iteF ⟨s2.trans s4, ⟨_, _, rfl⟩, us, hg4, ?_⟩
            rw [filt, if_neg h, List.append_nil]
            exact htu.same s4
      · rintro σ H2 ⟨s2, ⟨cv, cm, rfl⟩, us, hus, htu⟩
        rw [show (cellsV rows.length).length = rows.length from by simp [cellsV]] at htu
        exact ⟨_, rfl, q _ _ us (s1.trans s2) hg0 hus htu⟩
end
end BgT
set_option Elab.async false
set_option linter.all false
set_option maxRecDepth 100000
set_option maxHeartbeats 4000000
namespace BgT
open PySem PySem.Spec PyProof.Rows L2
/-- a walk, what a turn does being given -/
theorem walk_any {J : It} {n : Nat} {G : Hp → Prop} {Y : Nat → Hp → V → Hp → Prop} (w : Walk J n G Y) {Body : (Hp → Prop) → V → Hp → Prop} {Qd : Hp → Prop} {H0 : Hp} (Pv : Nat → Hp → Prop) (h0 : Pv 0 H0) (hG : ∀ i H, i ≤ n → Pv i H → G H)
    (hs : ∀ i x H H', i < n → Pv i H → Y i H x H' → Body (Pv (i + 1)) x H') (hd : ∀ H, Pv n H → Qd H) :
    ∃ W : Nat → Nat → Hp → Prop, (∃ m, W 0 m H0) ∧ ∀ i m H, W i m H →
      (J.stop i H ∧ Qd H) ∨ (J.go i H ∧ ∃ Nx : Hp → Prop, (∀ H', Nx H' → ∃ m', m' < m ∧ W (i + 1) m' H') ∧ ∀ x H', J.yld i H x H' → Body Nx x H') := by
  refine ⟨fun i m H => m = n - i ∧ i ≤ n ∧ Pv i H, ⟨n, by simp, Nat.zero_le _, h0⟩, ?_⟩
  rintro i m H ⟨rfl, hi, p⟩
  have q := hG i H hi p
  by_cases hlt : i < n
  · exact .inr ⟨w.goes i H hlt q, Pv (i + 1), fun H' p' => ⟨n - (i + 1), by omega, rfl, hlt, p'⟩, fun x H' y => hs i x H H' hlt p (w.yields i H x H' hlt q y)⟩
  · have e : i = n := by omega
    subst e
    exact .inl ⟨w.stops H q, hd H p⟩
theorem flat_len {W : List (List Nat)} {m : Nat} (h : ∀ D ∈ W, D.length ≤ m) : W.flatten.length ≤ m * W.length := by
  induction W with
  | nil => simp
  | cons D W ih =>
    have h1 := ih fun x hx => h x (by simp [hx])
    have h2 := h D (by simp)
    simp only [List.flatten_cons, List.length_append, List.length_cons]
    rw [Nat.mul_succ]
    omega
theorem asc_len {D : List Nat} {n : Nat} (h : D.Pairwise (· < ·)) (hn : ∀ x ∈ D, x < n) : D.length ≤ n :=
  Bg.nodup_le _ _ (h.imp fun z => Nat.ne_of_lt z) hn
theorem whole_len (S : Bg.Sys) : (Bg.whole S).length ≤ S.n := by
  unfold Bg.whole
  rw [List.length_map]
  have := List.length_filter_le (fun c => decide ((Bg.partOf S c).head? = some c)) (List.range S.n)
  simpa using this
section
variable {P : Program} {w : World} {K : PySem.W.Frag} {mg : Str → Option Value} {base : Heap}
theorem TupsAt.filt {H : Hp} {us : List V} {ds : List (List V)} (h : TupsAt H us ds) (i : Nat) (hi : i < ds.length) : ∃ a, us[i]? = some (.ref a) ∧ H a = some (.tup ds[i]) := h.2 i _ (List.getElem?_eq_getElem hi)
abbrev CsAt (H : Hp) (us : List V) (W : List (List Nat)) : Prop := TupsAt H us (W.map (·.map vn))
theorem CsAt.get {H : Hp} {us : List V} {W : List (List Nat)} (h : CsAt H us W) {i : Nat} {v : V} (e : us[i]? = some v) : ∃ a D, v = .ref a ∧ W[i]? = some D ∧ H a = some (.tup (D.map vn)) := by
  obtain ⟨a, d, e1, e2, e3⟩ := TupsAt.get h e
  obtain ⟨D, h1, h2⟩ := map_at e2
  exact ⟨a, D, e1, h1, h2 ▸ e3⟩
theorem CsAt.at_ {H : Hp} {us : List V} {W : List (List Nat)} (h : CsAt H us W) {i : Nat} {D : List Nat} (e : W[i]? = some D) : ∃ a, us[i]? = some (.ref a) ∧ H a = some (.tup (D.map vn)) := h.2 i _ (by rw [List.getElem?_map, e]; rfl)
theorem CsAt.len {H : Hp} {us : List V} {W : List (List Nat)} (h : CsAt H us W) : us.length = W.length := by rw [h.1, List.length_map]
theorem CsAt.snoc {H : Hp} {us : List V} {W : List (List Nat)} {a : Addr} {D : List Nat} (h : CsAt H us W) (e : H a = some (.tup (D.map vn))) : CsAt H (us ++ [.ref a]) (W ++ [D]) := by
  show TupsAt H _ _
  rw [List.map_append]
  exact TupsAt.snoc h e
/-- a list is written that is none of these -/
theorem CsAt.upd {H : Hp} {us : List V} {W : List (List Nat)} {a : Addr} {xs : List V} {o : HO} (h : CsAt H us W) (e : H a = some (.lst xs)) : CsAt (upd H a o) us W :=
  ⟨h.1, fun i d hd => by
    obtain ⟨b, h1, h2⟩ := h.2 i d hd
    exact ⟨b, h1, by rw [upd_ne (ne_of h2 e (by simp))]; exact h2⟩⟩
theorem CsAt.same {H H' : Hp} {us : List V} {W : List (List Nat)} (h : CsAt H us W) (s : Same H H') : CsAt H' us W := TupsAt.same h s
theorem CsAt.nil {H : Hp} : CsAt H [] [] := TupsAt.nil
theorem take_succ_flat {W : List (List Nat)} {i : Nat} {D : List Nat} (h : W[i]? = some D) : (W.take (i + 1)).flatten = (W.take i).flatten ++ D := Bg.take_flat h
/-! ### components_among -/
theorem sc_components_among : FnScope ["system", "cells", "waiting", "found", "left", "ready", "component", "cell"] ["system", "cells"] (defScope s_components_among) := ⟨rfl, rfl, rfl, by decide +kernel, rfl, by decide +kernel, by decide +kernel⟩
theorem bd_components_among {K : PySem.W.Frag} {mg : Str → Option Value} (T : Tx K mg) : Binds K (fdOf K (He.ga K "components_among")) ["system", "cells"] [] := T.F_components_among.bindsN (fun _ _ _ _ _ _ us hl => match us, hl with | [_, _], _ => rfl)
def sp_components_among (K : PySem.W.Frag) : Sp := fun vs H Q _ => ∃ (s t : Addr) (rows : List Row), vs = [.ref s, .ref t] ∧ SysAt K H s rows ∧ RowsOk rows ∧ H t = some (.tup (cellsV rows.length)) ∧
  ∀ H' p us, Same H H' → H p = none → H' p = some (.tup us) → CsAt H' us (Bg.comps (sysOf rows)) → Q (.ref p) H'
theorem ok_components_among (T : Tx K mg) : FO P w K mg base 6 (He.ga K "components_among") ["system", "cells"] (sp_components_among K) := by
  refine T.F_components_among.ok sc_components_among (fun vs H Q E h => ?_) (fun cdv A outer s H vs Q E hr h => ?_)
  · obtain ⟨s, t, rows, rfl, _⟩ := h; rfl
  · obtain ⟨s, t, rows, rfl, hs, hok, ht, q⟩ := h
    refine ⟨_, PSs.nox (pss_cons (ps_set (i := 2) sc_components_among.nd rfl (Or.inl rfl) (pe_call (ok_unordered_components T) (hr.mono (by decide)) rfl T.g_unordered_components T.F_unordered_components.kp (bd_unordered_components T) .nil pass0 (pa_cons (pv 0) (pa_cons (pv 1) pa_nil))))
 (pss_cons (ps_set (i := 3) sc_components_among.nd rfl (Or.inl rfl) (pe_lst pa_nil))
 (pss_cons (ps_while PassesOwn.never (pt_cmpR (op_neNil hr.units) (pv 2) (pe_lst pa_nil) (nomark _))
 (pss_cons (ps_set (i := 4) sc_components_among.nd rfl (Or.inr rfl) (pe_lc2 (own := [("component", 6), ("cell", 7)]) (vs1 := [7]) (g := gName 6) (g1 := gName 7) rfl sc_components_among.nd (pi_list (pv 2)) (blkOk_by (own := [("component", 6), ("cell", 7)]) (N := ["system", "cells", "waiting", "found", "left", "ready", "component", "cell"]) (sc := defScope s_components_among) (by decide +kernel)) (by decide) (fun _ _ _ _ _ => (pg_name (i := 6) sc_components_among.nd rfl (by first | exact Or.inl rfl | exact Or.inr rfl))) (fun _ _ _ _ _ => pts_nil) (fun _ _ _ _ _ => (pi_tupK (K := K) (pv 6))) (fun _ _ _ _ _ => (pg_name (i := 7) sc_components_among.nd rfl (by first | exact Or.inl rfl | exact Or.inr rfl))) (fun _ _ _ _ _ => pts_nil) (fun _ _ _ _ _ => (pv 7))))
 (pss_cons (ps_set (i := 5) sc_components_among.nd rfl (Or.inr rfl) (pe_lc (own := [("component", 6)]) (g := gName 6) rfl sc_components_among.nd (pi_list (pv 2)) (blkOk_by (own := [("component", 6)]) (N := ["system", "cells", "waiting", "found", "left", "ready", "component", "cell"]) (sc := defScope s_components_among) (by decide +kernel)) (fun _ _ _ _ _ => (pg_name (i := 6) sc_components_among.nd rfl (by first | exact Or.inl rfl | exact Or.inr rfl))) (fun _ _ _ _ _ => pts_one (pt_not (pt_val (pe_call (ok_leads_outside T) (hr.mono (by decide)) rfl T.g_leads_outside T.F_leads_outside.kp (bd_leads_outside T) .nil pass0 (pa_cons (pv 0) (pa_cons (pv 6) (pa_cons (pv 4) pa_nil))))))) (fun _ _ _ _ _ => (pv 6))))
 (pss_cons (ps_expr (pe_bm PySem.F.plainAttrs_list PySem.F.slot_list_append PySem.F.type_list_append mt_append (pv 3) (pa_cons (pe_ix ix_list (pv 5) pe_int (fun _ _ => rfl)) pa_nil)))
 (pss_one (ps_setLc (i := 2) (own := [("component", 6)]) (g := gName 6) rfl sc_components_among.nd rfl rfl (sw_true rfl rfl rfl (by decide +kernel)) (pi_list (pv 2)) (blkOk_by (own := [("component", 6)]) (N := ["system", "cells", "waiting", "found", "left", "ready", "component", "cell"]) (sc := defScope s_components_among) (by decide +kernel)) (fun _ _ _ _ _ => (pg_name (i := 6) sc_components_among.nd rfl (by first | exact Or.inl rfl | exact Or.inr rfl))) (fun _ _ _ _ _ => pts_one (pt_cmpR (op_neDK (K := K) hr.units) (pv 6) (pe_ix (ix_listK (K := K)) (pv 5) pe_int (fun _ _ => rfl)) (nomark _))) (fun _ _ _ _ _ => (pv 6))))))))
 (pss_one (ps_ret (pe_callTy call_tuple_of (by rfl) T.b_tuple (by decide +kernel) (pa_cons (pv 3) pa_nil))))))), ?_⟩
    refine ⟨_, rfl, _, rfl, s, t, rows, rfl, hs, hok, ht, fun H1 wa us s1 hwa h1 hcs => ?_⟩
    refine ⟨Nat.zero_le _, fun fo hfo => ?_⟩
    have hle := hok.le
    refine while_ne (fun σ H' => ∃ (wa fo : Addr) (us gs : List V) (W G : List (List Nat)) (l r : Option V), σ = [some (.ref s), some (.ref t), some (.ref wa), some (.ref fo), l, r, none, none] ∧ Same H H' ∧ H fo = none ∧ H' wa = some (.lst us) ∧ CsAt H' us W ∧
        H' fo = some (.lst gs) ∧ CsAt H' gs G ∧ (∃ f, W.length ≤ f ∧ Bg.comps (sysOf rows) = G ++ Bg.order (sysOf rows) f W) ∧ (∀ D ∈ W, D ∈ Bg.whole (sysOf rows)) ∧ W.Nodup ∧ wa ≠ fo ∧ W.length + G.length ≤ rows.length)
      (fun (σ : L2.St) (H' : Hp) => match σ[2]? with
        | some (some (V.ref a)) => (match H' a with | some (.lst xs) => xs.length | _ => 0)
        | _ => 0)
      ⟨wa, fo, us, [], Bg.whole (sysOf rows), [], _, _, rfl, sameN s1 (s1.free hfo), s1.free hfo, by rw [upd_ne (ne_of_none h1 hfo)]; exact h1, hcs.same (same_upd hfo), upd_same, .nil,
        ⟨_, Nat.le_refl _, rfl⟩, fun D hD => hD, Bg.whole_nodup, ne_of_none h1 hfo, whole_len (sysOf rows)⟩ ?_
    rintro σ H1 ⟨wa, fo, us, gs, W, G, l, r, rfl, s1, hf0, h1, hW, h2, hG, ⟨f, hf, hcomp⟩, hwh, hnd, nwf, hlen⟩
    have hpd : DpAll K H1 us (W.map fun D => .tuple (D.map pdC)) := dpAll_tups vn pdC dp_C hW
    refine ⟨wa, us, _, 1, rfl, h1, hpd, ?_, by decide, fun p hp nap => ⟨?_, fun hne => ?_, fun he => ?_⟩⟩
    · intro d hd
      obtain ⟨D, _, rfl⟩ := List.mem_map.mp hd
      exact Shal.tup (shal_cells D)
    · exact dpAll_tups vn pdC dp_C (hW.same (same_upd hp))
    · -- a turn
      have hneW : W ≠ [] := by
        rintro rfl
        have := hW.len
        simp at this
        exact hne this
      obtain ⟨D0, r0, hrd⟩ := Bg.rdy_some hwh hneW
      obtain ⟨f, rfl⟩ : ∃ f', f = f' + 1 := by
        cases f with
        | zero => cases W with
          | nil => exact absurd rfl hneW
          | cons _ _ => simp at hf
        | succ f => exact ⟨f, rfl⟩
      have hD0 := (Bg.rdy_cons hrd).1
      have hDlt : ∀ D ∈ W, ∀ x ∈ D, x < rows.length := fun D hD x hx => Bg.whole_lt (hwh D hD) hx
      have hDlen : ∀ D ∈ W, D.length ≤ rows.length := fun D hD => asc_len (Bg.whole_asc (hwh D hD)) (hDlt D hD)
      have hp0 : H p = none := s1.free hp
      have s1' : Same H (upd H1 p (.lst [])) := sameN s1 hp0
      have h1' : upd H1 p (.lst []) wa = some (.lst us) := by rw [upd_ne nap]; exact h1
      have h2' : upd H1 p (.lst []) fo = some (.lst gs) := by rw [upd_ne (ne_of_none h2 hp)]; exact h2
      have hW' := hW.same (same_upd hp (o := .lst []))
      have hG' := hG.same (same_upd hp (o := .lst []))
      generalize hH2 : upd H1 p (.lst []) = H2 at s1' h1' h2' hW' hG'
      -- left
      refine ⟨_, rfl, wa, rfl, ⟨_, SqL.of h1'⟩, fun L hL => ?_⟩
      refine walk_any (walk_list (K := K) (a := wa) (xs := us)) (fun i H' => Same H2 H' ∧ H' L = some (.lst ((W.take i).flatten.map vn))) ⟨same_upd hL, upd_same⟩ (fun i H' _ h => SqL.of (h.1 _ _ h1')) ?_ ?_
      · rintro i x H3 H3' hi ⟨s3, h3⟩ ⟨rfl, hx⟩
        obtain ⟨a, D, rfl, hD, ha⟩ := hW'.get hx
        have ha3 := s3 _ _ ha
        refine ⟨rfl, tyes ⟨_, rfl, a, rfl, ⟨_, SqT.of ha3⟩, ?_⟩⟩
        refine walk_any (walk_tup (K := K) (a := a) (xs := D.map vn)) (fun j H' => Same H2 H' ∧ H' L = some (.lst (((W.take i).flatten ++ D.take j).map vn))) ⟨s3, by simpa using h3⟩ (fun i H' _ h => SqT.of (h.1 _ _ ha)) ?_ ?_
        · rintro j y H4 H4' hj ⟨s4, h4⟩ ⟨rfl, hy⟩
          obtain ⟨z, hz, rfl⟩ := map_at hy
          have e1 : ((W.take i).flatten).length ≤ rows.length * (W.take i).length := flat_len fun D hD => hDlen D (List.mem_of_mem_take hD)
          have hDm := List.mem_of_getElem? hD
          have e2 : D.length ≤ rows.length := hDlen D hDm
          have e3 : (W.take i).length ≤ 24 := by rw [List.length_take]; omega
          have e4 : rows.length * (W.take i).length ≤ 24 * 24 := Nat.mul_le_mul hle e3
          refine ⟨rfl, tyes ⟨_, rfl, _, h4, small1000 (by simp only [List.length_map, List.length_append, List.length_take]; omega), sameN s4 hL, ?_⟩⟩
          rw [upd_same, List.take_add_one, hz]
          simp
        · rintro H4 ⟨s4, h4⟩
          refine ⟨s4, ?_⟩
          rw [take_succ_flat hD, h4, List.length_map, List.take_length]
      · rintro H3 ⟨s3, h3⟩
        rw [hW'.len, List.take_length] at h3
        -- ready
        have h1w := s3 _ _ h1'
        refine ⟨_, rfl, wa, rfl, ⟨_, SqL.of h1w⟩, fun R hR => ?_⟩
        have hW3 := hW'.same s3
        refine walk_any (walk_list (K := K) (a := wa) (xs := us)) (fun i H' => Same H3 H' ∧ ∃ rs, H' R = some (.lst rs) ∧ rs.length ≤ i ∧ CsAt H' rs ((W.take i).filter fun D => !Bg.leads (sysOf rows) D W.flatten))
          ⟨same_upd hR, [], upd_same, Nat.le_refl _, .nil⟩ (fun i H' _ h => SqL.of (h.1 _ _ h1w)) ?_ ?_
        · rintro i x H4 H4' hi ⟨s4, rs, h4, hl4, hc4⟩ ⟨rfl, hx⟩
          obtain ⟨a, D, rfl, hD, ha⟩ := hW3.get hx
          have hDm := List.mem_of_getElem? hD
          refine ⟨rfl, _, rfl, _, rfl, _, rfl, s, a, L, rows, D, W.flatten, rfl, hs.same ((s1'.trans s3).trans s4), hok, s4 _ _ ha, .inl (SqL.of (s4 _ _ h3)), hDlt D hDm, _, rfl, ?_⟩
          have hlu : us.length ≤ 24 := by rw [hW'.len]; omega
          cases e : Bg.leads (sysOf rows) D W.flatten with
          | true =>
            refine iteF ⟨s4, rs, h4, by omega, ?_⟩
            rw [List.take_add_one, hD, List.filter_append]
            simpa [e] using hc4
          | false =>
            refine iteT ⟨_, rfl, rs, h4, small1000 (by omega), sameN s4 hR, _, upd_same, by simp; omega, ?_⟩
            rw [List.take_add_one, hD, List.filter_append]
            have := (hc4.upd (o := .lst (rs ++ [.ref a])) h4).snoc (a := a) (D := D) (by rw [upd_ne (ne_of (s4 _ _ ha) h4 (by simp))]; exact s4 _ _ ha)
            simpa [e] using this
        · rintro H4 ⟨s4, rs, h4, hl4, hc4⟩
          rw [hW'.len, List.take_length] at hc4
          have hc4' : CsAt H4 rs (D0 :: r0) := by
            have : CsAt H4 rs (Bg.rdy (sysOf rows) W) := hc4
            rwa [hrd] at this
          obtain ⟨d0, hd0, hd0h⟩ := hc4'.at_ (i := 0) rfl
          -- found.append(ready[0])
          have h2f := s4 _ _ (s3 _ _ h2')
          have hgl : gs.length ≤ 24 := by rw [hG.len]; omega
          refine ⟨_, rfl, .inl ⟨rfl, _, SqL.of h2f⟩, _, rfl, R, _, _, .ref d0, rfl, rfl, SqL.of h4, atI_nat (j := 0) hd0, fo, _, _, rfl, rfl, h2f, small1000 (by omega), ?_⟩
          have hG4 := (hG'.same s3).same s4
          have hG5 : CsAt (upd H4 fo (.lst (gs ++ [.ref d0]))) (gs ++ [.ref d0]) (G ++ [D0]) := (hG4.upd h2f).snoc (by rw [upd_ne (ne_of hd0h h2f (by simp))]; exact hd0h)
          have hW5 : CsAt (upd H4 fo (.lst (gs ++ [.ref d0]))) us W := ((hW3.same s4).upd h2f)
          have s5 : Same H (upd H4 fo (.lst (gs ++ [.ref d0]))) := sameN ((s1'.trans s3).trans s4) hf0
          have h5w : upd H4 fo (.lst (gs ++ [.ref d0])) wa = some (.lst us) := by rw [upd_ne nwf]; exact s4 _ _ h1w
          have hfr : fo ≠ R := by
            intro e
            subst e
            rw [s3 _ _ h2'] at hR
            cases hR
          have h5r : upd H4 fo (.lst (gs ++ [.ref d0])) R = some (.lst rs) := by rw [upd_ne (Ne.symm hfr)]; exact h4
          have h5d : upd H4 fo (.lst (gs ++ [.ref d0])) d0 = some (.tup (D0.map vn)) := by rw [upd_ne (ne_of hd0h h2f (by simp))]; exact hd0h
          have h5f : upd H4 fo (.lst (gs ++ [.ref d0])) fo = some (.lst (gs ++ [.ref d0])) := upd_same
          generalize upd H4 fo (.lst (gs ++ [.ref d0])) = H5 at hG5 hW5 s5 h5w h5r h5d h5f
          -- waiting = [..]
          refine ⟨_, rfl, wa, rfl, ⟨_, SqL.of h5w⟩, fun N hN => ?_⟩
          refine walk_any (walk_list (K := K) (a := wa) (xs := us)) (fun i H' => Same H5 H' ∧ ∃ ns, H' N = some (.lst ns) ∧ ns.length ≤ i ∧ CsAt H' ns ((W.take i).filter fun D => decide (D ≠ D0)))
            ⟨same_upd hN, [], upd_same, Nat.le_refl _, .nil⟩ (fun i H' _ h => SqL.of (h.1 _ _ h5w)) ?_ ?_
          · rintro i x H6 H6' hi ⟨s6, ns, h6, hl6, hc6⟩ ⟨rfl, hx⟩
            obtain ⟨a, D, rfl, hD, ha⟩ := hW5.get hx
            have hlu : us.length ≤ 24 := by rw [hW'.len]; omega
            have ha6 := s6 _ _ ha
            refine ⟨rfl, _, rfl, _, rfl, R, _, _, .ref d0, rfl, rfl, SqL.of (s6 _ _ h5r), atI_nat (j := 0) hd0, ?_⟩
            refine ⟨.tuple (D.map pdC), .tuple (D0.map pdC), .tup (SqT.of ha6) (dpAll_cells D), .tup (SqT.of (s6 _ _ h5d)) (dpAll_cells D0), (Shal.tup (shal_cells D)).ok (by decide), (Shal.tup (shal_cells D0)).ok (by decide), _, rfl, ?_⟩
            rw [show PyData.eqv (.tuple (D.map pdC)) (.tuple (D0.map pdC)) = decide (D = D0) from eqv_tup pdC eqv_pdC D D0]
            by_cases e : D = D0
            · rw [decide_eq_true e]
              refine iteF ⟨s6, ns, h6, by omega, ?_⟩
              rw [List.take_add_one, hD, List.filter_append]
              simpa [e] using hc6
            · rw [decide_eq_false e]
              refine iteT ⟨_, rfl, ns, h6, small1000 (by omega), sameN s6 hN, _, upd_same, by simp; omega, ?_⟩
              rw [List.take_add_one, hD, List.filter_append]
              have := (hc6.upd (o := .lst (ns ++ [.ref a])) h6).snoc (a := a) (D := D) (by rw [upd_ne (ne_of ha6 h6 (by simp))]; exact ha6)
              simpa [e] using this
          · rintro H6 ⟨s6, ns, h6, hl6, hc6⟩
            rw [hW5.len, List.take_length] at hc6
            have hlt : (W.filter fun D => decide (D ≠ D0)).length < W.length := by
              have := (Bg.filter_ne_perm hnd hD0).length_eq
              simp only [List.length_cons] at this
              omega
            have nNf : N ≠ fo := by
              intro e
              subst e
              rw [h5f] at hN
              cases hN
            refine ⟨⟨N, fo, ns, _, _, _, _, _, rfl, s5.trans s6, hf0, h6, hc6, s6 _ _ h5f, hG5.same s6, ⟨f, by omega, ?_⟩, fun D hD => hwh D (List.mem_filter.mp hD).1, hnd.filter _, nNf, ?_⟩, ?_⟩
            · rw [hcomp]
              simp only [Bg.order, hrd, List.append_assoc, List.singleton_append]
            · simp only [List.length_append, List.length_cons, List.length_nil]
              omega
            · show (match H6 N with | some (.lst xs) => xs.length | _ => 0) < (match H1 wa with | some (.lst xs) => xs.length | _ => 0)
              rw [h6, h1]
              show ns.length < us.length
              rw [hc6.len, hW'.len]
              exact hlt
    · subst he
      have eW : W = [] := by
        have := hW.len
        cases W with
        | nil => rfl
        | cons _ _ => simp at this
      subst eW
      have eo : Bg.order (sysOf rows) f [] = [] := by
        cases f with
        | zero => rfl
        | succ f => simp [Bg.order, Bg.rdy]
      rw [eo, List.append_nil] at hcomp
      have h2p : upd H1 p (.lst []) fo = some (.lst gs) := by rw [upd_ne (ne_of_none h2 hp)]; exact h2
      have sp : Same H (upd H1 p (.lst [])) := sameN s1 (s1.free hp)
      refine ⟨_, rfl, fo, _, rfl, .inl ⟨SqL.of h2p, fun l hl => ?_⟩⟩
      refine q _ l gs (sameN sp (sp.free hl)) (sp.free hl) upd_same ?_
      rw [hcomp]
      exact (hG.same (same_upd hp)).same (same_upd hl)
/-! ### components -/
theorem sc_components : FnScope ["system"] ["system"] (defScope s_components) := ⟨rfl, rfl, rfl, by decide +kernel, rfl, by decide +kernel, by decide +kernel⟩
theorem bd_components {K : PySem.W.Frag} {mg : Str → Option Value} (T : Tx K mg) : Binds K (fdOf K (He.ga K "components")) ["system"] [] := T.F_components.bindsN (fun _ _ _ _ _ _ us hl => match us, hl with | [_], _ => rfl)
def sp_components (K : PySem.W.Frag) : Sp := fun vs H Q _ => ∃ (s : Addr) (rows : List Row), vs = [.ref s] ∧ SysAt K H s rows ∧ RowsOk rows ∧
  ∀ H' p us, Same H H' → H' p = some (.tup us) → CsAt H' us (Bg.comps (sysOf rows)) → Q (.ref p) H'
theorem ok_components (T : Tx K mg) : FO P w K mg base 7 (He.ga K "components") ["system"] (sp_components K) := by
  refine T.F_components.ok sc_components (fun vs H Q E h => ?_) (fun cdv A outer s H vs Q E hr h => ?_)
  · obtain ⟨s, rows, rfl, _⟩ := h; rfl
  · obtain ⟨s, rows, rfl, hs, hok, q⟩ := h
    refine ⟨_, PSs.nox (pss_one (ps_ret (pe_call (ok_components_among T) (hr.mono (by decide)) rfl T.g_components_among T.F_components_among.kp (bd_components_among T) .nil pass0 (pa_cons (pv 0) (pa_cons (pe_call (ok_all_cells T) (hr.mono (by decide)) rfl T.g_all_cells T.F_all_cells.kp (bd_all_cells T) .nil pass0 (pa_cons (pv 0) pa_nil)) pa_nil))))), ?_⟩
    refine ⟨_, rfl, _, rfl, s, rows, rfl, hs, hok, fun p hp => ?_⟩
    exact ⟨s, p, rows, rfl, hs.same (same_upd hp), hok, upd_same, fun H' p' us s' hp' h' hc => q H' p' us ((same_upd hp).trans s') h' hc⟩
end
end BgT
set_option Elab.async false
set_option linter.all false
set_option maxRecDepth 100000
set_option maxHeartbeats 4000000
namespace BgT
open PySem PySem.Spec PyProof.Rows L2
/-! ### {e for .. in .. if .. for .. in .. if ..}, a set of ints -/
abbrev SC2 (e a0 b0 a1 b1 : Expr) (c0 c1 : List Expr) (bl : Scope) (po : Pos) : Expr := .SetComp e [⟨a0, b0, c0, 0⟩, ⟨a1, b1, c1, 0⟩] bl po
section
variable {M : Program} {w : World} {A : Around} {R : Result → Shared → Prop} {e a0 b0 a1 b1 : Expr} {c0 c1 : List Expr} {bl : Scope} {po : Pos} {it acc : Value} {ev : Env}
theorem sTurn0 : compTurn (SC2 e a0 b0 a1 b1 c0 c1 bl po) 0 it acc ev = (do
    standAt b0.pos
    match ← pyNext it with
    | none => pure (.done .next)
    | some x =>
      letOwnedTupleGo a0 it x
      assign a0 ev x
      let mut good := true
      for q in c0 do
        if good then good ← isTrue q ev (eval q ev)
      if good then
        let y ← eval b1 ev
        standAt b1.pos
        let y ← foldedSetIterable b1 ev y
        let _ ← runOwn (.compStart (SC2 e a0 b0 a1 b1 c0 c1 bl po) 1 (← holding [y] (pyIter y)) acc ev) ev
      again (.compLoop (SC2 e a0 b0 a1 b1 c0 c1 bl po) 0 it acc ev)) := by rfl
theorem sTurn1 : compTurn (SC2 e a0 b0 a1 b1 c0 c1 bl po) 1 it acc ev = (do
    standAt b1.pos
    match ← pyNext it with
    | none => pure (.done .next)
    | some x =>
      letOwnedTupleGo a1 it x
      assign a1 ev x
      let mut good := true
      for q in c1 do
        if good then good ← isTrue q ev (eval q ev)
      if good then
        (do let x ← eval e ev; standAt e.pos; let _ ← call (.builtin "set.add") [acc, x])
      again (.compLoop (SC2 e a0 b0 a1 b1 c0 c1 bl po) 1 it acc ev)) := by rfl
/-- where an error goes -/
abbrev Out (M : Program) (w : World) (A : Around) (ev : Env) (R : Result → Shared → Prop) : Value → Shared → Prop := notedBy (model M w) A ev fun x s' => R (.error x) s'
/-- the tests of a clause, one behind the other -/
abbrev testsB (cs : List Expr) (ev : Env) : Sem Bool := forIn cs true fun c r => if r = true then do let ok ← isTrue c ev (eval c ev); pure (ForInStep.yield ok) else pure (ForInStep.yield r)
theorem sLoop0 (hf : ∀ x, foldedSetIterable b1 ev x = pure x) (I : Nat → Shared → Prop)
    (turn : ∀ n s, I n s → wpAny (model M w) A (pyNext it) (fun r s₁ => match r with
      | none => R (.ok .next) s₁
      | some x => wpAny (model M w) A (letOwnedTupleGo a0 it x) (fun _ s₂ => wpAny (model M w) A (assign a0 ev x) (fun _ s₃ => wpAny (model M w) A (testsB c0 ev) (fun b s₄ =>
          if b = true then wpAny (model M w) A (eval b1 ev) (fun y s₅ => wpAny (model M w) A (pyIter y) (fun j s₆ => codeAny (model M w) A (.compStart (SC2 e a0 b0 a1 b1 c0 c1 bl po) 1 j acc ev) (fun r s' => match r with
            | .ok _ => ∃ m, m < n ∧ I m s'
            | .error _ => False) s₆) (Out M w A ev R) s₅) (Out M w A ev R) s₄
          else ∃ m, m < n ∧ I m s₄) (Out M w A ev R) s₃) (Out M w A ev R) s₂) (Out M w A ev R) s₁) (Out M w A ev R) s)
    (n : Nat) {s : Shared} (h : I n s) : codeAny (model M w) A (.compLoop (SC2 e a0 b0 a1 b1 c0 c1 bl po) 0 it acc ev) R s := by
  refine codeAny_loop rfl I (fun n s hI => ?_) n h
  show wpAny _ A ((compTurn (SC2 e a0 b0 a1 b1 c0 c1 bl po) 0 it acc ev).onRaise fun x => do noteFrame x ev; theTreesLotGoes x) _ _ s
  refine wpAny_noted ?_
  rw [sTurn0]
  refine wpAny_bind (wpAny_standAt (wpAny_bind (thn (turn n s hI) fun r s₁ h₁ => ?_)))
  cases r with
  | none => exact wpAny_pure h₁
  | some x =>
    refine wpAny_bind (thn h₁ fun _ s₂ h₂ => wpAny_bind (thn h₂ fun _ s₃ h₃ => wpAny_bind (thn h₃ fun b s₄ h₄ => ?_)))
    cases b with
    | false => exact wpAny_pure ⟨rfl, h₄⟩
    | true =>
      refine wpAny_bind (thn h₄ fun y s₅ h₅ => wpAny_bind (wpAny_standAt (wpAny_bind (wpAny_of_eq (hf y) (wpAny_bind (wpAny_holding (thn h₅ fun j s₆ h₆ => ?_)))))))
      refine wpAny_bind (wpAny_runOwn ?_)
      rw [Around.mark_none]
      refine codeAny_mono h₆ fun r s' hr => ?_
      cases r with
      | error x => exact hr.elim
      | ok f => first | exact wpAny_pure ⟨rfl, hr⟩ | exact wpAny_bind (wpAny_pure (wpAny_pure ⟨rfl, hr⟩))
theorem sLoop1 (I : Nat → Shared → Prop)
    (turn : ∀ n s, I n s → wpAny (model M w) A (pyNext it) (fun r s₁ => match r with
      | none => R (.ok .next) s₁
      | some x => wpAny (model M w) A (letOwnedTupleGo a1 it x) (fun _ s₂ => wpAny (model M w) A (assign a1 ev x) (fun _ s₃ => wpAny (model M w) A (testsB c1 ev) (fun b s₄ =>
          if b = true then wpAny (model M w) A (eval e ev) (fun y s₅ => wpAny (model M w) A (call (.builtin "set.add") [acc, y]) (fun _ s₆ => ∃ m, m < n ∧ I m s₆) (Out M w A ev R) s₅) (Out M w A ev R) s₄
          else ∃ m, m < n ∧ I m s₄) (Out M w A ev R) s₃) (Out M w A ev R) s₂) (Out M w A ev R) s₁) (Out M w A ev R) s)
    (n : Nat) {s : Shared} (h : I n s) : codeAny (model M w) A (.compLoop (SC2 e a0 b0 a1 b1 c0 c1 bl po) 1 it acc ev) R s := by
  refine codeAny_loop rfl I (fun n s hI => ?_) n h
  show wpAny _ A ((compTurn (SC2 e a0 b0 a1 b1 c0 c1 bl po) 1 it acc ev).onRaise fun x => do noteFrame x ev; theTreesLotGoes x) _ _ s
  refine wpAny_noted ?_
  rw [sTurn1]
  refine wpAny_bind (wpAny_standAt (wpAny_bind (thn (turn n s hI) fun r s₁ h₁ => ?_)))
  cases r with
  | none => exact wpAny_pure h₁
  | some x =>
    refine wpAny_bind (thn h₁ fun _ s₂ h₂ => wpAny_bind (thn h₂ fun _ s₃ h₃ => wpAny_bind (thn h₃ fun b s₄ h₄ => ?_)))
    cases b with
    | false => exact wpAny_pure ⟨rfl, h₄⟩
    | true => exact wpAny_bind (wpAny_bind (thn h₄ fun y s₅ h₅ => wpAny_bind (wpAny_standAt (wpAny_bind (thn h₅ fun _ s₆ h₆ => wpAny_pure (wpAny_pure ⟨rfl, h₆⟩))))))
theorem sStart1 {s : Shared} (h0 : codeAny (model M w) A (.compLoop (SC2 e a0 b0 a1 b1 c0 c1 bl po) 1 it acc ev) R s)
    (h : wpAny (model M w) A (pyIter it) (fun j s' => codeAny (model M w) A (.compLoop (SC2 e a0 b0 a1 b1 c0 c1 bl po) 1 j acc ev) R s') (Out M w A ev R) s) :
    codeAny (model M w) A (.compStart (SC2 e a0 b0 a1 b1 c0 c1 bl po) 1 it acc ev) R s := by
  refine codeAny_of_tree ?_
  show wpAny _ _ ((compStart (SC2 e a0 b0 a1 b1 c0 c1 bl po) 1 it acc ev).onRaise fun x => do noteFrame x ev; standAt theWindowsPlace) _ _ s
  refine wpAny_notedAt ?_
  unfold compStart
  show wpAny _ _ (ask >>= _) _ _ s
  refine wpAny_bind (wpAny_askSetting (wpAny_ite ?_))
  split
  · first | exact wpAny_bind (wpAny_pure (wpAny_pure (And.intro rfl h0))) | exact wpAny_pure (And.intro rfl h0)
  · refine wpAny_bind (wpAny_rule ?_)
    show wpAny _ _ (standAt b1.pos >>= _) _ _ s
    exact wpAny_bind (wpAny_standAt (wpAny_bind (thn h fun j s' h' => wpAny_pure (And.intro rfl h'))))
end
section
variable {X : Cx}
abbrev emptyO (w : World) (D : Addr) : HO := SetO w D (fun _ => false) 0
abbrev addO (w : World) (D : Addr) (S : Int → Bool) (n : Nat) (k : Int) : HO := SetO w D (fun j => S j || decide (j = k)) (if S k = true then n else n + 1)
/-- the reading: two sources, one within the other; D the new set -/
def tSc2 (w : World) (wi : TI) (g : TG) (tt : TT) (wj : TI) (gj : TG) (tj : TT) (te : TE) (vs vj : List Nat) : TE := fun σ H Q => wi σ H fun J Ha => ∀ D, Ha D = none → ∃ W : Nat → Nat → Hp → Prop, (∃ m, W 0 m (upd Ha D (emptyO w D))) ∧ ∀ i m H, W i m H →
  (J.stop i H ∧ Q (.ref D) H) ∨ (J.go i H ∧ ∃ N : Hp → Prop, (∀ H', N H' → ∃ m', m' < m ∧ W (i + 1) m' H') ∧ ∀ x H', J.yld i H x H' → g x (wipe σ vs) H' fun σb Hb => wipe σb vs = wipe σ vs ∧ tt σb Hb fun b Hc =>
    if b = true then wj σb Hc fun J' Hd => ∃ V' : Nat → Nat → Hp → Prop, (∃ m, V' 0 m Hd) ∧ ∀ j k H, V' j k H →
      (J'.stop j H ∧ N H) ∨ (J'.go j H ∧ ∃ N' : Hp → Prop, (∀ H', N' H' → ∃ k', k' < k ∧ V' (j + 1) k' H') ∧ ∀ x H', J'.yld j H x H' → gj x (wipe σb vj) H' fun σc He => wipe σc vj = wipe σb vj ∧ tj σc He fun b Hf =>
        if b = true then te σc Hf fun y Hg => ∃ (k : Int) (S : Int → Bool) (n : Nat), y = .int k ∧ Hg D = some (SetO w D S n) ∧ n + 1 < scanBound ∧ N' (upd Hg D (addO w D S n k)) else N' Hf)
    else N Hc)
theorem add_set {pins : List (Addr × Obj)} {σ : L2.St} {H : Hp} {s : Shared} {E : Value → Shared → Prop} {D : Addr} {S : Int → Bool} {n : Nat} {k : Int} {u : Value} {Q : Value → Shared → Prop} (I : Inv X pins σ H s) (hD : H D = some (SetO X.w D S n)) (ru : RelV (.int k) u) (hn : n + 1 < scanBound)
    (h : ∀ s', Inv X pins σ (upd H D (addO X.w D S n k)) s' → Q .none s') : wpAny (model X.prog X.w) X.A (call (.builtin "set.add") [.ref D, u]) Q E s := by
  obtain ⟨tk, rfl⟩ := ru
  refine setR_add (setO_get I hD) hn fun hp sb new => ?_
  obtain ⟨o, _, _, _, ho, _⟩ := id new
  exact h _ (I.write (e := D) (t' := s.toks + 1) (by rw [hD]; trivial) (.inl rfl) (fun b u hb hu => (sb.2 b hb).trans hu) ⟨o, ho⟩ (setO_new new))
variable {e a0 b0 a1 b1 : Expr} {c0 c1 : List Expr} {bl : Scope} {po : Pos} {own : List (Str × Nat)} {vj : List Nat} {wi wj : TI} {g gj : TG} {tt tj : TT} {te : TE}
/-- between two turns of a block's loop -/
def OutI (Y : Cx) (pins : List (Addr × Obj)) (σ0 : L2.St) (tn : Nat → Heap → Prop) (fp : List Addr) (W : Nat → Nat → Hp → Prop) (n : Nat) (s : Shared) : Prop :=
  ∃ i H', Inv Y pins σ0 H' s ∧ tn i s.heap ∧ (∀ b ∈ fp, H' b = none) ∧ W i n H'
/-- what the block's parts do, wherever it stands -/
structure Sc2R (X : Cx) (e a0 a1 b1 : Expr) (c0 c1 : List Expr) (Y : Cx) (wj : TI) (g gj : TG) (tt tj : TT) (te : TE) : Prop where
  pg : PG Y a0 g
  pt : PTs Y c0 tt
  pi : PI Y a1 b1 wj
  pgj : PG Y a1 gj
  ptj : PTs Y c1 tj
  pe : PE Y e te
theorem pe_sc2 (calm : X.calm = true) (nd : X.N.Nodup) (hi : PI X a0 b0 wi) (ok : BlkOk X.N X.env.scope bl own) (hv : ∀ i ∈ vj, i ∈ own.map (·.2))
    (parts : ∀ (s : Shared) (H : Hp) (C : Addr) (cl : List (Str × Addr)) (fp : List Addr), Sc2R X e a0 a1 b1 c0 c1 (X.blk s H bl (compEnvC bl cl C X.env) fp) wj g gj tt tj te)
    (hf : ∀ x, foldedSetIterable b0 X.env x = pure x := by intro _; rfl) (hf1 : ∀ env x, foldedSetIterable b1 env x = pure x := by intro _ _; rfl) :
    PE X (SC2 e a0 b0 a1 b1 c0 c1 bl po) (tSc2 X.w wi g tt wj gj tj te (own.map (·.2)) vj) := by
  refine ⟨fun pins s σ H Q I h => ?_⟩
  rw [PpSet.eval_SetComp]
  have clos : ∀ y ∈ bl.names, y.2 = .free → ∃ c, X.env.cells.lookup y.1 = some c := fun y hy q => (ok.free y hy q).elim (fun z => I.ok.has _ (.inl z)) fun z => I.ok.has _ (.inr z)
  refine wpAny_comprehension_free (use := none) rfl hf (closure_ok clos) ok.kind (fun y hy q => by rw [ok.uniq y hy, q]) (thn (hi.run pins s σ H _ I h) fun _ sa ha => thn ha fun _ sb hb => ?_)
  obtain ⟨it, fp, tn, J, Hb, rfl, Ib, T, stb, ffp, q⟩ := hb
  refine PpSet.newSet_ok (newEnv_comp ?_)
  generalize eD : sb.heap.objs.size = D
  obtain ⟨W, ⟨m0, w0⟩, turn⟩ := q D (Ib.hok.fresh (Nat.le_of_eq eD))
  -- the empty set stands
  generalize eo : ({ cls := .type "set", dict := none, data := .set #[] 0 (.fresh 0 0 (!X.w.params.followText "set-order")) } : Obj) = ob
  have hR : SetR X.w (sb.heap.push ob) sb.heap.objs.size (fun _ => false) 0 := eo ▸ setR_fresh X.w
  generalize ec : ({ sb with heap := sb.heap.push ob } : Shared) = sc
  have hc : sc.heap = sb.heap.push ob := by rw [← ec]
  have Ic : Inv X pins σ (upd Hb D (emptyO X.w D)) sc := by
    rw [← ec]
    refine Ib.laid (t' := sb.toks) (fun b o z => Heap.get?_push_of_some _ z) (Nat.le_of_eq eD) ?_
    rw [← eD]
    exact setO_new hR
  have below : ∀ b ∈ fp, b < sb.heap.objs.size := fun b hb => let ⟨o, z, _⟩ := T.obj _ _ stb b hb; Heap.lt_size z
  have fpc : ∀ b ∈ fp, FpOk X pins (upd Hb D (emptyO X.w D)) b ∧ b < sc.heap.objs.size := fun b hb => by
    have lt := below b hb
    refine ⟨⟨?_, (ffp b hb).2⟩, ?_⟩
    · have nb : b ≠ D := by rw [← eD]; exact Nat.ne_of_lt lt
      rw [upd_ne nb]
      exact (ffp b hb).1
    · rw [hc, Heap.size_push]
      exact Nat.lt_succ_of_lt lt
  have stc : tn 0 sc.heap := T.keep _ _ _ stb fun b _ o z => by rw [hc]; exact Heap.get?_push_of_some _ z
  have Id := block_start Ic ok nd fpc
  have pp := parts sc (upd Hb D (emptyO X.w D)) sc.heap.objs.size (cellsFrom (sc.heap.objs.size + 1) bl.names (cloFrom X.env.cells bl.names [])) fp
  show codeAny _ _ (.compStart (SC2 e a0 b0 a1 b1 c0 c1 bl po) 0 (.ref it) (.ref D) (compEnvC bl (cellsFrom (sc.heap.objs.size + 1) bl.names (cloFrom X.env.cells bl.names [])) sc.heap.objs.size X.env)) (compPost (model X.prog X.w) X.A X.xe none (EP X pins σ Q) (.ref D) sc.heap.objs.size) { sc with heap := pushCells (sc.heap.push { cls := .type "dict", data := .dict #[] }) bl.names }
  have nfp : ∀ b ∈ fp, upd Hb D (emptyO X.w D) b = none := fun b hb => (fpc b hb).1.1
  generalize ee : compEnvC bl (cellsFrom (sc.heap.objs.size + 1) bl.names (cloFrom X.env.cells bl.names [])) sc.heap.objs.size X.env = ce at Id pp ⊢
  have loc : ce.locals = sc.heap.objs.size := by rw [← ee]; rfl
  generalize eH : upd Hb D (emptyO X.w D) = Hc at Ic Id pp w0 nfp fpc
  generalize ed : ({ sc with heap := pushCells (sc.heap.push { cls := .type "dict", data := .dict #[] }) bl.names } : Shared) = sd at Id ⊢
  have std : tn 0 sd.heap := T.keep _ _ _ stc fun b _ o z => by rw [← ed]; exact pushCells_keeps _ _ _ _ (Heap.get?_push_of_some _ z)
  have fpB : ∀ {σ' : L2.St} {H' : Hp} {s' : Shared}, Inv (X.blk sc Hc bl ce fp) [] σ' H' s' → (∀ b ∈ fp, H' b = none) → ∀ b ∈ fp, FpOk (X.blk sc Hc bl ce fp) [] H' b := fun {σ' H' s'} IY hn b hb =>
    ⟨hn b hb, (IY.ok.exf b hb).1, IY.ok.exfs b hb, .inl hb, fun x c z => (IY.ok.exf b hb).2 x c z, fun p hp => by simp at hp⟩
  have loop : codeAny (model X.prog X.w) X.A (.compLoop (SC2 e a0 b0 a1 b1 c0 c1 bl po) 0 (.ref it) (.ref D) ce) (compPost (model X.prog X.w) X.A X.xe none (EP X pins σ Q) (.ref D) sc.heap.objs.size) sd := by
    refine sLoop0 (hf1 ce) (OutI (X.blk sc Hc bl ce fp) [] (wipe σ (own.map (·.2))) tn fp W) ?_ m0 ⟨0, Hc, Id, std, nfp, w0⟩
    rintro n se ⟨i, He, Ie, ste, ne, we⟩
    rcases turn i n He we with ⟨stop, fin⟩ | ⟨go, N, hN, step⟩
    · -- the end: back among the def's own names
      refine thnF (T.done (X.blk sc Hc bl ce fp) rfl rfl rfl calm i [] se _ He (fun _ _ => False) Ie (fpB Ie ne) ste stop) fun r sf ⟨hr, If⟩ => ?_
      subst hr
      have nC : He sc.heap.objs.size = none := by
        have z : He ce.locals = none := If.free
        rwa [loc] at z
      obtain ⟨m, hn, _⟩ := If.loc
      have hn : sf.heap.Ns ce.locals m := hn
      rw [loc] at hn
      have Ig : Inv X pins σ He sf := Ic.call' (ch := fp) If.os If.base If.hok If.bare fun b hb => by
        have z := (fpc b hb).1
        exact ⟨z.2.2.2.1, z.2.1, z.2.2.2.2.1, z.2.2.2.2.2⟩
      obtain ⟨-, f1, -, f3, f4, f5⟩ := Ic.fpOk (Nat.le_refl _) nC
      exact ⟨m, hn, fun hh sbut => ⟨.ref D, He, Ig.turned (t' := sf.toks) (fun b o hb z => (sbut.2 b hb).trans z) nC f1 f3 f4 f5, rfl, fin⟩⟩
    · refine thnF (T.item (X.blk sc Hc bl ce fp) rfl rfl rfl calm i [] se _ He (fun _ _ => False) Ie (fpB Ie ne) ste go) fun r sf ⟨u, hr, hg⟩ => ?_
      subst hr
      refine thnF hg fun _ sg ⟨x, Hg, Ig, rx, yx, stg, ng⟩ => ?_
      have Ig' := Ig.pinned (fpB Ig ng) (T.obj _ _ stg)
      refine thnF (pp.pg.run _ sg _ Hg x u _ Ig' rx (step x Hg yx)) fun _ sh ⟨σh, Hh, Ih, wh, qh⟩ => ?_
      refine thnF (pp.pt.run _ sh σh Hh _ Ih qh) fun b si ⟨Hi, Ii, qi⟩ => ?_
      -- a turn's end, whatever the slots of the second target hold
      have ends : ∀ {σ' : L2.St} {s' : Shared} {H' : Hp}, Inv (X.blk sc Hc bl ce fp) ([] ++ pinsAt fp sg.heap) σ' H' s' → (wipe σ (own.map (·.2))).length = σ'.length → (∀ (j : Nat) v, (wipe σ (own.map (·.2)))[j]? = some (some v) → σ'[j]? = some (some v)) → N H' →
          ∃ m, m < n ∧ OutI (X.blk sc Hc bl ce fp) [] (wipe σ (own.map (·.2))) tn fp W m s' := fun {σ' s' H'} IY hl hk hN' => by
        obtain ⟨m, hm, w'⟩ := hN H' hN'
        have stays : ∀ b ∈ fp, ∀ o, sg.heap.get? b = some o → s'.heap.get? b = some o ∧ H' b = none := fun b hb o z => by
          have k := IY.pin (b, o) (List.mem_append_right _ (List.mem_append_right _ (mem_pinsAt hb z)))
          exact ⟨k.1, k.2.1⟩
        refine ⟨m, hm, i + 1, H', (IY.unpinned (pins := [])).weak hl hk, T.keep _ _ _ stg fun b hb o z => (stays b hb o z).1, fun b hb => ?_, w'⟩
        obtain ⟨o, z, _⟩ := T.obj _ _ stg b hb
        exact (stays b hb o z).2
      have lenh : (wipe σ (own.map (·.2))).length = σh.length := by rw [← wh, wipe_length]
      have keph : ∀ (j : Nat) v, (wipe σ (own.map (·.2)))[j]? = some (some v) → σh[j]? = some (some v) := fun j v z => by
        rw [← wh] at z
        exact (wipe_some z).1
      have kepj : ∀ (j : Nat) v, (wipe σ (own.map (·.2)))[j]? = some (some v) → (wipe σh vj)[j]? = some (some v) := fun j v z => by
        rw [← wh] at z
        obtain ⟨z1, z2⟩ := wipe_some z
        rwa [wipe_out fun k => z2 (hv j k)]
      cases b with
      | false =>
        rw [if_neg Bool.false_ne_true] at qi
        exact ends Ii lenh keph qi
      | true =>
        rw [if_pos rfl] at qi
        refine thnF (pp.pi.run _ si σh Hi _ Ii qi) fun _ sj hj => thnF hj fun _ sk hk => ?_
        obtain ⟨it', fp', tn', J', Hk, rfl, Ik, T', stk, fpk, V', ⟨m1, w1⟩, turn'⟩ := hk
        have fpB' : ∀ {H' : Hp}, (∀ b ∈ fp', H' b = none) → ∀ b ∈ fp', FpOk (X.blk sc Hc bl ce fp) ([] ++ pinsAt fp sg.heap) H' b := fun hn b hb => ⟨hn b hb, (fpk b hb).2⟩
        have inner : codeAny (model X.prog X.w) X.A (.compLoop (SC2 e a0 b0 a1 b1 c0 c1 bl po) 1 (.ref it') (.ref D) ce)
            (fun r s' => match r with
              | .ok _ => ∃ m, m < n ∧ OutI (X.blk sc Hc bl ce fp) [] (wipe σ (own.map (·.2))) tn fp W m s'
              | .error _ => False) sk := by
          refine sLoop1 (OutI (X.blk sc Hc bl ce fp) ([] ++ pinsAt fp sg.heap) (wipe σh vj) tn' fp' V') ?_ m1 ⟨0, Hk, Ik.weak (wipe_length _ _) (fun j v z => (wipe_some z).1), stk, fun b hb => (fpk b hb).1, w1⟩
          rintro k sl ⟨j, Hl, Il, stl, nl, wl⟩
          rcases turn' j k Hl wl with ⟨stop', fin'⟩ | ⟨go', N', hN', step'⟩
          · refine thnF (T'.done (X.blk sc Hc bl ce fp) rfl rfl rfl calm j _ sl (wipe σh vj) Hl (fun _ _ => False) Il (fpB' nl) stl stop') fun r sm ⟨hr, Im⟩ => ?_
            subst hr
            exact ends Im (lenh.trans (wipe_length σh vj).symm) kepj fin'
          · refine thnF (T'.item (X.blk sc Hc bl ce fp) rfl rfl rfl calm j _ sl (wipe σh vj) Hl (fun _ _ => False) Il (fpB' nl) stl go') fun r sm ⟨u', hr, hm⟩ => ?_
            subst hr
            refine thnF hm fun _ sn ⟨x', Hn, In, rx', yx', stn, nn⟩ => ?_
            refine thnF (pp.pgj.run _ sn (wipe σh vj) Hn x' u' _ (In.pinned (fpB' nn) (T'.obj _ _ stn)) rx' (step' x' Hn yx')) fun _ so ⟨σo, Ho, Io, wo, qo⟩ => ?_
            refine thnF (pp.ptj.run _ so σo Ho _ Io qo) fun b' sp ⟨Hp', Ip, qp⟩ => ?_
            have ends' : ∀ {s' : Shared} {H' : Hp}, Inv (X.blk sc Hc bl ce fp) (([] ++ pinsAt fp sg.heap) ++ pinsAt fp' sn.heap) σo H' s' → N' H' → ∃ m, m < k ∧ OutI (X.blk sc Hc bl ce fp) ([] ++ pinsAt fp sg.heap) (wipe σh vj) tn' fp' V' m s' := fun {s' H'} IY hx => by
              obtain ⟨m, hm, w'⟩ := hN' H' hx
              have stays : ∀ b ∈ fp', ∀ o, sn.heap.get? b = some o → s'.heap.get? b = some o ∧ H' b = none := fun b hb o z => by
                have k := IY.pin (b, o) (List.mem_append_right _ (List.mem_append_right _ (mem_pinsAt hb z)))
                exact ⟨k.1, k.2.1⟩
              refine ⟨m, hm, j + 1, H', IY.unpinned.weak (by rw [← wo, wipe_length]) (fun j v z => ?_), T'.keep _ _ _ stn fun b hb o z => (stays b hb o z).1, fun b hb => ?_, w'⟩
              · rw [← wo] at z
                exact (wipe_some z).1
              · obtain ⟨o, z, _⟩ := T'.obj _ _ stn b hb
                exact (stays b hb o z).2
            cases b' with
            | false =>
              rw [if_neg Bool.false_ne_true] at qp
              exact ends' Ip qp
            | true =>
              rw [if_pos rfl] at qp
              refine thnF (pp.pe.run _ sp σo Hp' _ Ip qp) fun z sq ⟨yv, Hq, Iq, rq, kk, S, nS, ey, hS, hroom, nx⟩ => ?_
              subst ey
              exact add_set (X := X.blk sc Hc bl ce fp) Iq hS rq hroom fun sr Ir => ends' Ir nx
        exact sStart1 inner (T'.self X.A 0 _ _ _ stk inner)
  exact PpSet.codeAny_compStart_set loop (T.self X.A 0 _ _ _ std loop)
end
end BgT
set_option Elab.async false
set_option linter.all false
set_option maxRecDepth 100000
set_option maxHeartbeats 4000000
namespace BgT
open PySem PySem.Spec PyProof.Rows L2
section
variable {P : Program} {w : World} {K : PySem.W.Frag} {mg : Str → Option Value} {base : Heap}
/-! ### policies -/
theorem sc_need_policy : FnScope ["policy"] ["policy"] (defScope s_need_policy) := ⟨rfl, rfl, rfl, by decide +kernel, rfl, by decide +kernel, by decide +kernel⟩
theorem bd_need_policy {K : PySem.W.Frag} {mg : Str → Option Value} (T : Tx K mg) : Binds K (fdOf K (He.ga K "need_policy")) ["policy"] [] := T.F_need_policy.bindsN (fun _ _ _ _ _ _ us hl => match us, hl with | [_], _ => rfl)
def sp_need_policy : Sp := fun vs H Q _ => vs = [.str "all"] ∧ Q .non H
theorem ok_need_policy (T : Tx K mg) : FO P w K mg base 1 (He.ga K "need_policy") ["policy"] sp_need_policy := by
  refine T.F_need_policy.ok sc_need_policy (fun vs H Q E h => ?_) (fun cdv A outer s H vs Q E hr h => ?_)
  · obtain ⟨rfl, _⟩ := h; rfl
  · obtain ⟨rfl, q⟩ := h
    refine ⟨_, PSs.nox (pss_one (ps_if (PW.pt (pw_or (pt_not (pt_val (pe_callB call_isi (by rfl) T.b_isinstance (by decide +kernel) (pa_cons (pv 0) (pa_cons (pe_bltn (v := .ty "str") (u := .type "str") (by rfl) T.b_str (by decide +kernel) rfl) pa_nil))))) (pw_or1 (pt_cmpR op_notIn_seq (pv 0) (pe_glob (v := .ref (He.ga K "POLICIES")) rfl T.t_POLICIES.1 rfl) (by rfl)))))
 pss_never
 pss_nil)), ?_⟩
    refine ⟨_, rfl, _, _, .type "str", .type "str", true, rfl, .ty _, .base (.str _), kit_ty (by decide +kernel), true, rfl, iteF ?_⟩
    refine ⟨_, rfl, He.ga K "POLICIES", _, rfl, .inr (T.t_POLICIES.2 _), rfl, rfl, _, rfl, ?_⟩
    show if (!inV (V.str "all") (dPol.map (He.Dv.v K))) = true then _ else _
    rw [show inV (V.str "all") (dPol.map (He.Dv.v K)) = true from rfl]
    exact iteF q
theorem sc_need_fitting : FnScope ["policy", "system"] ["policy", "system"] (defScope s_need_fitting) := ⟨rfl, rfl, rfl, by decide +kernel, rfl, by decide +kernel, by decide +kernel⟩
theorem bd_need_fitting {K : PySem.W.Frag} {mg : Str → Option Value} (T : Tx K mg) : Binds K (fdOf K (He.ga K "need_fitting")) ["policy", "system"] [] := T.F_need_fitting.bindsN (fun _ _ _ _ _ _ us hl => match us, hl with | [_, _], _ => rfl)
def sp_need_fitting : Sp := fun vs H Q _ => (∃ s, vs = [.str "all", .ref s]) ∧ Q .non H
theorem ok_need_fitting (T : Tx K mg) : FO P w K mg base 1 (He.ga K "need_fitting") ["policy", "system"] sp_need_fitting := by
  refine T.F_need_fitting.ok sc_need_fitting (fun vs H Q E h => ?_) (fun cdv A outer s H vs Q E hr h => ?_)
  · obtain ⟨⟨s, rfl⟩, _⟩ := h; rfl
  · obtain ⟨⟨s, rfl⟩, q⟩ := h
    refine ⟨_, PSs.nox (pss_cons (ps_if (pt_cmpR op_eq (pv 0) (pe_constS T.i_NOTHING) (nomark _))
 (pss_one ps_never)
 pss_nil)
 (pss_one (ps_if (pt_cmpR op_eq (pv 0) (pe_constS T.i_CLEAN) (nomark _))
 (pss_one ps_never)
 pss_nil))), ?_⟩
    refine ⟨_, rfl, rfl, _, rfl, ?_⟩
    rw [decide_eq_false (by decide)]
    refine iteF ⟨_, rfl, rfl, _, rfl, ?_⟩
    rw [decide_eq_false (by decide)]
    exact iteF q
theorem sc_is_kept : FnScope ["policy", "taint"] ["policy", "taint"] (defScope s_is_kept) := ⟨rfl, rfl, rfl, by decide +kernel, rfl, by decide +kernel, by decide +kernel⟩
theorem bd_is_kept {K : PySem.W.Frag} {mg : Str → Option Value} (T : Tx K mg) : Binds K (fdOf K (He.ga K "is_kept")) ["policy", "taint"] [] := T.F_is_kept.bindsN (fun _ _ _ _ _ _ us hl => match us, hl with | [_, _], _ => rfl)
def sp_is_kept : Sp := fun vs H Q _ => (∃ v, vs = [.str "all", v]) ∧ Q (.bl true) H
theorem ok_is_kept (T : Tx K mg) : FO P w K mg base 1 (He.ga K "is_kept") ["policy", "taint"] sp_is_kept := by
  refine T.F_is_kept.ok sc_is_kept (fun vs H Q E h => ?_) (fun cdv A outer s H vs Q E hr h => ?_)
  · obtain ⟨⟨s, rfl⟩, _⟩ := h; rfl
  · obtain ⟨⟨v, rfl⟩, q⟩ := h
    refine ⟨_, PSs.nox (pss_one (ps_ret (pe_or (pe_cmpR op_eq (pv 0) (pe_constS T.i_ALL) (nomark _)) (pe_one (pe_and (pe_cmpR op_eq (pv 0) (pe_constS T.i_CLEAN) (nomark _)) (pe_one (pe_cmpR (op_eqD hr.units) (pv 1) (pe_tup pa_nil) (nomark _)))))))), ?_⟩
    refine ⟨_, rfl, rfl, true, ?_, iteT q⟩
    show V.bl (decide (V.str "all" = V.str "all")) = V.bl true
    rw [decide_eq_true rfl]
/-! ### joined_taint -/
theorem addO_old {w : World} {D : Addr} {S : Int → Bool} {n : Nat} {k : Int} (h : S k = true) : addO w D S n k = SetO w D (fun j => S j || decide (j = k)) n := by unfold addO; rw [if_pos h]
theorem addO_new {w : World} {D : Addr} {S : Int → Bool} {n : Nat} {k : Int} (h : S k = false) : addO w D S n k = SetO w D (fun j => S j || decide (j = k)) (n + 1) := by unfold addO; rw [if_neg (by rw [h]; decide)]
def SetN (w : World) (H : Hp) (D : Addr) (L : List Nat) : Prop := ∃ S, H D = some (SetO w D S L.length) ∧ ∀ j : Int, S j = true ↔ ∃ x ∈ L, j = (x : Int)
theorem sc_joined_taint : FnScope ["parts", "cell", "part", "dirty"] ["parts", "cell"] (defScope s_joined_taint) := ⟨rfl, rfl, rfl, by decide +kernel, rfl, by decide +kernel, by decide +kernel⟩
theorem bd_joined_taint {K : PySem.W.Frag} {mg : Str → Option Value} (T : Tx K mg) : Binds K (fdOf K (He.ga K "joined_taint")) ["parts", "cell"] [] := T.F_joined_taint.bindsN (fun _ _ _ _ _ _ us hl => match us, hl with | [_, _], _ => rfl)
def sp_joined_taint : Sp := fun vs H Q _ => ∃ (p : Addr) (c : Nat) (us : List V) (W : List (List Nat)), vs = [.ref p, vn c] ∧ H p = some (.lst us) ∧ CsAt H us W ∧ (∀ D ∈ W, ∀ x ∈ D, x < 24) ∧
  ∀ H' l (ts : List Nat), Same H H' → H' l = some (.tup (ts.map vn)) → (∀ x ∈ ts, x < 24) → Q (.ref l) H'
theorem ok_joined_taint (T : Tx K mg) : FO P w K mg base 1 (He.ga K "joined_taint") ["parts", "cell"] sp_joined_taint := by
  refine T.F_joined_taint.ok sc_joined_taint (fun vs H Q E h => ?_) (fun cdv A outer s H vs Q E hr h => ?_)
  · obtain ⟨p, c, us, W, rfl, _⟩ := h; rfl
  · obtain ⟨p, c, us, W, rfl, hp, hW, hlt, q⟩ := h
    refine ⟨_, PSs.nox (pss_one (ps_ret (pe_callTy call_tuple_of (by rfl) T.b_tuple (by decide +kernel) (pa_cons (pe_callB (cr_sortedSet rfl) (by rfl) T.b_sorted (by decide +kernel) (pa_cons (pe_sc2 (own := [("part", 2), ("dirty", 3)]) (vj := [3]) (g := gName 2) (gj := gName 3) rfl sc_joined_taint.nd (pi_list (pv 0)) (blkOk_by (own := [("part", 2), ("dirty", 3)]) (N := ["parts", "cell", "part", "dirty"]) (sc := defScope s_joined_taint) (by decide +kernel)) (by decide) (fun _ _ _ _ _ => ⟨(pg_name (i := 2) sc_joined_taint.nd rfl (by first | exact Or.inl rfl | exact Or.inr rfl)), pts_nil, (pi_tupK (K := K) (pv 2)), (pg_name (i := 3) sc_joined_taint.nd rfl (by first | exact Or.inl rfl | exact Or.inr rfl)), pts_one (pt_cmpR op_ne (pv 3) (pv 1) (nomark _)), (pv 3)⟩)) pa_nil)) pa_nil)))), ?_⟩
    refine ⟨_, rfl, p, rfl, ⟨_, SqL.of hp⟩, fun D hD => ?_⟩
    refine walk_any (walk_list (K := K) (a := p) (xs := us)) (fun i H' => Same H H' ∧ ∃ L : List Nat, SetN w H' D L ∧ L.Nodup ∧ ∀ x ∈ L, x < 24)
      ⟨same_upd hD, [], ⟨fun _ => false, upd_same, fun j => by simp⟩, List.nodup_nil, by simp⟩ (fun i H' _ h => SqL.of (h.1 _ _ hp)) ?_ ?_
    · rintro i x H1 H1' hi ⟨s1, hL⟩ ⟨rfl, hx⟩
      obtain ⟨a, E0, rfl, hE, ha⟩ := hW.get hx
      refine ⟨rfl, tyes ⟨_, rfl, a, rfl, ⟨_, SqT.of (s1 _ _ ha)⟩, ?_⟩⟩
      refine walk_any (walk_tup (K := K) (a := a) (xs := E0.map vn)) (fun j H' => Same H H' ∧ ∃ L : List Nat, SetN w H' D L ∧ L.Nodup ∧ ∀ x ∈ L, x < 24) ⟨s1, hL⟩ (fun i H' _ h => SqT.of (h.1 _ _ ha)) ?_ (fun H' h => h)
      rintro j y H2 H2' hj ⟨s2, L, ⟨S, hS, hk⟩, hnd, hl⟩ ⟨rfl, hy⟩
      obtain ⟨z, hz, rfl⟩ := map_at hy
      have hz24 : z < 24 := hlt E0 (List.mem_of_getElem? hE) z (List.mem_of_getElem? hz)
      refine ⟨rfl, _, rfl, _, rfl, rfl, _, rfl, ?_⟩
      by_cases hzc : vn z = vn c
      · rw [decide_eq_true hzc]
        exact iteF ⟨s2, L, ⟨S, hS, hk⟩, hnd, hl⟩
      · rw [decide_eq_false hzc]
        have hlen : L.length ≤ 24 := Bg.nodup_le _ _ hnd hl
        refine iteT ⟨_, rfl, (z : Int), S, L.length, rfl, hS, Nat.lt_of_le_of_lt (Nat.succ_le_succ hlen) (by decide), sameN s2 hD, ?_⟩
        by_cases hm : z ∈ L
        · have e : S (z : Int) = true := (hk _).mpr ⟨z, hm, rfl⟩
          refine ⟨L, ⟨_, by rw [upd_same, addO_old e]; rfl, fun j => ?_⟩, hnd, hl⟩
          rw [Bool.or_eq_true, decide_eq_true_eq, hk]
          exact ⟨fun h => h.elim id fun e => ⟨z, hm, e⟩, .inl⟩
        · have e : S (z : Int) = false := by
            cases q : S (z : Int) with
            | false => rfl
            | true =>
              obtain ⟨x, hx, ex⟩ := (hk _).mp q
              have : z = x := by omega
              subst this
              exact absurd hx hm
          refine ⟨z :: L, ⟨_, by rw [upd_same, addO_new e]; rfl, fun j => ?_⟩, List.nodup_cons.mpr ⟨hm, hnd⟩, fun x hx => ?_⟩
          · rw [Bool.or_eq_true, decide_eq_true_eq, hk]
            constructor
            · rintro (⟨x, hx, ex⟩ | ex)
              · exact ⟨x, by simp [hx], ex⟩
              · exact ⟨z, by simp, ex⟩
            · rintro ⟨x, hx, ex⟩
              rcases List.mem_cons.mp hx with rfl | hx
              · exact .inr ex
              · exact .inl ⟨x, hx, ex⟩
          · rcases List.mem_cons.mp hx with rfl | hx
            · exact hz24
            · exact hl x hx
    · rintro H1 ⟨s1, L, ⟨S, hS, hk⟩, hnd, hl⟩
      have hlen : L.length ≤ 24 := Bg.nodup_le _ _ hnd hl
      refine ⟨D, S, L.length, rfl, hS, by omega, fun ns l hns hm hnl hl0 => ?_⟩
      refine ⟨l, _, rfl, .inl ⟨SqL.of upd_same, fun r hr => ?_⟩⟩
      have hnn : ∀ k ∈ ns, ∃ x : Nat, x < 24 ∧ k = (x : Int) := fun k hkn => by
        obtain ⟨x, hx, e⟩ := (hk k).mp ((hm k).mp hkn)
        exact ⟨x, hl x hx, e⟩
      have e : ns.map V.int = (ns.map Int.toNat).map vn := by
        rw [List.map_map]
        refine List.map_congr_left fun k hkn => ?_
        obtain ⟨x, _, rfl⟩ := hnn k hkn
        rfl
      have sl : Same H (upd H1 l (.lst (ns.map V.int))) := sameN s1 (s1.free hl0)
      refine q _ r (ns.map Int.toNat) (sameN sl (sl.free hr)) (by rw [upd_same, e]) fun x hx => ?_
      obtain ⟨k, hkn, rfl⟩ := List.mem_map.mp hx
      obtain ⟨x, hx2, rfl⟩ := hnn k hkn
      exact hx2
end
end BgT
set_option Elab.async false
set_option linter.all false
set_option maxRecDepth 100000
set_option maxHeartbeats 4000000
namespace BgT
open PySem PySem.Spec PyProof.Rows L2
/-! ### runL, part by part -/
theorem runL_append (g : Bg.Tab → Nat → Bg.Res) : ∀ (a b : List Nat) (T : Bg.Tab), Bg.runL g T (a ++ b) = ((Bg.runL g T a).1 ++ (Bg.runL g (Bg.runL g T a).2.1 b).1, (Bg.runL g (Bg.runL g T a).2.1 b).2.1, (Bg.runL g T a).2.2 ++ (Bg.runL g (Bg.runL g T a).2.1 b).2.2)
  | [], b, T => by simp [Bg.runL]
  | o :: a, b, T => by
    simp only [List.cons_append, Bg.runL, runL_append g a b, List.append_assoc]
theorem runL_snoc {g : Bg.Tab → Nat → Bg.Res} {a : List Nat} {T : Bg.Tab} {o : Nat} : Bg.runL g T (a ++ [o]) = ((Bg.runL g T a).1 ++ [(g (Bg.runL g T a).2.1 o).1], (g (Bg.runL g T a).2.1 o).2.1, (Bg.runL g T a).2.2 ++ (g (Bg.runL g T a).2.1 o).2.2) := by
  rw [runL_append]; simp [Bg.runL]
theorem runL_len {g : Bg.Tab → Nat → Bg.Res} : ∀ (a : List Nat) (T : Bg.Tab), (Bg.runL g T a).1.length = a.length
  | [], T => rfl
  | o :: a, T => by simp [Bg.runL, runL_len a]
theorem take_snoc {α : Type} {xs : List α} {i : Nat} {z : α} (h : xs[i]? = some z) : xs.take (i + 1) = xs.take i ++ [z] := by rw [List.take_add_one, h]; rfl
theorem runL_upto {g : Bg.Tab → Nat → Bg.Res} {os : List Nat} {T : Bg.Tab} {i o : Nat} (h : os[i]? = some o) : (Bg.runL g T (os.take i)).2.2.length + (g (Bg.runL g T (os.take i)).2.1 o).2.2.length ≤ (Bg.runL g T os).2.2.length := by
  have e : os = os.take (i + 1) ++ os.drop (i + 1) := (List.take_append_drop _ _).symm
  have q : (Bg.runL g T os).2.2.length = (Bg.runL g T (os.take (i + 1))).2.2.length + (Bg.runL g (Bg.runL g T (os.take (i + 1))).2.1 (os.drop (i + 1))).2.2.length := by
    conv => lhs; rw [e, runL_append]
    simp
  rw [take_snoc h, runL_snoc] at q
  simp only [List.length_append] at q
  omega
theorem sz0 : ([] : List V).length ≤ sizeLine := Nat.zero_le _
theorem sz1 {a : V} : [a].length ≤ sizeLine := (by decide : 1 ≤ sizeLine)
theorem sz2 {a b : V} : [a, b].length ≤ sizeLine := (by decide : 2 ≤ sizeLine)
theorem sz3 {a b c : V} : [a, b, c].length ≤ sizeLine := (by decide : 3 ≤ sizeLine)
theorem sz5 {a b c d e : V} : [a, b, c, d, e].length ≤ sizeLine := (by decide : 5 ≤ sizeLine)
/-! ### a run as it stands -/
structure RunP where
  r : Addr
  dx : Addr
  s : Addr
  b : Addr
  u : Addr
  e : Addr
def EvAt (H : Hp) (v : V) (x : Bool × Nat) : Prop := ∃ a nm rest, v = .ref a ∧ H a = some (.tup (.str nm :: vn x.2 :: rest)) ∧ decide (V.str nm = V.str "call") = x.1
def EvsAt (H : Hp) (es : List V) (xs : List (Bool × Nat)) : Prop := es.length = xs.length ∧ ∀ (i : Nat) x, xs[i]? = some x → ∃ v, es[i]? = some v ∧ EvAt H v x
def runF (R : RunP) (k : Int) : List (Str × V) := [("net", .ref R.s), ("board", .ref R.b), ("rule", .str "all"), ("busy", .ref R.u), ("allowed", .non), ("begun", .int k), ("happened", .ref R.e)]
def boardV (n : Nat) (T : Bg.Tab) : List V := (List.range n).map fun c => optV (T c)
structure RunAt (K : PySem.W.Frag) (H : Hp) (R : RunP) (n : Nat) (T : Bg.Tab) (B : List Nat) (es : List V) (xs : List (Bool × Nat)) : Prop where
  r : ∃ k, H R.r = some (.ins (He.ga K "Run") R.dx (runF R k))
  b : H R.b = some (.lst (boardV n T))
  u : H R.u = some (.lst (B.map vn))
  e : H R.e = some (.lst es)
  ev : EvsAt H es xs
  bu : R.b ≠ R.u
  be : R.b ≠ R.e
  ue : R.u ≠ R.e
/-- all else stays -/
def Keeps (R : RunP) (H H' : Hp) : Prop := ∀ a o, a ≠ R.r → a ≠ R.b → a ≠ R.u → a ≠ R.e → H a = some o → H' a = some o
theorem Keeps.refl {R : RunP} {H : Hp} : Keeps R H H := fun _ _ _ _ _ _ h => h
theorem Keeps.trans {R : RunP} {H H' H2 : Hp} (h : Keeps R H H') (k : Keeps R H' H2) : Keeps R H H2 := fun a o h1 h2 h3 h4 q => k a o h1 h2 h3 h4 (h a o h1 h2 h3 h4 q)
theorem Keeps.of {R : RunP} {H H' : Hp} (s : Same H H') : Keeps R H H' := fun a o _ _ _ _ h => s a o h
section
variable {K : PySem.W.Frag} {H H' : Hp} {R : RunP} {n : Nat} {T : Bg.Tab} {B : List Nat} {es : List V} {xs : List (Bool × Nat)}
theorem RunAt.tup (A : RunAt K H R n T B es xs) (k : Keeps R H H') {a : Addr} {ys : List V} (h : H a = some (.tup ys)) : H' a = some (.tup ys) := by
  obtain ⟨_, hr⟩ := A.r
  exact k a _ (ne_of h hr (by simp)) (ne_of h A.b (by simp)) (ne_of h A.u (by simp)) (ne_of h A.e (by simp)) h
theorem RunAt.ins (A : RunAt K H R n T B es xs) (k : Keeps R H H') {a : Addr} {C d t : Addr} (h : H a = some (.ins C d [("triples", .ref t)])) : H' a = some (.ins C d [("triples", .ref t)]) := by
  obtain ⟨_, hr⟩ := A.r
  exact k a _ (ne_of h hr (by simp [runF])) (ne_of h A.b (by simp)) (ne_of h A.u (by simp)) (ne_of h A.e (by simp)) h
theorem RunAt.fnAt (A : RunAt K H R n T B es xs) (k : Keeps R H H') {v : V} {f : Fn} (h : FnAt H v f) : FnAt H' v f := by
  cases f with
  | lev q c => obtain ⟨a, e, h⟩ := h; exact ⟨a, e, A.tup k h⟩
  | tab t => obtain ⟨a, b, e, h, q⟩ := h; exact ⟨a, b, e, A.tup k h, A.tup k q⟩
theorem RunAt.sys (A : RunAt K H R n T B es xs) (k : Keeps R H H') {s : Addr} {rows : List Row} (h : SysAt K H s rows) : SysAt K H' s rows := by
  obtain ⟨dx, t, vs, h1, h2, h3, h4⟩ := h
  refine ⟨dx, t, vs, A.ins k h1, A.tup k h2, h3, fun i r e => ?_⟩
  obtain ⟨v, q, a, o, f, e1, e2, e3, e4⟩ := h4 i r e
  exact ⟨v, q, a, o, f, e1, A.tup k e2, A.tup k e3, A.fnAt k e4⟩
theorem EvsAt.keep (h : EvsAt H es xs) (k : ∀ a ys, H a = some (.tup ys) → H' a = some (.tup ys)) : EvsAt H' es xs :=
  ⟨h.1, fun i x e => let ⟨v, q, a, nm, rest, e1, e2, e3⟩ := h.2 i x e; ⟨v, q, a, nm, rest, e1, k _ _ e2, e3⟩⟩
theorem EvsAt.snoc (h : EvsAt H es xs) {v : V} {x : Bool × Nat} (q : EvAt H v x) : EvsAt H (es ++ [v]) (xs ++ [x]) := by
  refine ⟨by simp [h.1], fun i y e => ?_⟩
  by_cases hi : i < xs.length
  · rw [List.getElem?_append_left hi] at e
    rw [List.getElem?_append_left (by rw [h.1]; exact hi)]
    exact h.2 i y e
  · have hl : i = xs.length := by
      have := (List.getElem?_eq_some_iff.mp e).1
      simp at this
      omega
    subst hl
    rw [List.getElem?_append_right (Nat.le_refl _)] at e
    rw [List.getElem?_append_right (by rw [h.1]; exact Nat.le_refl _), h.1]
    simp at e
    subst e
    exact ⟨v, by simp, q⟩
/-- what was new is written -/
theorem RunAt.same (A : RunAt K H R n T B es xs) (s : Same H H') : RunAt K H' R n T B es xs := by
  obtain ⟨k, hr⟩ := A.r
  exact ⟨⟨k, s _ _ hr⟩, s _ _ A.b, s _ _ A.u, s _ _ A.e, A.ev.keep fun a ys h => s _ _ h, A.bu, A.be, A.ue⟩
/-- events get one more -/
theorem RunAt.more (A : RunAt K H R n T B es xs) {v : V} {x : Bool × Nat} (q : EvAt H v x) : RunAt K (upd H R.e (.lst (es ++ [v]))) R n T B (es ++ [v]) (xs ++ [x]) := by
  obtain ⟨k, hr⟩ := A.r
  have keep : ∀ a ys, H a = some (.tup ys) → upd H R.e (.lst (es ++ [v])) a = some (.tup ys) := fun a ys h => by rw [upd_ne (ne_of h A.e (by simp))]; exact h
  refine ⟨⟨k, by rw [upd_ne (ne_of hr A.e (by simp))]; exact hr⟩, by rw [upd_ne A.be]; exact A.b, by rw [upd_ne A.ue]; exact A.u, upd_same, ?_, A.bu, A.be, A.ue⟩
  refine EvsAt.keep ?_ keep
  exact A.ev.snoc q
theorem Keeps.e {o : HO} : Keeps R H (upd H R.e o) := fun a p _ _ _ h4 h => by rw [upd_ne h4]; exact h
theorem Keeps.u {o : HO} : Keeps R H (upd H R.u o) := fun a p _ _ h3 _ h => by rw [upd_ne h3]; exact h
theorem Keeps.b {o : HO} : Keeps R H (upd H R.b o) := fun a p _ h2 _ _ h => by rw [upd_ne h2]; exact h
theorem Keeps.r {o : HO} : Keeps R H (upd H R.r o) := fun a p h1 _ _ _ h => by rw [upd_ne h1]; exact h
/-- the open calls are others -/
theorem RunAt.opens (A : RunAt K H R n T B es xs) (B' : List Nat) : RunAt K (upd H R.u (.lst (B'.map vn))) R n T B' es xs := by
  obtain ⟨k, hr⟩ := A.r
  refine ⟨⟨k, by rw [upd_ne (ne_of hr A.u (by simp))]; exact hr⟩, by rw [upd_ne A.bu]; exact A.b, upd_same, by rw [upd_ne (Ne.symm A.ue)]; exact A.e, ?_, A.bu, A.be, A.ue⟩
  exact A.ev.keep fun a ys h => by rw [upd_ne (ne_of h A.u (by simp))]; exact h
/-- the board is another -/
theorem RunAt.onBoard (A : RunAt K H R n T B es xs) (T' : Bg.Tab) : RunAt K (upd H R.b (.lst (boardV n T'))) R n T' B es xs := by
  obtain ⟨k, hr⟩ := A.r
  refine ⟨⟨k, by rw [upd_ne (ne_of hr A.b (by simp))]; exact hr⟩, upd_same, by rw [upd_ne (Ne.symm A.bu)]; exact A.u, by rw [upd_ne (Ne.symm A.be)]; exact A.e, ?_, A.bu, A.be, A.ue⟩
  exact A.ev.keep fun a ys h => by rw [upd_ne (ne_of h A.b (by simp))]; exact h
/-- one more is counted -/
theorem RunAt.count (A : RunAt K H R n T B es xs) (k : Int) : RunAt K (upd H R.r (.ins (He.ga K "Run") R.dx (runF R k))) R n T B es xs := by
  obtain ⟨_, hr⟩ := A.r
  refine ⟨⟨k, upd_same⟩, by rw [upd_ne (ne_of A.b hr (by simp))]; exact A.b, by rw [upd_ne (ne_of A.u hr (by simp))]; exact A.u, by rw [upd_ne (ne_of A.e hr (by simp))]; exact A.e, ?_, A.bu, A.be, A.ue⟩
  exact A.ev.keep fun a ys h => by rw [upd_ne (ne_of h hr (by simp))]; exact h
end
theorem board_at {n c : Nat} {T : Bg.Tab} (h : c < n) : (boardV n T)[c]? = some (optV (T c)) := by
  unfold boardV
  rw [List.getElem?_map, List.getElem?_range h]; rfl
theorem board_len {n : Nat} {T : Bg.Tab} : (boardV n T).length = n := by simp [boardV]
theorem board_put {n c : Nat} {T : Bg.Tab} {v : Int} (h : c < n) : (boardV n T).set c (.int v) = boardV n (Bg.put T c v) := by
  apply List.ext_getElem?
  intro i
  rw [List.getElem?_set]
  by_cases hi : i < n
  · rw [board_at hi, board_len]
    by_cases e : c = i
    · subst e
      rw [if_pos rfl, if_pos h, board_at h, Bg.put_same]; rfl
    · rw [if_neg e, board_at hi, Bg.put_ne (Ne.symm e)]
  · have h1 : (boardV n T)[i]? = none := List.getElem?_eq_none (by rw [board_len]; omega)
    have h2 : (boardV n (Bg.put T c v))[i]? = none := List.getElem?_eq_none (by rw [board_len]; omega)
    have e : c ≠ i := by omega
    rw [if_neg e, h1, h2]
end BgT
set_option Elab.async false
set_option linter.all false
set_option maxRecDepth 100000
set_option maxHeartbeats 4000000
namespace BgT
open PySem PySem.Spec PyProof.Rows L2
section
variable {P : Program} {w : World} {K : PySem.W.Frag} {mg : Str → Option Value} {base : Heap}
/-! ### Run.call, Run.evaluate -/
section
variable {H : Hp} {R : RunP} {n : Nat} {Tb : Bg.Tab} {B : List Nat} {es : List V} {xs : List (Bool × Nat)} {σ : L2.St} {Q : VK}
theorem rd_net (T : Tx K mg) (A : RunAt K H R n Tb B es xs) (h : σ[0]? = some (some (.ref R.r))) (q : Q (.ref R.s) H) : tFld K (tVar 0) "net" σ H Q := by
  obtain ⟨k, hr⟩ := A.r
  exact ⟨_, h, R.r, _, _, _, _, rfl, hr, T.cl_Run, T.na_Run_net, rfl, q⟩
theorem rd_board (T : Tx K mg) (A : RunAt K H R n Tb B es xs) (h : σ[0]? = some (some (.ref R.r))) (q : Q (.ref R.b) H) : tFld K (tVar 0) "board" σ H Q := by
  obtain ⟨k, hr⟩ := A.r
  exact ⟨_, h, R.r, _, _, _, _, rfl, hr, T.cl_Run, T.na_Run_board, rfl, q⟩
theorem rd_rule (T : Tx K mg) (A : RunAt K H R n Tb B es xs) (h : σ[0]? = some (some (.ref R.r))) (q : Q (.str "all") H) : tFld K (tVar 0) "rule" σ H Q := by
  obtain ⟨k, hr⟩ := A.r
  exact ⟨_, h, R.r, _, _, _, _, rfl, hr, T.cl_Run, T.na_Run_rule, rfl, q⟩
theorem rd_busy (T : Tx K mg) (A : RunAt K H R n Tb B es xs) (h : σ[0]? = some (some (.ref R.r))) (q : Q (.ref R.u) H) : tFld K (tVar 0) "busy" σ H Q := by
  obtain ⟨k, hr⟩ := A.r
  exact ⟨_, h, R.r, _, _, _, _, rfl, hr, T.cl_Run, T.na_Run_busy, rfl, q⟩
theorem rd_allowed (T : Tx K mg) (A : RunAt K H R n Tb B es xs) (h : σ[0]? = some (some (.ref R.r))) (q : Q .non H) : tFld K (tVar 0) "allowed" σ H Q := by
  obtain ⟨k, hr⟩ := A.r
  exact ⟨_, h, R.r, _, _, _, _, rfl, hr, T.cl_Run, T.na_Run_allowed, rfl, q⟩
theorem rd_happened (T : Tx K mg) (A : RunAt K H R n Tb B es xs) (h : σ[0]? = some (some (.ref R.r))) (q : Q (.ref R.e) H) : tFld K (tVar 0) "happened" σ H Q := by
  obtain ⟨k, hr⟩ := A.r
  exact ⟨_, h, R.r, _, _, _, _, rfl, hr, T.cl_Run, T.na_Run_happened, rfl, q⟩
/-- a new event behind the others -/
theorem RunAt.noted (A : RunAt K H R n Tb B es xs) {p : Addr} {nm : Str} {c : Nat} {rest : List V} (hp : H p = none) (b : Bool) (hb : decide (V.str nm = V.str "call") = b) :
    ∃ es', RunAt K (upd (upd H p (.tup (.str nm :: vn c :: rest))) R.e (.lst es')) R n Tb B es' (xs ++ [(b, c)]) ∧ es' = es ++ [.ref p] :=
  ⟨_, (A.same (same_upd hp)).more (v := .ref p) (x := (b, c)) ⟨p, nm, rest, rfl, upd_same, hb⟩, rfl⟩
theorem RunAt.none_r (A : RunAt K H R n Tb B es xs) {p : Addr} (hp : H p = none) : p ≠ R.r ∧ p ≠ R.b ∧ p ≠ R.u ∧ p ≠ R.e := by
  obtain ⟨k, hr⟩ := A.r
  exact ⟨Ne.symm (ne_of_none hr hp), Ne.symm (ne_of_none A.b hp), Ne.symm (ne_of_none A.u hp), Ne.symm (ne_of_none A.e hp)⟩
end
def rd_run (K : PySem.W.Frag) (R : RunP) (H : Hp) (Q : VK) (rows : List Row) (T : Bg.Tab) (B : List Nat) (xs : List (Bool × Nat)) (z : Bg.Res) : Prop :=
  ∀ H' a t es' (ts : List Nat), Keeps R H H' → RunAt K H' R rows.length z.2.1 B es' (xs ++ z.2.2) → H' a = some (.tup [.int z.1, .ref t]) → H' t = some (.tup (ts.map vn)) → (∀ x ∈ ts, x < 24) → Q (.ref a) H'
def sp_Run_call (K : PySem.W.Frag) (f : Nat) : Sp := fun vs H Q _ => ∃ (R : RunP) (rows : List Row) (c : Nat) (T : Bg.Tab) (B : List Nat) (es : List V) (xs : List (Bool × Nat)), vs = [.ref R.r, vn c] ∧ SysAt K H R.s rows ∧ RowsOk rows ∧
  RunAt K H R rows.length T B es xs ∧ Bg.Fit (sysOf rows) f B ∧ c < rows.length ∧ Bg.TLv T ∧ xs.length + (Bg.run (sysOf rows) f T B c).2.2.length ≤ 900 ∧ rd_run K R H Q rows T B xs (Bg.run (sysOf rows) f T B c)
def sp_Run_evaluate (K : PySem.W.Frag) (f : Nat) : Sp := fun vs H Q _ => ∃ (R : RunP) (rows : List Row) (c : Nat) (T : Bg.Tab) (B : List Nat) (es : List V) (xs : List (Bool × Nat)), vs = [.ref R.r, vn c] ∧ SysAt K H R.s rows ∧ RowsOk rows ∧
  RunAt K H R rows.length T B es xs ∧ Bg.Fit (sysOf rows) f B ∧ c < rows.length ∧ Bg.TLv T ∧ T c = none ∧ c ∉ B ∧ xs.length + (Bg.run (sysOf rows) f T B c).2.2.length ≤ 900 ∧ rd_run K R H Q rows T B xs (Bg.run (sysOf rows) f T B c)
def ResAt (H : Hp) (rs : List V) (vs : List Int) (W : List (List Nat)) : Prop := rs.length = vs.length ∧ W.length = vs.length ∧ (∀ (i : Nat) (v : Int) (ts : List Nat), vs[i]? = some v → W[i]? = some ts → ∃ a t, rs[i]? = some (.ref a) ∧ H a = some (.tup [.int v, .ref t]) ∧ H t = some (.tup (ts.map vn))) ∧ ∀ D ∈ W, ∀ x ∈ D, x < 24
theorem ResAt.nil {H : Hp} : ResAt H [] [] [] := ⟨rfl, rfl, fun i v ts h => by simp at h, by simp⟩
theorem ResAt.keep {H H' : Hp} {rs : List V} {vs : List Int} {W : List (List Nat)} (h : ResAt H rs vs W) (k : ∀ a ys, H a = some (.tup ys) → H' a = some (.tup ys)) : ResAt H' rs vs W :=
  ⟨h.1, h.2.1, fun i v ts e1 e2 => let ⟨a, t, q1, q2, q3⟩ := h.2.2.1 i v ts e1 e2; ⟨a, t, q1, k _ _ q2, k _ _ q3⟩, h.2.2.2⟩
theorem ResAt.get {H : Hp} {rs : List V} {vs : List Int} {W : List (List Nat)} (h : ResAt H rs vs W) {i : Nat} {x : V} (e : rs[i]? = some x) : ∃ v ts a t, vs[i]? = some v ∧ W[i]? = some ts ∧ x = .ref a ∧ H a = some (.tup [.int v, .ref t]) ∧ H t = some (.tup (ts.map vn)) := by
  have hi : i < rs.length := (List.getElem?_eq_some_iff.mp e).1
  have h1 : i < vs.length := by rw [← h.1]; exact hi
  have h2 : i < W.length := by rw [h.2.1]; exact h1
  obtain ⟨a, t, q1, q2, q3⟩ := h.2.2.1 i _ _ (List.getElem?_eq_getElem h1) (List.getElem?_eq_getElem h2)
  rw [e] at q1
  cases q1
  exact ⟨_, _, a, t, List.getElem?_eq_getElem h1, List.getElem?_eq_getElem h2, rfl, q2, q3⟩
theorem ResAt.snoc {H : Hp} {rs : List V} {vs : List Int} {W : List (List Nat)} (h : ResAt H rs vs W) {a t : Addr} {v : Int} {ts : List Nat} (ha : H a = some (.tup [.int v, .ref t])) (ht : H t = some (.tup (ts.map vn))) (hl : ∀ x ∈ ts, x < 24) :
    ResAt H (rs ++ [.ref a]) (vs ++ [v]) (W ++ [ts]) := by
  refine ⟨by simp [h.1], by simp [h.2.1], fun i v' ts' e1 e2 => ?_, fun D hD x hx => ?_⟩
  · by_cases hi : i < vs.length
    · rw [List.getElem?_append_left hi] at e1
      rw [List.getElem?_append_left (by rw [h.2.1]; exact hi)] at e2
      rw [List.getElem?_append_left (by rw [h.1]; exact hi)]
      exact h.2.2.1 i v' ts' e1 e2
    · have hl : i = vs.length := by
        have := (List.getElem?_eq_some_iff.mp e1).1
        simp at this
        omega
      subst hl
      rw [List.getElem?_append_right (Nat.le_refl _)] at e1
      rw [List.getElem?_append_right (by rw [h.2.1]; exact Nat.le_refl _), h.2.1] at e2
      rw [List.getElem?_append_right (by rw [h.1]; exact Nat.le_refl _), h.1]
      simp at e1 e2
      subst e1 e2
      exact ⟨a, t, by simp, ha, ht⟩
  · rcases List.mem_append.mp hD with hD | hD
    · exact h.2.2.2 D hD x hx
    · simp at hD; subst hD; exact hl x hx
theorem sc_Run_call : FnScope ["self", "cell", "value"] ["self", "cell"] (defScope s_Run_call) := ⟨rfl, rfl, rfl, by decide +kernel, rfl, by decide +kernel, by decide +kernel⟩
theorem bd_Run_call {K : PySem.W.Frag} {mg : Str → Option Value} (T : Tx K mg) : Binds K (fdOf K (He.ma K (He.ga K "Run") "call")) ["self", "cell"] [] := T.F_Run_call.bindsN (fun _ _ _ _ _ _ us hl => match us, hl with | [_, _], _ => rfl)
theorem sc_Run_evaluate : FnScope ["self", "cell", "results", "value", "taint", "values", "kept", "operand", "one", "part"] ["self", "cell"] (defScope s_Run_evaluate) := ⟨rfl, rfl, rfl, by decide +kernel, rfl, by decide +kernel, by decide +kernel⟩
theorem bd_Run_evaluate {K : PySem.W.Frag} {mg : Str → Option Value} (T : Tx K mg) : Binds K (fdOf K (He.ma K (He.ga K "Run") "evaluate")) ["self", "cell"] [] := T.F_Run_evaluate.bindsN (fun _ _ _ _ _ _ us hl => match us, hl with | [_, _], _ => rfl)
theorem ok_Run_call (T : Tx K mg) (f : Nat) (he : FM P w K mg base (2 * f + 8) "Run" "evaluate" ["self", "cell"] (sp_Run_evaluate K f)) : FM P w K mg base (2 * f + 8 + 1) "Run" "call" ["self", "cell"] (sp_Run_call K f) := by
  refine T.F_Run_call.ok sc_Run_call (fun vs H Q E h => ?_) (fun cdv A outer s H vs Q E hr h => ?_)
  · obtain ⟨R, rows, c, T, B, es, xs, rfl, _⟩ := h; rfl
  · obtain ⟨R, rows, c, Tb, B, es, xs, rfl, hs, hok, hR, hfit, hc, hlv, hlen, q⟩ := h
    refine ⟨_, PSs.nox (pss_cons (ps_set (i := 2) sc_Run_call.nd rfl (Or.inl rfl) (pe_ix ix_list (pe_fld (pv 0) rfl) (pv 1) (fun _ _ => rfl)))
 (pss_cons (ps_if (pt_cmpR op_notN (pv 2) pe_non (nomark _))
 (pss_cons (ps_expr (pe_bm PySem.F.plainAttrs_list PySem.F.slot_list_append PySem.F.type_list_append mt_append (pe_fld (pv 0) rfl) (pa_cons (pe_tup (pa_cons pe_str (pa_cons (pv 1) (pa_cons (pv 2) pa_nil)))) pa_nil)))
 (pss_one (ps_ret (pe_tup (pa_cons (pv 2) (pa_cons (pe_tup pa_nil) pa_nil))))))
 pss_nil)
 (pss_cons (ps_if (pt_cmpR op_in_seq (pv 1) (pe_fld (pv 0) rfl) (by rfl))
 (pss_cons (ps_expr (pe_bm PySem.F.plainAttrs_list PySem.F.slot_list_append PySem.F.type_list_append mt_append (pe_fld (pv 0) rfl) (pa_cons (pe_tup (pa_cons pe_str (pa_cons (pv 1) (pa_cons (pe_meth (pe_fld (pv 0) rfl) T.cl_System T.m_System_guess (ok_System_guess T) (hr.mono (by omega)) (bd_System_guess T) .nil pass0 (pa_cons (pv 1) pa_nil)) pa_nil)))) pa_nil)))
 (pss_one (ps_ret (pe_tup (pa_cons (pe_meth (pe_fld (pv 0) rfl) T.cl_System T.m_System_guess (ok_System_guess T) (hr.mono (by omega)) (bd_System_guess T) .nil pass0 (pa_cons (pv 1) pa_nil)) (pa_cons (pe_tup (pa_cons (pv 1) pa_nil)) pa_nil))))))
 pss_nil)
 (pss_one (ps_ret (pe_meth (pv 0) T.cl_Run T.m_Run_evaluate he (hr.mono (by omega)) (bd_Run_evaluate T) .nil pass0 (pa_cons (pv 1) pa_nil))))))), ?_⟩
    refine ⟨_, rfl, R.r, _, _, _, _, rfl, hR.r.choose_spec, T.cl_Run, T.na_Run_board, rfl, _, rfl, R.b, _, _, _, rfl, rfl, SqL.of hR.b, atI_nat (board_at hc), _, rfl, rfl, _, rfl, ?_⟩
    have hfit0 : ∃ f', f = f' + 1 := by
      cases f with
      | zero => exact hfit.zero.elim
      | succ f => exact ⟨f, rfl⟩
    obtain ⟨f', rfl⟩ := hfit0
    cases hT : Tb c with
    | some v =>
      have hrun : Bg.run (sysOf rows) (f' + 1) Tb B c = (v, Tb, [(false, c)]) := by simp only [Bg.run, hT]
      rw [hrun] at hlen q
      refine iteT ?_
      refine ⟨_, rfl, R.r, _, _, _, _, rfl, hR.r.choose_spec, T.cl_Run, T.na_Run_happened, rfl, .inl ⟨rfl, _, SqL.of hR.e⟩, _, rfl, _, rfl, sz3, fun p hp => ?_⟩
      obtain ⟨es', hR2, ees⟩ := hR.noted (nm := "stored") (c := c) (rest := [.int v]) hp false (by decide)
      obtain ⟨n1, n2, n3, n4⟩ := hR.none_r hp
      refine ⟨R.e, _, _, rfl, rfl, (by rw [upd_ne (Ne.symm n4)]; exact hR.e), small1000 (by have := hR.ev.1; simp at hlen; omega), ?_⟩
      rw [← ees]
      refine ⟨_, rfl, sz0, fun t ht => ⟨sz2, fun a ha => ?_⟩⟩
      have s2 := (same_upd ht (o := .tup ([] : List V))).trans (same_upd ha (o := .tup [.int v, .ref t]))
      refine q _ a t es' [] (((Keeps.of (same_upd hp)).trans Keeps.e).trans (Keeps.of s2)) (hR2.same s2) upd_same ?_ (by simp)
      rw [upd_ne (ne_of_none upd_same ha)]
      exact upd_same
    | none =>
      refine iteF ⟨_, rfl, ?_⟩
      refine ⟨_, rfl, R.r, _, _, _, _, rfl, hR.r.choose_spec, T.cl_Run, T.na_Run_busy, rfl, R.u, _, rfl, .inl (SqL.of hR.u), rfl, flat_cells _, _, rfl, ?_⟩
      rw [inV_cells]
      by_cases hB : c ∈ B
      · obtain ⟨r, hr0⟩ := row_at (rows := rows) hc
        have hgs : (sysOf rows).gs c = r.gs := sys_gs hr0
        have hrun : Bg.run (sysOf rows) (f' + 1) Tb B c = (r.gs, Tb, [(false, c)]) := by simp only [Bg.run, hT, hB, if_true, hgs]
        rw [hrun] at hlen q
        rw [decide_eq_true hB]
        obtain ⟨dx, tt, vs, hs1, -⟩ := id hs
        refine iteT ?_
        refine ⟨_, rfl, R.r, _, _, _, _, rfl, hR.r.choose_spec, T.cl_Run, T.na_Run_happened, rfl, .inl ⟨rfl, _, SqL.of hR.e⟩, _, rfl, ?_⟩
        refine ⟨_, rfl, R.r, _, _, _, _, rfl, hR.r.choose_spec, T.cl_Run, T.na_Run_net, rfl, R.s, _, _, rfl, hs1, rfl, _, rfl, R.s, rows, c, r, rfl, hs, hr0, sz3, fun p hp => ?_⟩
        obtain ⟨es', hR2, ees⟩ := hR.noted (nm := "busy") (c := c) (rest := [.int r.gs]) hp false (by decide)
        obtain ⟨n1, n2, n3, n4⟩ := hR.none_r hp
        refine ⟨R.e, _, _, rfl, rfl, (by rw [upd_ne (Ne.symm n4)]; exact hR.e), small1000 (by have := hR.ev.1; simp at hlen; omega), ?_⟩
        rw [← ees]
        have k2 : Keeps R H (upd (upd H p (.tup (.str "busy" :: vn c :: [.int r.gs]))) R.e (.lst es')) := (Keeps.of (same_upd hp)).trans Keeps.e
        have hs2 := hR.sys k2 hs
        obtain ⟨dx2, tt2, vs2, hs3, -⟩ := id hs2
        refine ⟨_, rfl, R.r, _, _, _, _, rfl, hR2.r.choose_spec, T.cl_Run, T.na_Run_net, rfl, R.s, _, _, rfl, hs3, rfl, _, rfl, R.s, rows, c, r, rfl, hs2, hr0, _, rfl, sz1, fun t ht => ⟨sz2, fun a ha => ?_⟩⟩
        have s2 := (same_upd ht (o := .tup [vn c])).trans (same_upd ha (o := .tup [.int r.gs, .ref t]))
        refine q _ a t es' [c] (k2.trans (Keeps.of s2)) (hR2.same s2) upd_same ?_ (by have := hok.le; simp; omega)
        rw [upd_ne (ne_of_none upd_same ha)]
        exact upd_same
      · rw [decide_eq_false hB]
        obtain ⟨k, hr1⟩ := hR.r
        exact iteF ⟨_, rfl, R.r, _, _, rfl, hr1, rfl, _, rfl, R, rows, c, Tb, B, es, xs, rfl, hs, hok, hR, hfit, hc, hlv, hT, hB, hlen, q⟩
theorem ok_Run_evaluate (T : Tx K mg) (f : Nat) (hc0 : FM P w K mg base (2 * f + 9) "Run" "call" ["self", "cell"] (sp_Run_call K f)) : FM P w K mg base (2 * f + 9 + 1) "Run" "evaluate" ["self", "cell"] (sp_Run_evaluate K (f + 1)) := by
  refine T.F_Run_evaluate.ok sc_Run_evaluate (fun vs H Q E h => ?_) (fun cdv A outer s H vs Q E hr h => ?_)
  · obtain ⟨R, rows, c, T, B, es, xs, rfl, _⟩ := h; rfl
  · obtain ⟨R, rows, c, Tb, B, es, xs, rfl, hs, hok, hR, hfit, hc, hlv, hTc, hcB, hlen, q⟩ := h
    refine ⟨_, PSs.nox (pss_cons (ps_if (PW.pt (pw_and (pt_cmpR op_notN (pe_fld (pv 0) rfl) pe_non (nomark _)) (pw_and1 (pt_cmpR op_ge (pe_fld (pv 0) rfl) (pe_fld (pv 0) rfl) (nomark _)))))
 pss_never
 pss_nil)
 (pss_cons (ps_fldaug (pv 0) pe_int in_add)
 (pss_cons (ps_expr (pe_bm PySem.F.plainAttrs_list PySem.F.slot_list_append PySem.F.type_list_append mt_append (pe_fld (pv 0) rfl) (pa_cons (pe_tup (pa_cons pe_str (pa_cons (pv 1) pa_nil))) pa_nil)))
 (pss_cons (ps_expr (pe_bm PySem.F.plainAttrs_list PySem.F.slot_list_append PySem.F.type_list_append mt_append (pe_fld (pv 0) rfl) (pa_cons (pv 1) pa_nil)))
 (pss_cons (ps_setLc (i := 2) (own := [("operand", 7)]) (g := gName 7) rfl sc_Run_evaluate.nd rfl rfl (sw_true rfl rfl rfl (by decide +kernel)) (pi_tup (pe_meth (pe_fld (pv 0) rfl) T.cl_System T.m_System_operands (ok_System_operands T) (hr.mono (by omega)) (bd_System_operands T) .nil pass0 (pa_cons (pv 1) pa_nil))) (blkOk_by (own := [("operand", 7)]) (N := ["self", "cell", "results", "value", "taint", "values", "kept", "operand", "one", "part"]) (sc := defScope s_Run_evaluate) (by decide +kernel)) (fun _ _ _ _ _ => (pg_name (i := 7) sc_Run_evaluate.nd rfl (by first | exact Or.inl rfl | exact Or.inr rfl))) (fun _ _ _ _ _ => pts_nil) (fun _ _ _ _ _ => (pe_meth (pv 0) T.cl_Run T.m_Run_call hc0 (hr.mono (by omega)) (bd_Run_call T) .nil pass0 (pa_cons (pv 7) pa_nil))))
 (pss_cons (ps_expr (pe_bm0 PySem.F.plainAttrs_list PySem.F.slot_list_pop PySem.F.type_list_pop mt_pop (pe_fld (pv 0) rfl)))
 (pss_cons (ps_setLc (i := 5) (own := [("value", 3), ("taint", 4)]) (g := gTup K 2 (gCons (gName 3) (gCons (gName 4) gNil))) rfl sc_Run_evaluate.nd rfl rfl (sw_true rfl rfl rfl (by decide +kernel)) (pi_list (pv 2)) (blkOk_by (own := [("value", 3), ("taint", 4)]) (N := ["self", "cell", "results", "value", "taint", "values", "kept", "operand", "one", "part"]) (sc := defScope s_Run_evaluate) (by decide +kernel)) (fun _ _ _ _ _ => (pg_tup rfl (pgs_cons (pg_name (i := 3) sc_Run_evaluate.nd rfl (by first | exact Or.inl rfl | exact Or.inr rfl)) (pgs_cons (pg_name (i := 4) sc_Run_evaluate.nd rfl (by first | exact Or.inl rfl | exact Or.inr rfl)) pgs_nil)))) (fun _ _ _ _ _ => pts_nil) (fun _ _ _ _ _ => (pv 3)))
 (pss_cons (ps_set (i := 3) sc_Run_evaluate.nd rfl (Or.inl rfl) (StX.pe_callS2 (ok_value_of T) (hr.mono (by omega)) T.F_value_of.kp rfl T.g_value_of pass0 (pa_cons (pe_meth (pe_fld (pv 0) rfl) T.cl_System T.m_System_function (ok_System_function T) (hr.mono (by omega)) (bd_System_function T) .nil pass0 (pa_cons (pv 1) pa_nil)) (StX.pa_star (pv 5) pa_nil))))
 (pss_cons (ps_set (i := 4) sc_Run_evaluate.nd rfl (Or.inl rfl) (pe_call (ok_joined_taint T) (hr.mono (by omega)) rfl T.g_joined_taint T.F_joined_taint.kp (bd_joined_taint T) .nil pass0 (pa_cons (pe_lc (own := [("one", 8), ("part", 9)]) (g := gTup K 2 (gCons (gName 8) (gCons (gName 9) gNil))) rfl sc_Run_evaluate.nd (pi_list (pv 2)) (blkOk_by (own := [("one", 8), ("part", 9)]) (N := ["self", "cell", "results", "value", "taint", "values", "kept", "operand", "one", "part"]) (sc := defScope s_Run_evaluate) (by decide +kernel)) (fun _ _ _ _ _ => (pg_tup rfl (pgs_cons (pg_name (i := 8) sc_Run_evaluate.nd rfl (by first | exact Or.inl rfl | exact Or.inr rfl)) (pgs_cons (pg_name (i := 9) sc_Run_evaluate.nd rfl (by first | exact Or.inl rfl | exact Or.inr rfl)) pgs_nil)))) (fun _ _ _ _ _ => pts_nil) (fun _ _ _ _ _ => (pv 9))) (pa_cons (pv 1) pa_nil))))
 (pss_cons (ps_set (i := 6) sc_Run_evaluate.nd rfl (Or.inl rfl) (pe_call (ok_is_kept T) (hr.mono (by omega)) rfl T.g_is_kept T.F_is_kept.kp (bd_is_kept T) .nil pass0 (pa_cons (pe_fld (pv 0) rfl) (pa_cons (pv 4) pa_nil))))
 (pss_cons (ps_if (pt_val (pv 6))
 (pss_one (ps_asg (pv 3) (pg_sub (pe_fld (pv 0) rfl) (pv 1) set_list)))
 pss_nil)
 (pss_cons (ps_expr (pe_bm PySem.F.plainAttrs_list PySem.F.slot_list_append PySem.F.type_list_append mt_append (pe_fld (pv 0) rfl) (pa_cons (pe_tup (pa_cons pe_str (pa_cons (pv 1) (pa_cons (pv 3) (pa_cons (pv 4) (pa_cons (pv 6) pa_nil)))))) pa_nil)))
 (pss_one (ps_ret (pe_tup (pa_cons (pv 3) (pa_cons (pv 4) pa_nil))))))))))))))))), ?_⟩
    obtain ⟨r, hr0⟩ := row_at (rows := rows) hc
    have hops : (sysOf rows).ops c = r.ops := sys_ops hr0
    have hrok := hok.row hr0
    have hrun : Bg.run (sysOf rows) (f + 1) Tb B c = Bg.evd (sysOf rows) c (Bg.runL (fun T o => Bg.run (sysOf rows) f T (B ++ [c]) o) Tb r.ops) := by simp only [Bg.run, hTc, hcB, if_false, hops]
    have hfit' : Bg.Fit (sysOf rows) f (B ++ [c]) := hfit.push hc hcB
    have hBl : B.length ≤ 24 := Nat.le_trans (Bg.nodup_le _ _ hfit.nd hfit.lt) hok.le
    rw [hrun] at hlen q
    have hl2 : xs.length + ((Bg.runL (fun T o => Bg.run (sysOf rows) f T (B ++ [c]) o) Tb r.ops).2.2.length + 2) ≤ 900 := by
      simp only [Bg.evd, List.length_append, List.length_cons, List.length_nil] at hlen
      omega
    -- the count
    refine ⟨_, rfl, R.r, _, _, _, _, rfl, hR.r.choose_spec, T.cl_Run, T.na_Run_allowed, rfl, rfl, _, rfl, iteF ?_⟩
    obtain ⟨k, hrk⟩ := hR.r
    refine ⟨_, rfl, R.r, _, _, _, _, rfl, hrk, T.cl_Run, T.na_Run_begun, rfl, _, _, rfl, rfl, R.dx, _, hrk, (by simp [runF]), ?_⟩
    have A1 := hR.count (k + 1)
    have k1 : Keeps R H _ := Keeps.r (o := .ins (He.ga K "Run") R.dx (runF R (k + 1)))
    show tSeq _ _ _ _ (upd H R.r (.ins (He.ga K "Run") R.dx (runF R (k + 1))))
    generalize upd H R.r (.ins (He.ga K "Run") R.dx (runF R (k + 1))) = H1 at A1 k1
    -- the event
    refine ⟨_, rfl, R.r, _, _, _, _, rfl, A1.r.choose_spec, T.cl_Run, T.na_Run_happened, rfl, .inl ⟨rfl, _, SqL.of A1.e⟩, _, rfl, sz2, fun p hp => ?_⟩
    obtain ⟨es2, A2, ees2⟩ := A1.noted (nm := "call") (c := c) (rest := []) hp true (by decide)
    obtain ⟨n1, n2, n3, n4⟩ := A1.none_r hp
    have hesl := hR.ev.1
    refine ⟨R.e, _, _, rfl, rfl, (by rw [upd_ne (Ne.symm n4)]; exact A1.e), small1000 (by omega), ?_⟩
    rw [← ees2]
    have k2 : Keeps R H1 _ := (Keeps.of (same_upd hp (o := .tup (.str "call" :: vn c :: [])))).trans (Keeps.e (R := R) (o := .lst es2))
    generalize upd (upd H1 p (.tup (.str "call" :: vn c :: []))) R.e (.lst es2) = H2 at A2 k2
    -- open
    refine ⟨_, rfl, R.r, _, _, _, _, rfl, A2.r.choose_spec, T.cl_Run, T.na_Run_busy, rfl, .inl ⟨rfl, _, SqL.of A2.u⟩, _, rfl, R.u, _, _, rfl, rfl, A2.u, small1000 (by rw [List.length_map]; omega), ?_⟩
    have A3 := A2.opens (B ++ [c])
    have k3 : Keeps R H2 _ := Keeps.u (R := R) (o := .lst ((B ++ [c]).map vn))
    rw [show B.map vn ++ [vn c] = (B ++ [c]).map vn from by simp]
    generalize upd H2 R.u (.lst ((B ++ [c]).map vn)) = H3 at A3 k3
    have k13 := (k1.trans k2).trans k3
    have hs3 := hR.sys k13 hs
    obtain ⟨dx3, tt3, vs3, hs3', -⟩ := id hs3
    -- results
    refine ⟨_, rfl, R.r, _, _, _, _, rfl, A3.r.choose_spec, T.cl_Run, T.na_Run_net, rfl, R.s, _, _, rfl, hs3', rfl, _, rfl, R.s, rows, c, r, rfl, hs3, hr0, fun o ho => ?_⟩
    refine ⟨o, rfl, ⟨_, SqT.of ho⟩, fun D hD => ?_⟩
    have nDr : o ≠ D := ne_of_none ho hD
    obtain ⟨d1, d2, d3, d4⟩ := A3.none_r hD
    refine walk_any (walk_tup (K := K) (a := o) (xs := r.ops.map vn)) (fun i H' => ∃ es' rs W, Keeps R H3 H' ∧
        RunAt K H' R rows.length (Bg.runL (fun T o => Bg.run (sysOf rows) f T (B ++ [c]) o) Tb (r.ops.take i)).2.1 (B ++ [c]) es' (xs ++ [(true, c)] ++ (Bg.runL (fun T o => Bg.run (sysOf rows) f T (B ++ [c]) o) Tb (r.ops.take i)).2.2) ∧
        H' D = some (.lst rs) ∧ ResAt H' rs (Bg.runL (fun T o => Bg.run (sysOf rows) f T (B ++ [c]) o) Tb (r.ops.take i)).1 W ∧
        Bg.TLv (Bg.runL (fun T o => Bg.run (sysOf rows) f T (B ++ [c]) o) Tb (r.ops.take i)).2.1 ∧ ∀ v ∈ (Bg.runL (fun T o => Bg.run (sysOf rows) f T (B ++ [c]) o) Tb (r.ops.take i)).1, Bg.Lv v)
      ⟨es2, [], [], Keeps.of (same_upd hD), by simpa [Bg.runL] using A3.same (same_upd hD), upd_same, .nil, hlv, by simp [Bg.runL]⟩ (fun i H' _ h => by
        obtain ⟨es', rs, W, h1, -⟩ := h
        exact SqT.of (A3.tup h1 ho)) ?_ ?_
    · rintro i x H4 H4' hi ⟨es', rs, W, k4, A4, hD4, hres, hlv4, hlvs⟩ ⟨rfl, hx⟩
      obtain ⟨z, hz, rfl⟩ := map_at hx
      have hzn : z < rows.length := hrok.lt z (List.mem_of_getElem? hz)
      have hil : i < 8 := Nat.lt_of_lt_of_le (List.getElem?_eq_some_iff.mp hz).1 hrok.few
      have hup := runL_upto (g := fun T o => Bg.run (sysOf rows) f T (B ++ [c]) o) (T := Tb) hz
      have hlvz := Bg.run_lv hok.sys hok.lvl f _ (B ++ [c]) z hfit' hzn hlv4
      have hrl : rs.length ≤ 8 := by rw [hres.1, runL_len, List.length_take]; omega
      refine ⟨rfl, tyes ⟨_, rfl, R.r, _, _, rfl, A4.r.choose_spec, rfl, _, rfl, R, rows, z, _, B ++ [c], es', _, rfl, A3.sys k4 hs3, hok, A4, hfit', hzn, hlv4, ?_, fun H5 a t es5 ts k5 A5 ha ht hts => ?_⟩⟩
      · simp only [List.length_append, List.length_cons, List.length_nil]
        omega
      · have hD5 : H5 D = some (.lst rs) := k5 _ _ d1 d2 d3 d4 hD4
        have kD : Keeps R H3 (upd H5 D (.lst (rs ++ [.ref a]))) := fun y w y1 y2 y3 y4 hy => by
          rw [upd_ne (ne_of_none hy hD)]
          exact k5 _ _ y1 y2 y3 y4 (k4 _ _ y1 y2 y3 y4 hy)
        refine ⟨rs, hD5, small1000 (by omega), es5, _, W ++ [ts], kD, ?_, upd_same, ?_, ?_, ?_⟩
        · rw [take_snoc hz, runL_snoc, ← List.append_assoc]
          obtain ⟨kk, hrr⟩ := A5.r
          exact ⟨⟨kk, by rw [upd_ne (Ne.symm d1)]; exact hrr⟩, by rw [upd_ne (Ne.symm d2)]; exact A5.b, by rw [upd_ne (Ne.symm d3)]; exact A5.u, by rw [upd_ne (Ne.symm d4)]; exact A5.e, A5.ev.keep fun y ys hy => by rw [upd_ne (ne_of hy hD5 (by simp))]; exact hy, A5.bu, A5.be, A5.ue⟩
        · rw [take_snoc hz, runL_snoc]
          refine ResAt.keep ((hres.keep fun y ys hy => A4.tup k5 hy).snoc ha ht hts) fun y ys hy => by rw [upd_ne (ne_of hy hD5 (by simp))]; exact hy
        · rw [take_snoc hz, runL_snoc]
          exact hlvz.2
        · rw [take_snoc hz, runL_snoc]
          intro v hv
          rcases List.mem_append.mp hv with hv | hv
          · exact hlvs v hv
          · simp at hv; subst hv; exact hlvz.1
    · rintro H4 ⟨es4, rs, W, k4, A4, hD4, hres, hlv4, hlvs⟩
      rw [List.length_map, List.take_length] at A4 hres hlv4 hlvs
      have hvl : (Bg.runL (fun T o => Bg.run (sysOf rows) f T (B ++ [c]) o) Tb r.ops).1.length ≤ 8 := by rw [runL_len]; exact hrok.few
      have hev := A4.ev.1
      generalize hz : Bg.runL (fun T o => Bg.run (sysOf rows) f T (B ++ [c]) o) Tb r.ops = z at A4 hres hlv4 hlvs q hl2 hvl hev
      obtain ⟨vs, T', ev⟩ := z
      simp only at A4 hres hlv4 hlvs hl2 hvl hev
      -- closed
      refine ⟨_, rfl, R.r, _, _, _, _, rfl, A4.r.choose_spec, T.cl_Run, T.na_Run_busy, rfl, .inl ⟨rfl, _, SqL.of A4.u⟩, R.u, _, vn c, rfl, rfl, A4.u, by simp, ?_⟩
      have A5 := A4.opens B
      have k5 : Keeps R H4 _ := Keeps.u (R := R) (o := .lst (B.map vn))
      have hD5 : upd H4 R.u (.lst (B.map vn)) D = some (.lst rs) := by rw [upd_ne d3]; exact hD4
      have hres5 : ResAt (upd H4 R.u (.lst (B.map vn))) rs vs W := hres.keep fun y ys hy => A4.tup k5 hy
      rw [show ((B ++ [c]).map vn).dropLast = B.map vn from by simp]
      generalize upd H4 R.u (.lst (B.map vn)) = H5 at A5 k5 hD5 hres5
      -- values
      refine ⟨_, rfl, D, rfl, ⟨_, SqL.of hD5⟩, fun V0 hV => ?_⟩
      obtain ⟨v1, v2, v3, v4⟩ := A5.none_r hV
      refine walk_any (walk_list (K := K) (a := D) (xs := rs)) (fun i H' => Same H5 H' ∧ H' V0 = some (.lst ((vs.take i).map V.int))) ⟨same_upd hV, upd_same⟩ (fun i H' _ h => SqL.of (h.1 _ _ hD5)) ?_ ?_
      · rintro i x H6 H6' hi ⟨s6, h6⟩ ⟨rfl, hx⟩
        obtain ⟨v, ts, a, t, hv, -, rfl, ha, ht⟩ := hres5.get hx
        refine ⟨a, _, rfl, SqT.of (s6 _ _ ha), rfl, _, _, rfl, _, _, rfl, rfl, rfl, tyes ⟨_, rfl, _, h6, small1000 (by simp; omega), sameN s6 hV, ?_⟩⟩
        rw [upd_same, take_snoc hv]
        simp
      · rintro H6 ⟨s6, h6⟩
        rw [hres5.1, List.take_length] at h6
        have A6 := A5.same s6
        have hs6 := A6.sys Keeps.refl (A5.sys (Keeps.of s6) (A4.sys k5 (A3.sys k4 hs3)))
        obtain ⟨dx6, tt6, vs6, hs6', -⟩ := id hs6
        refine ⟨_, rfl, R.r, _, _, _, _, rfl, A6.r.choose_spec, T.cl_Run, T.na_Run_net, rfl, R.s, _, _, rfl, hs6', rfl, _, rfl, R.s, rows, c, r, rfl, hs6, hr0, fun fv hfv => ?_⟩
        refine ⟨_, rfl, V0, _, rfl, .inr (SqL.of h6), [fv], vs.map V.int, by simp, rfl, ?_, fun p hp => ⟨fv, r.fn, p, vs, rfl, hfv.same (same_upd hp), hrok.fn, upd_same, hvl, hlvs, fun H7 s7 => ?_⟩⟩
        · exact Nat.le_of_lt (small1000 (by rw [List.length_map]; omega))
        have s67 : Same H6 H7 := (same_upd hp).trans s7
        have A7 := A6.same s67
        have hD7 := s67 _ _ (s6 _ _ hD5)
        have hres7 : ResAt H7 rs vs W := hres5.keep fun y ys hy => s67 _ _ (s6 _ _ hy)
        have hsv : valF r.fn vs = (sysOf rows).val c vs := (sys_val hr0 vs).symm
        rw [hsv]
        -- taint
        refine ⟨_, rfl, D, rfl, ⟨_, SqL.of hD7⟩, fun U hU => ?_⟩
        refine walk_any (walk_list (K := K) (a := D) (xs := rs)) (fun i H' => Same H7 H' ∧ ∃ us, H' U = some (.lst us) ∧ us.length ≤ i ∧ CsAt H' us (W.take i)) ⟨same_upd hU, [], upd_same, Nat.le_refl _, .nil⟩ (fun i H' _ h => SqL.of (h.1 _ _ hD7)) ?_ ?_
        · rintro i x H8 H8' hi ⟨s8, us, h8, hl8, hc8⟩ ⟨rfl, hx⟩
          obtain ⟨v, ts, a, t, -, hw, rfl, ha, ht⟩ := hres7.get hx
          have hrl := hres7.1
          refine ⟨a, _, rfl, SqT.of (s8 _ _ ha), rfl, _, _, rfl, _, _, rfl, rfl, rfl, tyes ⟨_, rfl, us, h8, small1000 (by omega), sameN s8 hU, _, upd_same, by simp; omega, ?_⟩⟩
          rw [take_snoc hw]
          exact (hc8.upd h8).snoc (by rw [upd_ne (ne_of (s8 _ _ ht) h8 (by simp))]; exact s8 _ _ ht)
        · rintro H8 ⟨s8, us, h8, hl8, hc8⟩
          rw [hres7.1, ← hres7.2.1, List.take_length] at hc8
          refine ⟨_, rfl, U, c, us, W, rfl, h8, hc8, hres7.2.2.2, fun H9 l ts s9 hl hts => ?_⟩
          have A9 := (A7.same s8).same s9
          have k9 : Keeps R H5 H9 := (((Keeps.of s6).trans (Keeps.of s67)).trans (Keeps.of s8)).trans (Keeps.of s9)
          refine ⟨_, rfl, R.r, _, _, _, _, rfl, A9.r.choose_spec, T.cl_Run, T.na_Run_rule, rfl, _, rfl, ⟨_, rfl⟩, ?_⟩
          -- stored
          refine ⟨_, rfl, true, rfl, iteT ⟨_, rfl, _, rfl, R.r, _, _, _, _, rfl, A9.r.choose_spec, T.cl_Run, T.na_Run_board, rfl, _, rfl, R.b, _, _, c, rfl, rfl, A9.b, ?_, ?_⟩⟩
          · rw [board_len]
            unfold ixN
            rw [if_pos (by omega), if_pos (by omega)]
            rfl
          rw [board_put hc]
          have A10 := A9.onBoard (Bg.put T' c ((sysOf rows).val c vs))
          have k10 : Keeps R H9 _ := Keeps.b (R := R) (o := .lst (boardV rows.length (Bg.put T' c ((sysOf rows).val c vs))))
          have hl10 : upd H9 R.b (.lst (boardV rows.length (Bg.put T' c ((sysOf rows).val c vs)))) l = some (.tup (ts.map vn)) := A9.tup k10 hl
          generalize upd H9 R.b (.lst (boardV rows.length (Bg.put T' c ((sysOf rows).val c vs)))) = H10 at A10 k10 hl10
          -- the end
          refine ⟨_, rfl, R.r, _, _, _, _, rfl, A10.r.choose_spec, T.cl_Run, T.na_Run_happened, rfl, .inl ⟨rfl, _, SqL.of A10.e⟩, _, rfl, _, rfl, _, rfl, _, rfl, sz5, fun p hp => ?_⟩
          obtain ⟨es11, A11, ees⟩ := A10.noted (nm := "end") (c := c) (rest := [.int ((sysOf rows).val c vs), .ref l, .bl true]) hp false (by decide)
          obtain ⟨m1, m2, m3, m4⟩ := A10.none_r hp
          refine ⟨R.e, _, _, rfl, rfl, (by rw [upd_ne (Ne.symm m4)]; exact A10.e), small1000 (by simp at hev; omega), ?_⟩
          rw [← ees]
          have k11 : Keeps R H10 _ := (Keeps.of (same_upd hp (o := .tup (.str "end" :: vn c :: [.int ((sysOf rows).val c vs), .ref l, .bl true])))).trans (Keeps.e (R := R) (o := .lst es11))
          have hl11 := A10.tup k11 hl10
          generalize upd (upd H10 p (.tup (.str "end" :: vn c :: [.int ((sysOf rows).val c vs), .ref l, .bl true]))) R.e (.lst es11) = H11 at A11 k11 hl11
          refine ⟨_, rfl, _, rfl, sz2, fun a ha => ?_⟩
          refine q _ a l es11 ts ((((((k13.trans k4).trans k5).trans k9).trans k10).trans k11).trans (Keeps.of (same_upd ha))) ?_ upd_same (by rw [upd_ne (ne_of_none hl11 ha)]; exact hl11) hts
          have := A11.same (same_upd ha (o := .tup [.int ((sysOf rows).val c vs), .ref l]))
          simpa [Bg.evd] using this
theorem ok_Run_both (T : Tx K mg) : ∀ f : Nat, FM P w K mg base (2 * f + 8) "Run" "evaluate" ["self", "cell"] (sp_Run_evaluate K f)
  | 0 => by
    refine T.F_Run_evaluate.ok sc_Run_evaluate (fun vs H Q E h => ?_) (fun cdv A outer s H vs Q E hr h => ?_)
    · obtain ⟨R, rows, c, T, B, es, xs, rfl, _⟩ := h; rfl
    · obtain ⟨R, rows, c, Tb, B, es, xs, rfl, hs, hok, hR, hfit, -⟩ := h
      exact hfit.zero.elim
  | f + 1 => ok_Run_evaluate T f (ok_Run_call T f (ok_Run_both T f))
theorem ok_call25 (T : Tx K mg) : FM P w K mg base 59 "Run" "call" ["self", "cell"] (sp_Run_call K 25) := ok_Run_call T 25 (ok_Run_both T 25)
end
end BgT
set_option Elab.async false
set_option linter.all false
set_option maxRecDepth 100000
set_option maxHeartbeats 4000000
namespace BgT
open PySem PySem.Spec PyProof.Rows L2
section
variable {P : Program} {w : World} {K : PySem.W.Frag} {mg : Str → Option Value} {base : Heap}
theorem Vals.app {a b : List V} {x y : List Value} (h : Vals a x) (k : Vals b y) : Vals (a ++ b) (x ++ y) := h.append k
theorem kb_busy (T : Tx K mg) : ∃ mv : List Value, KBn K (fdOf K (He.ma K (He.ga K "Run") "__init__")) ["self", "system", "table", "policy", "busy", "most"] 4 ["busy"] (fun us ws => us ++ (ws ++ mv)) (fun vs zs => vs ++ (zs ++ [("most", V.non)].map (·.2))) :=
  T.F_Run_init.kbinds0 4 ["busy"] [("most", .non)] (fun us mv ws => us ++ (ws ++ mv)) (by simp) (by simp) (fun a b c => a.append (c.append b)) (fun D doc pm an cdv ct us mv ws l1 l2 l3 => by
    match us, l1, mv, l2, ws, l3 with
    | [u0, u1, u2, u3], _, [m], _, [w0], _ => exact ⟨_, _, _, _, _, _, rfl, rfl, rfl⟩)
theorem kb_most (T : Tx K mg) : ∃ mv : List Value, KBn K (fdOf K (He.ma K (He.ga K "Run") "__init__")) ["self", "system", "table", "policy", "busy", "most"] 4 ["most"] (fun us ws => us ++ (mv ++ ws)) (fun vs zs => vs ++ ([("busy", V.ref (bKwR K))].map (·.2) ++ zs)) :=
  T.F_Run_init.kbinds0 4 ["most"] [("busy", .ref (bKwR K))] (fun us mv ws => us ++ (mv ++ ws)) (by simp) (by simp) (fun a b c => a.append (b.append c)) (fun D doc pm an cdv ct us mv ws l1 l2 l3 => by
    match us, l1, mv, l2, ws, l3 with
    | [u0, u1, u2, u3], _, [m], _, [w0], _ => exact ⟨_, _, _, _, _, _, rfl, rfl, rfl⟩)
theorem kb_policy (T : Tx K mg) : ∃ mv : List Value, KBn K (fdOf K (He.ga K "called")) ["system", "table", "cell", "busy", "policy"] 3 ["policy"] (fun us ws => us ++ (mv ++ ws)) (fun vs zs => vs ++ ([("busy", V.ref (bKwC K))].map (·.2) ++ zs)) :=
  T.F_called.kbinds0 3 ["policy"] [("busy", .ref (bKwC K))] (fun us mv ws => us ++ (mv ++ ws)) (by simp) (by simp) (fun a b c => a.append (b.append c)) (fun D doc pm an cdv ct us mv ws l1 l2 l3 => by
    match us, l1, mv, l2, ws, l3 with
    | [u0, u1, u2], _, [m], _, [w0], _ => exact ⟨_, _, _, _, _, _, rfl, rfl, rfl⟩)
theorem lt1 {f : Str} {v : V} {fs : List (Str × V)} (h : fs.length ≤ 10 := by simp) : (putF f v fs).length < 1000 := by have := length_putF f v fs; omega
theorem lt2 {f g : Str} {v w : V} {fs : List (Str × V)} (h : fs.length ≤ 10 := by simp) : (putF g w (putF f v fs)).length < 1000 := by have := length_putF f v fs; have := length_putF g w (putF f v fs); omega
/-! ### Run.__init__ -/
def KeepX (x : Addr) (H H' : Hp) : Prop := ∀ a o, a ≠ x → H a = some o → H' a = some o
theorem KeepX.refl {x : Addr} {H : Hp} : KeepX x H H := fun _ _ _ h => h
theorem KeepX.upd {x : Addr} {H H' : Hp} {o : HO} (k : KeepX x H H') : KeepX x H (upd H' x o) := fun a p h1 h => by rw [upd_ne h1]; exact k a p h1 h
theorem KeepX.new {x b : Addr} {H H' : Hp} {o : HO} (k : KeepX x H H') (hb : H b = none) : KeepX x H (L2.upd H' b o) := fun a p h1 h => by rw [upd_ne (ne_of_none h hb)]; exact k a p h1 h
theorem KeepX.free {x b : Addr} {H H' : Hp} {o : HO} (k : KeepX x H H') (hx : H' x = some o) (hb : H' b = none) : H b = none := by
  cases e : H b with
  | none => rfl
  | some p =>
    have nb : b ≠ x := fun z => by rw [z, hx] at hb; cases hb
    rw [k b p nb e] at hb
    cases hb
theorem sc_Run_init : FnScope ["self", "system", "table", "policy", "busy", "most"] ["self", "system", "table", "policy", "busy", "most"] (defScope s_Run_init) := ⟨rfl, rfl, rfl, by decide +kernel, rfl, by decide +kernel, by decide +kernel⟩

def sp_Run_init (K : PySem.W.Frag) : Sp := fun vs H Q _ => ∃ (x dx s t bz : Addr) (xs : List V), vs = [.ref x, .ref s, .ref t, .str "all", .ref bz, .non] ∧ H x = some (.ins (He.ga K "Run") dx []) ∧ H t = some (.tup xs) ∧ (∀ H : Hp, SqT K H bz []) ∧
  ∀ H' b u e, KeepX x H H' → H b = none → H u = none → H e = none → b ≠ u → b ≠ e → u ≠ e → H' x = some (.ins (He.ga K "Run") dx (runF ⟨x, dx, s, b, u, e⟩ 0)) → H' b = some (.lst xs) → H' u = some (.lst []) → H' e = some (.lst []) → Q .non H'
theorem ok_Run_init (T : Tx K mg) : FM P w K mg base 1 "Run" "__init__" ["self", "system", "table", "policy", "busy", "most"] (sp_Run_init K) := by
  refine T.F_Run_init.ok sc_Run_init (fun vs H Q E h => ?_) (fun cdv A outer s H vs Q E hr h => ?_)
  · obtain ⟨x, dx, s, t, bz, xs, rfl, _⟩ := h; rfl
  · obtain ⟨x, dx, s, t, bz, xs, rfl, hx, ht, hbz, q⟩ := h
    refine ⟨_, PSs.nox (pss_cons (ps_fld (pv 0) (pv 1) rfl)
 (pss_cons (ps_fld (pv 0) (pe_callTy call_list_of (by rfl) T.b_list (by decide +kernel) (pa_cons (pv 2) pa_nil)) rfl)
 (pss_cons (ps_fld (pv 0) (pv 3) rfl)
 (pss_cons (ps_fld (pv 0) (pe_callTy call_list_of (by rfl) T.b_list (by decide +kernel) (pa_cons (pv 4) pa_nil)) rfl)
 (pss_cons (ps_fld (pv 0) (pv 5) rfl)
 (pss_cons (ps_fld (pv 0) pe_int rfl)
 (pss_one (ps_fld (pv 0) (pe_lst pa_nil) rfl)))))))), ?_⟩
    have ntx : t ≠ x := ne_of ht hx (by simp)
    -- net
    refine ⟨_, rfl, _, rfl, x, _, _, _, rfl, hx, T.cl_Run, T.na_Run_net, (by simp), ?_⟩
    -- board
    refine ⟨_, rfl, t, xs, rfl, .inr (SqT.of (by rw [upd_ne ntx]; exact ht)), fun b hb => ?_⟩
    have k1 : KeepX x H _ := KeepX.refl.upd (o := .ins (He.ga K "Run") dx (putF "net" (.ref s) []))
    have hx1 : upd H x (.ins (He.ga K "Run") dx (putF "net" (.ref s) [])) x = some (.ins (He.ga K "Run") dx [("net", .ref s)]) := upd_same
    generalize upd H x (.ins (He.ga K "Run") dx (putF "net" (.ref s) [])) = H1 at hb k1 hx1
    have hb0 := k1.free hx1 hb
    have nbx : b ≠ x := Ne.symm (ne_of_none hx1 hb)
    have hx2 : upd H1 b (.lst xs) x = some (.ins (He.ga K "Run") dx [("net", .ref s)]) := by rw [upd_ne (Ne.symm nbx)]; exact hx1
    refine ⟨_, rfl, x, _, _, _, rfl, hx2, T.cl_Run, T.na_Run_board, (by simp), ?_⟩
    -- rule
    refine ⟨_, rfl, _, rfl, x, _, _, _, rfl, upd_same, T.cl_Run, T.na_Run_rule, lt1, ?_⟩
    rw [upd_upd]
    have k3 : KeepX x H (upd (upd H1 b (.lst xs)) x (.ins (He.ga K "Run") dx [("net", .ref s), ("board", .ref b), ("rule", .str "all")])) := (k1.new hb0).upd
    have hb3 : upd (upd H1 b (.lst xs)) x (.ins (He.ga K "Run") dx [("net", .ref s), ("board", .ref b), ("rule", .str "all")]) b = some (.lst xs) := by rw [upd_ne nbx]; exact upd_same
    have hx3 : upd (upd H1 b (.lst xs)) x (.ins (He.ga K "Run") dx [("net", .ref s), ("board", .ref b), ("rule", .str "all")]) x = some (.ins (He.ga K "Run") dx [("net", .ref s), ("board", .ref b), ("rule", .str "all")]) := upd_same
    show tSeq _ _ _ _ (upd (upd H1 b (.lst xs)) x (.ins (He.ga K "Run") dx [("net", .ref s), ("board", .ref b), ("rule", .str "all")]))
    generalize upd (upd H1 b (.lst xs)) x (.ins (He.ga K "Run") dx [("net", .ref s), ("board", .ref b), ("rule", .str "all")]) = H3 at k3 hb3 hx3
    -- busy
    refine ⟨_, rfl, bz, [], rfl, .inr (hbz _), fun u hu => ?_⟩
    have hu0 := k3.free hx3 hu
    have nux : u ≠ x := Ne.symm (ne_of_none hx3 hu)
    have nbu : b ≠ u := ne_of_none hb3 hu
    have hx4 : upd H3 u (.lst []) x = some (.ins (He.ga K "Run") dx [("net", .ref s), ("board", .ref b), ("rule", .str "all")]) := by rw [upd_ne (Ne.symm nux)]; exact hx3
    refine ⟨_, rfl, x, _, _, _, rfl, hx4, T.cl_Run, T.na_Run_busy, (by simp), ?_⟩
    -- allowed, begun
    refine ⟨_, rfl, _, rfl, x, _, _, _, rfl, upd_same, T.cl_Run, T.na_Run_allowed, lt1, ?_⟩
    rw [upd_upd]
    refine ⟨_, rfl, x, _, _, _, rfl, upd_same, T.cl_Run, T.na_Run_begun, lt2, ?_⟩
    rw [upd_upd]
    have k5 : KeepX x H (upd (upd H3 u (.lst [])) x (.ins (He.ga K "Run") dx [("net", .ref s), ("board", .ref b), ("rule", .str "all"), ("busy", .ref u), ("allowed", .non), ("begun", .int 0)])) := (k3.new hu0).upd
    have hb5 : upd (upd H3 u (.lst [])) x (.ins (He.ga K "Run") dx [("net", .ref s), ("board", .ref b), ("rule", .str "all"), ("busy", .ref u), ("allowed", .non), ("begun", .int 0)]) b = some (.lst xs) := by rw [upd_ne nbx, upd_ne nbu]; exact hb3
    have hu5 : upd (upd H3 u (.lst [])) x (.ins (He.ga K "Run") dx [("net", .ref s), ("board", .ref b), ("rule", .str "all"), ("busy", .ref u), ("allowed", .non), ("begun", .int 0)]) u = some (.lst []) := by rw [upd_ne nux]; exact upd_same
    have hx5 : upd (upd H3 u (.lst [])) x (.ins (He.ga K "Run") dx [("net", .ref s), ("board", .ref b), ("rule", .str "all"), ("busy", .ref u), ("allowed", .non), ("begun", .int 0)]) x = some (.ins (He.ga K "Run") dx [("net", .ref s), ("board", .ref b), ("rule", .str "all"), ("busy", .ref u), ("allowed", .non), ("begun", .int 0)]) := upd_same
    rw [show putF "begun" (.int 0) (putF "allowed" .non (putF "busy" (.ref u) [("net", .ref s), ("board", .ref b), ("rule", .str "all")])) = ([("net", .ref s), ("board", .ref b), ("rule", .str "all"), ("busy", .ref u), ("allowed", .non), ("begun", .int 0)] : List (Str × V)) from rfl]
    generalize upd (upd H3 u (.lst [])) x (.ins (He.ga K "Run") dx [("net", .ref s), ("board", .ref b), ("rule", .str "all"), ("busy", .ref u), ("allowed", .non), ("begun", .int 0)]) = H5 at k5 hb5 hu5 hx5
    -- happened
    refine ⟨Nat.zero_le _, fun e he => ?_⟩
    have he0 := k5.free hx5 he
    have nex : e ≠ x := Ne.symm (ne_of_none hx5 he)
    have nbe : b ≠ e := ne_of_none hb5 he
    have nue : u ≠ e := ne_of_none hu5 he
    have hx6 : upd H5 e (.lst []) x = some (.ins (He.ga K "Run") dx [("net", .ref s), ("board", .ref b), ("rule", .str "all"), ("busy", .ref u), ("allowed", .non), ("begun", .int 0)]) := by rw [upd_ne (Ne.symm nex)]; exact hx5
    refine ⟨_, rfl, x, _, _, _, rfl, hx6, T.cl_Run, T.na_Run_happened, (by simp), ?_⟩
    refine q _ b u e (k5.new he0).upd hb0 hu0 he0 nbu nbe nue upd_same ?_ ?_ ?_
    · rw [upd_ne nbx, upd_ne nbe]; exact hb5
    · rw [upd_ne nux, upd_ne nue]; exact hu5
    · rw [upd_ne nex]; exact upd_same
/-- such a run, new -/
theorem RunAt.begin {H' : Hp} {x dx s b u e : Addr} {n : Nat} {Tb : Bg.Tab} (hx : H' x = some (.ins (He.ga K "Run") dx (runF ⟨x, dx, s, b, u, e⟩ 0))) (hb : H' b = some (.lst (boardV n Tb))) (hu : H' u = some (.lst [])) (he : H' e = some (.lst []))
    (bu : b ≠ u) (be : b ≠ e) (ue : u ≠ e) : RunAt K H' ⟨x, dx, s, b, u, e⟩ n Tb [] [] [] := ⟨⟨0, hx⟩, hb, hu, he, ⟨rfl, fun i x h => by simp at h⟩, bu, be, ue⟩
/-! ### called -/
theorem sc_called : FnScope ["system", "table", "cell", "busy", "policy", "run", "value", "taint"] ["system", "table", "cell", "busy", "policy"] (defScope s_called) := ⟨rfl, rfl, rfl, by decide +kernel, rfl, by decide +kernel, by decide +kernel⟩

def sp_called (K : PySem.W.Frag) : Sp := fun vs H Q _ => ∃ (s t bz : Addr) (rows : List Row) (Tb : Bg.Tab) (c : Nat), vs = [.ref s, .ref t, vn c, .ref bz, .str "all"] ∧ SysAt K H s rows ∧ RowsOk rows ∧ H t = some (.tup (boardV rows.length Tb)) ∧ Bg.TLv Tb ∧ (∀ H : Hp, SqT K H bz []) ∧ c < rows.length ∧
  ∀ H' a y p, Same H H' → H' a = some (.tup [.int (Bg.ask (sysOf rows) Tb c).1, y, .ref p]) → H' p = some (.tup (boardV rows.length (Bg.ask (sysOf rows) Tb c).2.1)) → Q (.ref a) H'
theorem ok_called (T : Tx K mg) : FO P w K mg base 61 (He.ga K "called") ["system", "table", "cell", "busy", "policy"] (sp_called K) := by
  obtain ⟨mv, hkb⟩ := kb_busy T
  refine T.F_called.ok sc_called (fun vs H Q E h => ?_) (fun cdv A outer s H vs Q E hr h => ?_)
  · obtain ⟨s, t, bz, rows, Tb, c, rfl, _⟩ := h; rfl
  · obtain ⟨s, t, bz, rows, Tb, c, rfl, hs, hok, ht, hlv, hbz, hc, q⟩ := h
    refine ⟨_, PSs.nox (pss_cons (ps_expr (pe_call (ok_need_policy T) (hr.mono (by decide)) rfl T.g_need_policy T.F_need_policy.kp (bd_need_policy T) .nil pass0 (pa_cons (pv 4) pa_nil)))
 (pss_cons (ps_if (PW.pt (pw_and (pt_cmpR op_eq (pv 4) (pe_constS T.i_CLEAN) (nomark _)) (pw_and1 (pt_cmpR op_ne (pv 3) (pe_tup pa_nil) (nomark _)))))
 (pss_one ps_never)
 pss_nil)
 (pss_cons (ps_expr (pe_call (ok_need_fitting T) (hr.mono (by decide)) rfl T.g_need_fitting T.F_need_fitting.kp (bd_need_fitting T) .nil pass0 (pa_cons (pv 4) (pa_cons (pv 0) pa_nil))))
 (pss_cons (ps_set (i := 5) sc_called.nd rfl (Or.inl rfl) (pe_makeK T.mk_Run (ok_Run_init T) (hr.mono (by decide)) rfl T.g_Run hkb pass0 (pa_cons (pv 0) (pa_cons (pv 1) (pa_cons (pv 4) pa_nil))) (pk_cons (pv 3) pk_nil)))
 (pss_cons (ps_asg (pe_meth (pv 5) T.cl_Run T.m_Run_call (ok_call25 T) (hr.mono (by decide)) (bd_Run_call T) .nil pass0 (pa_cons (pv 2) pa_nil)) (pg_tup rfl (pgs_cons (pg_name (i := 6) sc_called.nd rfl (Or.inl rfl)) (pgs_cons (pg_name (i := 7) sc_called.nd rfl (Or.inl rfl)) pgs_nil))))
 (pss_one (ps_ret (pe_tup (pa_cons (pv 6) (pa_cons (pv 7) (pa_cons (pe_callTy call_tuple_of (by rfl) T.b_tuple (by decide +kernel) (pa_cons (pe_fld (pv 5) rfl) pa_nil)) pa_nil))))))))))), ?_⟩
    refine ⟨_, rfl, rfl, ?_⟩
    refine ⟨_, rfl, rfl, _, rfl, ?_⟩
    rw [decide_eq_false (by decide)]
    refine iteF ⟨_, rfl, _, rfl, ⟨_, rfl⟩, ?_⟩
    refine ⟨_, rfl, _, rfl, _, rfl, _, rfl, rfl, rfl, fun x dx hx hdx hne => ?_⟩
    have ntx : t ≠ x := ne_of_none ht hx
    have ntd : t ≠ dx := ne_of_none ht hdx
    refine ⟨x, dx, s, t, bz, boardV rows.length Tb, rfl, upd_same, by rw [upd_ne ntx, upd_ne ntd]; exact ht, hbz, fun H2 b u e k2 hb0 hu0 he0 nbu nbe nue hx2 hb2 hu2 he2 => ⟨rfl, ?_⟩⟩
    have A := RunAt.begin (K := K) hx2 hb2 hu2 he2 nbu nbe nue
    have s02 : Same H H2 := fun a o h => by
      have nax : a ≠ x := ne_of_none h hx
      have nad : a ≠ dx := ne_of_none h hdx
      exact k2 a o nax (by rw [upd_ne nax, upd_ne nad]; exact h)
    have free : ∀ {y : Addr}, upd (upd H dx (.own x)) x (.ins (He.ga K "Run") dx []) y = none → H y = none := fun {y} h => by
      cases z : H y with
      | none => rfl
      | some o => rw [upd_ne (ne_of_none z hx), upd_ne (ne_of_none z hdx), z] at h; cases h
    refine ⟨_, rfl, x, _, _, rfl, hx2, rfl, _, rfl, ⟨x, dx, s, b, u, e⟩, rows, c, Tb, [], [], [], rfl, hs.same s02, hok, A, Bg.fit25 hok.sys, hc, hlv, ?_, fun H3 a y es ts k3 A3 ha hy hts => ?_⟩
    · have := Bg.ask_ev hok.sys (T := Tb) (c := c) hc
      simp only [List.length_nil]
      show 0 + (Bg.ask (sysOf rows) Tb c).2.2.length ≤ 900
      omega
    · refine ⟨a, _, rfl, SqT.of ha, rfl, _, _, rfl, _, _, rfl, rfl, ?_⟩
      refine ⟨_, rfl, _, rfl, _, rfl, x, _, _, _, _, rfl, A3.r.choose_spec, T.cl_Run, T.na_Run_board, rfl, b, _, rfl, .inl ⟨SqL.of A3.b, fun p hp => ⟨sz3, fun v hv => ?_⟩⟩⟩
      have s3 : Same H H3 := fun z o h => k3 z o (ne_of_none h hx) (ne_of_none h (free hb0)) (ne_of_none h (free hu0)) (ne_of_none h (free he0)) (s02 z o h)
      refine q _ v (.ref y) p ((sameN (sameN s3 (s3.free hp)) ((sameN s3 (s3.free hp)).free hv))) upd_same ?_
      rw [upd_ne (ne_of_none upd_same hv)]
      exact upd_same
end
end BgT
set_option Elab.async false
set_option linter.all false
set_option maxRecDepth 100000
set_option maxHeartbeats 4000000
namespace BgT
open PySem PySem.Spec PyProof.Rows L2
/-! ### tuple * 1 is that tuple -/
theorem tup_once (l : Addr) (items : Array Value) (n : Nat) (dd : Option Addr) (sl : Array (Option Value)) (u : Tok) :
    Meets (Builtin.«tuple.__mul__» ⟨[.ref l, .int 1 u], []⟩) (fun _ R s => s.heap.get? l = some { cls := .type "tuple", dict := dd, data := .seq items n, slots := sl } ∧ R (.ok (.ret (Value.ref l))) s) :=
  .of_wp fun prog w A R s h => by
    obtain ⟨hp, g, d, tk, os⟩ := s
    obtain ⟨hl, h⟩ := h
    have f1 := AutoSeq1.idx_int
    have c1 : (items.isEmpty || (1 : Int) == 1) = true := by rw [Bool.or_eq_true]; exact Or.inr rfl
    wp_walk using wpAny_loadPart' hl
    repeat (first
      | (refine wpAny_ite_false (decide_eq_false (by decide)) ?_; wp_walk using wpAny_loadPart' hl)
      | (refine wpAny_ite_true (decide_eq_true c1) ?_; wp_walk using wpAny_loadPart' hl))
    exact ⟨_, rfl, h⟩
def rRepA (K : PySem.W.Frag) : R2 := fun x y H Q => ∃ l k xs, x = .ref l ∧ y = .int k ∧ H l = some (.tup xs) ∧ xs ≠ [] ∧ 1 ≤ k ∧ k ≤ 1000 ∧ xs.length ≤ 1000 ∧ ∀ H' p, Same H H' → H' p = some (.tup (List.replicate k.toNat xs).flatten) → Q (.ref p) H'
theorem op_repA {X : Cx} : OpR X (binaryOp .Mult) (rRepA X.K) := by
  intro pins s σ H x y v u Q I rx ry h
  obtain ⟨l, k, xs, rfl, rfl, hl, hne, h1, h2, hz, q⟩ := h
  have hT : SqT X.K H l xs := SqT.of hl
  by_cases e : k = 1
  · subst e
    cases rx
    obtain ⟨t, rfl⟩ := ry
    obtain ⟨its, r, ⟨⟨cls, dd, data, sl⟩, ho, hc, n, hd⟩, hs⟩ := I.tuple hT
    simp only at hc hd
    subst hc hd
    exact wpAny_binaryOp_repeat_ref (T := "tuple") (U := "int") (by decide) ⟨_, ho, rfl⟩ (fun s' => typeIs_int s' 1 t) noFill_tuple_mul F.fills_int_mul F.slot_int_rmul repeat_tuple F.slot_int_index.lookup
      (call_meets F.slot_int_rmul (typeIs_int s 1 t) F.entry_int_rmul (F.args_int_rmul_2 _ _) (int_rmul_tuple 1 t l its.toArray n dd sl)
        ⟨ho, rfl, ⟨_, ho, rfl⟩, call_meets F.slot_tuple_mul ⟨_, ho, rfl⟩ F.entry_tuple_mul (F.args_tuple_mul_2 _ _) (tup_once l its.toArray n dd sl t) ⟨ho, .ref l, H, I, rfl, q H l (Same.refl H) (by rw [hl]; simp)⟩⟩)
  · exact op_repT pins s σ H _ _ v u Q I rx ry ⟨l, k, xs, rfl, rfl, hT, hne, by omega, h2, hz, fun p hp => q _ p (same_upd hp) upd_same⟩
end BgT
set_option Elab.async false
set_option linter.all false
set_option maxRecDepth 100000
set_option maxHeartbeats 4000000
namespace BgT
open PySem PySem.Spec PyProof.Rows L2
section
variable {P : Program} {w : World} {K : PySem.W.Frag} {mg : Str → Option Value} {base : Heap}
def freeL (n : Nat) (T : Bg.Tab) : List Nat := (List.range n).filter fun c => decide (optV (T c) = V.non)
theorem optV_non {o : Option Int} : optV o = V.non ↔ o = none := by cases o <;> simp [optV]
theorem mem_freeL {n c : Nat} {T : Bg.Tab} : c ∈ freeL n T ↔ c < n ∧ T c = none := by
  unfold freeL
  rw [List.mem_filter, List.mem_range, decide_eq_true_eq, optV_non]
theorem freeL_succ (n : Nat) (T : Bg.Tab) : freeL (n + 1) T = freeL n T ++ if optV (T n) = V.non then [n] else [] := by
  unfold freeL
  rw [List.range_succ, List.filter_append, List.filter_cons]
  by_cases h : optV (T n) = V.non <;> simp [h]
theorem freeL_len (n : Nat) (T : Bg.Tab) : (freeL n T).length ≤ n := by
  unfold freeL
  have := List.length_filter_le (fun c => decide (optV (T c) = V.non)) (List.range n)
  simpa using this
/-! ### free_cells -/
theorem sc_free_cells : FnScope ["table", "cell", "value"] ["table"] (defScope s_free_cells) := ⟨rfl, rfl, rfl, by decide +kernel, rfl, by decide +kernel, by decide +kernel⟩
theorem bd_free_cells {K : PySem.W.Frag} {mg : Str → Option Value} (T : Tx K mg) : Binds K (fdOf K (He.ga K "free_cells")) ["table"] [] := T.F_free_cells.bindsN (fun _ _ _ _ _ _ us hl => match us, hl with | [_], _ => rfl)
def sp_free_cells : Sp := fun vs H Q _ => ∃ (t : Addr) (n : Nat) (Tb : Bg.Tab), vs = [.ref t] ∧ H t = some (.tup (boardV n Tb)) ∧ n ≤ 24 ∧ ∀ H' p, Same H H' → H' p = some (.tup ((freeL n Tb).map vn)) → Q (.ref p) H'
theorem ok_free_cells (T : Tx K mg) : FO P w K mg base 1 (He.ga K "free_cells") ["table"] sp_free_cells := by
  refine T.F_free_cells.ok sc_free_cells (fun vs H Q E h => ?_) (fun cdv A outer s H vs Q E hr h => ?_)
  · obtain ⟨t, n, Tb, rfl, _⟩ := h; rfl
  · obtain ⟨t, n, Tb, rfl, ht, hn, q⟩ := h
    refine ⟨_, PSs.nox (pss_one (ps_ret (pe_callTy call_tuple_of (by rfl) T.b_tuple (by decide +kernel) (pa_cons (pe_lc (own := [("cell", 1), ("value", 2)]) (g := gTup K 2 (gCons (gName 1) (gCons (gName 2) gNil))) rfl sc_free_cells.nd (pi_enumT (by rfl) T.b_enumerate (pa_cons (pv 0) pa_nil)) (blkOk_by (own := [("cell", 1), ("value", 2)]) (N := ["table", "cell", "value"]) (sc := defScope s_free_cells) (by decide +kernel)) (fun _ _ _ _ _ => (pg_tup rfl (pgs_cons (pg_name (i := 1) sc_free_cells.nd rfl (by first | exact Or.inl rfl | exact Or.inr rfl)) (pgs_cons (pg_name (i := 2) sc_free_cells.nd rfl (by first | exact Or.inl rfl | exact Or.inr rfl)) pgs_nil)))) (fun _ _ _ _ _ => pts_one (pt_cmpR op_isN (pv 2) pe_non (nomark _))) (fun _ _ _ _ _ => (pv 1))) pa_nil)))), ?_⟩
    refine ⟨_, rfl, t, _, rfl, SqT.of ht, fun D hD => ?_⟩
    refine walk_any (walk_enumT (K := K) (a := t) (xs := boardV n Tb)) (fun i H' => Same H H' ∧ H' D = some (.lst ((freeL i Tb).map vn))) ⟨same_upd hD, upd_same⟩ (fun i H' _ h => SqT.of (h.1 _ _ ht)) ?_ ?_
    · rintro i x H1 H2 hi ⟨s1, h1⟩ ⟨T', x1, x2, rfl, hT, rfl, e1, e2⟩
      rw [board_len] at hi
      have e1' : x1 = vn i := by cases e1; rfl
      have e2' : x2 = optV (Tb i) := by
        have e2 : (boardV n Tb)[i]? = some x2 := e2
        rw [board_at hi] at e2; cases e2; rfl
      subst e1' e2'
      have nT : D ≠ T' := ne_of_none h1 hT
      have hlen := freeL_len i Tb
      refine ⟨_, _, rfl, SqT.of upd_same, rfl, _, _, rfl, _, _, rfl, rfl, rfl, _, rfl, rfl, _, rfl, ?_⟩
      have s2 : Same H (upd H1 T' (.tup [vn i, optV (Tb i)])) := s1.trans (same_upd hT)
      by_cases e : optV (Tb i) = V.non
      · rw [decide_eq_true e]
        refine iteT ⟨_, rfl, _, (by rw [upd_ne nT]; exact h1), small1000 (by rw [List.length_map]; omega), sameN s2 hD, ?_⟩
        rw [upd_same, freeL_succ, if_pos e]
        simp
      · rw [decide_eq_false e]
        refine iteF ⟨s2, ?_⟩
        rw [upd_ne nT, h1, freeL_succ, if_neg e, List.append_nil]
    · rintro H1 ⟨s1, h1⟩
      rw [board_len] at h1
      exact ⟨D, _, rfl, .inl ⟨SqL.of h1, fun l hl => q _ l (sameN s1 (s1.free hl)) upd_same⟩⟩
/-! ### cleared -/
def clearT (T : Bg.Tab) (D : List Nat) : Bg.Tab := fun x => if x ∈ D then none else T x
theorem sc_cleared : FnScope ["table", "cells", "cell", "value"] ["table", "cells"] (defScope s_cleared) := ⟨rfl, rfl, rfl, by decide +kernel, rfl, by decide +kernel, by decide +kernel⟩
theorem bd_cleared {K : PySem.W.Frag} {mg : Str → Option Value} (T : Tx K mg) : Binds K (fdOf K (He.ga K "cleared")) ["table", "cells"] [] := T.F_cleared.bindsN (fun _ _ _ _ _ _ us hl => match us, hl with | [_, _], _ => rfl)
def sp_cleared (K : PySem.W.Frag) : Sp := fun vs H Q _ => ∃ (t c : Addr) (n : Nat) (Tb : Bg.Tab) (D : List Nat), vs = [.ref t, .ref c] ∧ H t = some (.tup (boardV n Tb)) ∧ H c = some (.tup (D.map vn)) ∧ n ≤ 24 ∧ ∀ H' p, Same H H' → H' p = some (.tup (boardV n (clearT Tb D))) → Q (.ref p) H'
theorem ok_cleared (T : Tx K mg) : FO P w K mg base 1 (He.ga K "cleared") ["table", "cells"] (sp_cleared K) := by
  refine T.F_cleared.ok sc_cleared (fun vs H Q E h => ?_) (fun cdv A outer s H vs Q E hr h => ?_)
  · obtain ⟨t, c, n, Tb, D, rfl, _⟩ := h; rfl
  · obtain ⟨t, c, n, Tb, D0, rfl, ht, hc, hn, q⟩ := h
    refine ⟨_, PSs.nox (pss_one (ps_ret (pe_callTy call_tuple_of (by rfl) T.b_tuple (by decide +kernel) (pa_cons (pe_lc (own := [("cell", 2), ("value", 3)]) (g := gTup K 2 (gCons (gName 2) (gCons (gName 3) gNil))) rfl sc_cleared.nd (pi_enumT (by rfl) T.b_enumerate (pa_cons (pv 0) pa_nil)) (blkOk_by (own := [("cell", 2), ("value", 3)]) (N := ["table", "cells", "cell", "value"]) (sc := defScope s_cleared) (by decide +kernel)) (fun _ _ _ _ _ => (pg_tup rfl (pgs_cons (pg_name (i := 2) sc_cleared.nd rfl (by first | exact Or.inl rfl | exact Or.inr rfl)) (pgs_cons (pg_name (i := 3) sc_cleared.nd rfl (by first | exact Or.inl rfl | exact Or.inr rfl)) pgs_nil)))) (fun _ _ _ _ _ => pts_nil) (fun _ _ _ _ _ => (pe_ifExp (pt_cmpR (op_in_seqK (K := K)) (pv 2) (pv 1) (by rfl)) pe_non (pv 3)))) pa_nil)))), ?_⟩
    refine ⟨_, rfl, t, _, rfl, SqT.of ht, fun D hD => ?_⟩
    refine walk_any (walk_enumT (K := K) (a := t) (xs := boardV n Tb)) (fun i H' => Same H H' ∧ H' D = some (.lst (boardV i (clearT Tb D0)))) ⟨same_upd hD, upd_same⟩ (fun i H' _ h => SqT.of (h.1 _ _ ht)) ?_ ?_
    · rintro i x H1 H2 hi ⟨s1, h1⟩ ⟨T', x1, x2, rfl, hT, rfl, e1, e2⟩
      rw [board_len] at hi
      have e1' : x1 = vn i := by cases e1; rfl
      have e2' : x2 = optV (Tb i) := by
        have e2 : (boardV n Tb)[i]? = some x2 := e2
        rw [board_at hi] at e2; cases e2; rfl
      subst e1' e2'
      have nT : D ≠ T' := ne_of_none h1 hT
      have s2 : Same H (upd H1 T' (.tup [vn i, optV (Tb i)])) := s1.trans (same_upd hT)
      refine ⟨_, _, rfl, SqT.of upd_same, rfl, _, _, rfl, _, _, rfl, rfl, rfl, tyes ⟨_, rfl, _, rfl, c, _, rfl, .inr (SqT.of (s2 _ _ hc)), rfl, flat_cells _, _, rfl, ?_⟩⟩
      rw [inV_cells]
      have fin : ∀ v, v = optV (clearT Tb D0 i) → ∃ acc, upd H1 T' (.tup [vn i, optV (Tb i)]) D = some (.lst acc) ∧ acc.length < sizeLine ∧ Same H (upd (upd H1 T' (.tup [vn i, optV (Tb i)])) D (.lst (acc ++ [v]))) ∧ upd (upd H1 T' (.tup [vn i, optV (Tb i)])) D (.lst (acc ++ [v])) D = some (.lst (boardV (i + 1) (clearT Tb D0))) := by
        rintro v rfl
        refine ⟨_, (by rw [upd_ne nT]; exact h1), small1000 (by rw [board_len]; omega), sameN s2 hD, ?_⟩
        rw [upd_same]
        simp [boardV, List.range_succ]
      by_cases e : i ∈ D0
      · rw [decide_eq_true e]
        exact iteT (fin _ (by unfold clearT; rw [if_pos e]; rfl))
      · rw [decide_eq_false e]
        exact iteF ⟨_, rfl, fin _ (by unfold clearT; rw [if_neg e])⟩
    · rintro H1 ⟨s1, h1⟩
      rw [board_len] at h1
      exact ⟨D, _, rfl, .inl ⟨SqL.of h1, fun l hl => q _ l (sameN s1 (s1.free hl)) upd_same⟩⟩
/-! ### is_entry -/
theorem sc_is_entry : FnScope ["system", "table", "component", "entry"] ["system", "table", "component", "entry"] (defScope s_is_entry) := ⟨rfl, rfl, rfl, by decide +kernel, rfl, by decide +kernel, by decide +kernel⟩
theorem bd_is_entry {K : PySem.W.Frag} {mg : Str → Option Value} (T : Tx K mg) : Binds K (fdOf K (He.ga K "is_entry")) ["system", "table", "component", "entry"] [] := T.F_is_entry.bindsN (fun _ _ _ _ _ _ us hl => match us, hl with | [_, _, _, _], _ => rfl)
def sp_is_entry (K : PySem.W.Frag) : Sp := fun vs H Q _ => ∃ (s t a : Addr) (rows : List Row) (Tb : Bg.Tab) (D : List Nat) (c : Nat), vs = [.ref s, .ref t, .ref a, vn c] ∧ SysAt K H s rows ∧ RowsOk rows ∧ H t = some (.tup (boardV rows.length Tb)) ∧ H a = some (.tup (D.map vn)) ∧ (∀ x ∈ D, x < rows.length) ∧ c ∈ D ∧
  ∀ H', Same H H' → Q (.bl (!Bg.leads (sysOf rows) D (freeL rows.length Tb))) H'
theorem ok_is_entry (T : Tx K mg) : FO P w K mg base 5 (He.ga K "is_entry") ["system", "table", "component", "entry"] (sp_is_entry K) := by
  refine T.F_is_entry.ok sc_is_entry (fun vs H Q E h => ?_) (fun cdv A outer s H vs Q E hr h => ?_)
  · obtain ⟨s, t, a, rows, Tb, D, c, rfl, _⟩ := h; rfl
  · obtain ⟨s, t, a, rows, Tb, D, c, rfl, hs, hok, ht, ha, hlt, hc, q⟩ := h
    refine ⟨_, PSs.nox (pss_cons (ps_if (PW.pt (pw_or (pt_not (pt_val (pe_call (ok_is_integer T) (hr.mono (by decide)) rfl T.g_is_integer T.F_is_integer.kp (bd_is_integer T) .nil pass0 (pa_cons (pv 3) pa_nil)))) (pw_or1 (pt_cmpR op_notIn_seq (pv 3) (pv 2) (by rfl)))))
 (pss_one (ps_ret pe_bl))
 pss_nil)
 (pss_one (ps_ret (pe_not (pe_call (ok_leads_outside T) (hr.mono (by decide)) rfl T.g_leads_outside T.F_leads_outside.kp (bd_leads_outside T) .nil pass0 (pa_cons (pv 0) (pa_cons (pv 2) (pa_cons (pe_call (ok_free_cells T) (hr.mono (by decide)) rfl T.g_free_cells T.F_free_cells.kp (bd_free_cells T) .nil pass0 (pa_cons (pv 1) pa_nil)) pa_nil)))))))), ?_⟩
    refine ⟨_, rfl, _, rfl, true, rfl, iteF ⟨_, rfl, _, rfl, a, _, rfl, .inr (SqT.of ha), rfl, flat_cells _, _, rfl, ?_⟩⟩
    rw [inV_cells, decide_eq_true hc]
    refine iteF ⟨_, rfl, _, rfl, _, rfl, t, rows.length, Tb, rfl, ht, hok.le, fun H1 p s1 hp => ?_⟩
    exact ⟨s, a, p, rows, D, _, rfl, hs.same s1, hok, s1 _ _ ha, .inr (SqT.of hp), hlt, _, rfl, q H1 s1⟩
end
end BgT
set_option Elab.async false
set_option linter.all false
set_option maxRecDepth 100000
set_option maxHeartbeats 4000000
namespace BgT
open PySem PySem.Spec PyProof.Rows L2
section
variable {S : Bg.Sys} {ps : List (List Nat)} {F : Bg.Tab} {es : List (Option Nat)}
theorem leads_part (p : Bg.Parts S ps) (g : Bg.Good S ps F es) {i e : Nat} {D : List Nat} (hD : ps[i]? = some D) (he : es[i]? = some (some e)) : Bg.leads S D (freeL S.n (Bg.restr F (ps.take i).flatten)) = false := by
  refine Bg.leads_false.mpr fun x hx o ho hW => ?_
  rcases g.below p hD he x hx o ho with h | ⟨h, v, e⟩
  · exact h
  · have := (mem_freeL.mp hW).2
    rw [Bg.restr_in h, e] at this
    cases this
theorem leads_all (p : Bg.Parts S ps) (g : Bg.Good S ps F es) {i e : Nat} {D : List Nat} (hD : ps[i]? = some D) (he : es[i]? = some (some e)) : Bg.leads S D (freeL S.n F) = false := by
  refine Bg.leads_false.mpr fun x hx o ho hW => ?_
  rcases g.below p hD he x hx o ho with h | ⟨h, v, e⟩
  · exact h
  · have := (mem_freeL.mp hW).2
    rw [e] at this
    cases this
theorem restr_lv {l : List Nat} (h : Bg.TLv F) : Bg.TLv (Bg.restr F l) := fun x v e => by
  by_cases hx : x ∈ l
  · rw [Bg.restr_in hx] at e; exact h x v e
  · rw [Bg.restr_out hx] at e; cases e
theorem clear_lv {D : List Nat} (h : Bg.TLv F) : Bg.TLv (clearT F D) := fun x v e => by
  unfold clearT at e
  split at e
  · cases e
  · exact h x v e
end
section
variable {P : Program} {w : World} {K : PySem.W.Frag} {mg : Str → Option Value} {base : Heap}
theorem board_no (n : Nat) : boardV n Bg.noT = List.replicate n V.non := by
  unfold boardV
  apply List.ext_getElem?
  intro i
  by_cases h : i < n
  · rw [List.getElem?_map, List.getElem?_range h, List.getElem?_replicate, if_pos h]; rfl
  · rw [List.getElem?_eq_none (by simp; omega), List.getElem?_eq_none (by simp; omega)]
theorem rep_one (n : Nat) : (List.replicate n [V.non]).flatten = List.replicate n V.non := by
  induction n with
  | zero => rfl
  | succ n ih => rw [List.replicate_succ, List.flatten_cons, ih]; rfl
/-! ### table_by_entries -/
theorem sc_table_by_entries : FnScope ["system", "entries", "parts", "table", "index", "entry"] ["system", "entries"] (defScope s_table_by_entries) := ⟨rfl, rfl, rfl, by decide +kernel, rfl, by decide +kernel, by decide +kernel⟩
theorem bd_table_by_entries {K : PySem.W.Frag} {mg : Str → Option Value} (T : Tx K mg) : Binds K (fdOf K (He.ga K "table_by_entries")) ["system", "entries"] [] := T.F_table_by_entries.bindsN (fun _ _ _ _ _ _ us hl => match us, hl with | [_, _], _ => rfl)
def sp_table_by_entries (K : PySem.W.Frag) : Sp := fun vs H Q _ => ∃ (s e : Addr) (rows : List Row) (es : List (Option Nat)) (F : Bg.Tab), vs = [.ref s, .ref e] ∧ SysAt K H s rows ∧ RowsOk rows ∧ H e = some (.tup (es.map optN)) ∧ Bg.Good (sysOf rows) (Bg.comps (sysOf rows)) F es ∧
  ∀ H' p, Same H H' → H' p = some (.tup (boardV rows.length F)) → Q (.ref p) H'
theorem ok_table_by_entries (T : Tx K mg) : FO P w K mg base 62 (He.ga K "table_by_entries") ["system", "entries"] (sp_table_by_entries K) := by
  obtain ⟨mv, hkb⟩ := kb_policy T
  refine T.F_table_by_entries.ok sc_table_by_entries (fun vs H Q E h => ?_) (fun cdv A outer s H vs Q E hr h => ?_)
  · obtain ⟨s, e, rows, es, F, rfl, _⟩ := h; rfl
  · obtain ⟨s, ea, rows, es, F, rfl, hs, hok, he, g, q⟩ := h
    refine ⟨_, PSs.nox (pss_cons (ps_set (i := 2) sc_table_by_entries.nd rfl (Or.inl rfl) (pe_call (ok_components T) (hr.mono (by decide)) rfl T.g_components T.F_components.kp (bd_components T) .nil pass0 (pa_cons (pv 0) pa_nil)))
 (pss_cons (ps_if (PW.pt (pw_or (pt_not (pt_val (pe_callB call_isi (by rfl) T.b_isinstance (by decide +kernel) (pa_cons (pv 1) (pa_cons (pe_bltn (v := .ty "tuple") (u := .type "tuple") (by rfl) T.b_tuple (by decide +kernel) rfl) pa_nil))))) (pw_or1 (pt_cmpR op_ne (pe_callB call_len_seq (by rfl) T.b_len (by decide +kernel) (pa_cons (pv 1) pa_nil)) (pe_callB call_len_seq (by rfl) T.b_len (by decide +kernel) (pa_cons (pv 2) pa_nil)) (nomark _)))))
 pss_never
 pss_nil)
 (pss_cons (ps_set (i := 3) sc_table_by_entries.nd rfl (Or.inl rfl) (pe_op op_repA (pe_tup (pa_cons pe_non pa_nil)) (pe_callB (lenS T (hr.mono (by decide))) (by rfl) T.b_len (by decide +kernel) (pa_cons (pv 0) pa_nil))))
 (pss_cons (ps_for PassesOwn.never rfl (pi_enumT (by rfl) T.b_enumerate (pa_cons (pv 1) pa_nil)) (pg_tup rfl (pgs_cons (pg_name (i := 4) sc_table_by_entries.nd rfl (Or.inl rfl)) (pgs_cons (pg_name (i := 5) sc_table_by_entries.nd rfl (Or.inl rfl)) pgs_nil)))
 (pss_one (ps_if (pt_cmpR op_notN (pv 5) pe_non (nomark _))
 (pss_cons (ps_if (pt_not (pt_val (pe_call (ok_is_entry T) (hr.mono (by decide)) rfl T.g_is_entry T.F_is_entry.kp (bd_is_entry T) .nil pass0 (pa_cons (pv 0) (pa_cons (pv 3) (pa_cons (pe_ix ix_tup (pv 2) (pv 4) (fun _ _ => rfl)) (pa_cons (pv 5) pa_nil)))))))
 pss_never
 pss_nil)
 (pss_one (ps_set (i := 3) sc_table_by_entries.nd rfl (Or.inl rfl) (pe_ix ix_tup (pe_callN (ok_called T) (hr.mono (by decide)) rfl T.g_called T.F_called.kp hkb pass0 (pa_cons (pv 0) (pa_cons (pv 3) (pa_cons (pv 5) pa_nil))) (pk_cons (pe_constS T.i_ALL) pk_nil)) pe_int (fun _ _ => rfl)))))
 pss_nil)))
 (pss_one (ps_ret (pv 3))))))), ?_⟩
    have par := Bg.comps_parts hok.sys
    refine ⟨_, rfl, s, rows, rfl, hs, hok, fun H1 pp us s1 hpp hcs => ?_⟩
    refine ⟨_, rfl, _, _, .type "tuple", .type "tuple", true, rfl, .ty _, .base (.tup (s1 _ _ he)), kit_ty (by decide +kernel), true, rfl, iteF ?_⟩
    have hlen : (es.map optN).length = us.length := by rw [List.length_map, hcs.len, g.len]
    refine ⟨_, rfl, ea, _, rfl, .inr (SqT.of (s1 _ _ he)), _, rfl, pp, _, rfl, .inr (SqT.of hpp), rfl, _, rfl, ?_⟩
    rw [hlen, decide_eq_true rfl]
    refine iteF ?_
    refine ⟨sz1, fun np hnp => ⟨_, rfl, s, rows, rfl, (hs.same s1).same (same_upd hnp), hok.le, np, _, _, rfl, rfl, upd_same, by simp, by have := hok.pos; omega, by have := hok.le; omega, by simp, fun H2 t0 s2 ht0 => ?_⟩⟩
    rw [Int.toNat_natCast, rep_one, ← board_no] at ht0
    have s02 : Same H H2 := (s1.trans (same_upd hnp)).trans s2
    have hcs2 : CsAt H2 us (Bg.comps (sysOf rows)) := (hcs.same (same_upd hnp)).same s2
    have hpp2 : H2 pp = some (.tup us) := s2 _ _ (by rw [upd_ne (ne_of_none hpp hnp)]; exact hpp)
    have hs2 := hs.same s02
    have he2 := s02 _ _ he
    refine ⟨_, rfl, ea, _, rfl, SqT.of he2, ?_⟩
    refine for_it (walk_enumT (K := K) (a := ea) (xs := es.map optN)) (fun i σ H' => Same H2 H' ∧ ∃ t' a b, σ = [some (.ref s), some (.ref ea), some (.ref pp), some (.ref t'), a, b] ∧ H' t' = some (.tup (boardV rows.length (Bg.restr F ((Bg.comps (sysOf rows)).take i).flatten))))
      ⟨Same.refl _, t0, _, _, rfl, by rw [Bg.restr_zero]; exact ht0⟩ (fun i σ H' _ h => SqT.of (h.1 _ _ he2)) ?_ ?_
    · rintro i x σ H3 H4 hi ⟨s3, t', a, b, rfl, ht'⟩ ⟨T', x1, x2, rfl, hT, rfl, e1, e2⟩
      rw [List.length_map] at hi
      have hil : i < (Bg.comps (sysOf rows)).length := by rw [← g.len]; exact hi
      obtain ⟨D, hD⟩ : ∃ D, (Bg.comps (sysOf rows))[i]? = some D := ⟨_, List.getElem?_eq_getElem hil⟩
      obtain ⟨o, ho⟩ := g.es_at hil
      have e1' : x1 = vn i := by cases e1; rfl
      have e2' : x2 = optN o := by
        have e2 : (es.map optN)[i]? = some x2 := e2
        rw [List.getElem?_map, ho] at e2; cases e2; rfl
      subst e1' e2'
      have s4 : Same H2 (upd H3 T' (.tup [vn i, optN o])) := s3.trans (same_upd hT)
      have ht4 : upd H3 T' (.tup [vn i, optN o]) t' = some (.tup (boardV rows.length (Bg.restr F ((Bg.comps (sysOf rows)).take i).flatten))) := by rw [upd_ne (ne_of_none ht' hT)]; exact ht'
      refine ⟨_, _, rfl, SqT.of upd_same, rfl, _, _, rfl, _, _, rfl, rfl, ?_⟩
      generalize upd H3 T' (.tup [vn i, optN o]) = H4 at s4 ht4
      refine ⟨_, rfl, rfl, _, rfl, ?_⟩
      cases o with
      | none =>
        rw [show (!decide (optN none = V.non)) = false from rfl]
        refine iteF ⟨s4, t', _, _, rfl, ?_⟩
        rw [← g.skip hD ho]
        exact ht4
      | some e =>
        rw [show (!decide (optN (some e) = V.non)) = true from rfl]
        refine iteT ?_
        obtain ⟨heD, -⟩ := g.some_at hD ho
        obtain ⟨pa, hpa, hpaD⟩ := hcs2.at_ hD
        have hDlt : ∀ x ∈ D, x < rows.length := fun x hx => par.lt hD hx
        refine ⟨_, rfl, _, rfl, _, rfl, _, rfl, pp, _, _, _, rfl, rfl, SqT.of (s4 _ _ hpp2), atI_nat hpa, _, rfl, ?_⟩
        refine ⟨s, t', pa, rows, _, D, e, rfl, hs2.same s4, hok, ht4, s4 _ _ hpaD, hDlt, heD, fun H5 s5 => ⟨_, rfl, ?_⟩⟩
        have hlead : Bg.leads (sysOf rows) D (freeL rows.length (Bg.restr F ((Bg.comps (sysOf rows)).take i).flatten)) = false := leads_part par g hD ho
        rw [hlead]
        refine iteF ?_
        refine ⟨_, rfl, _, rfl, _, rfl, rfl, rfl, ?_⟩
        refine ⟨s, t', bKwC K, rows, _, e, rfl, (hs2.same s4).same s5, hok, s5 _ _ ht4, restr_lv g.h.lv, T.nilC, hDlt e heD, fun H6 ra ry rp s6 hra hrp => ?_⟩
        refine ⟨ra, _, _, _, rfl, rfl, SqT.of hra, atI_nat (j := 2) rfl, ?_⟩
        refine ⟨(s4.trans s5).trans s6, rp, _, _, rfl, ?_⟩
        rw [← (g.step hok.sys par hD ho).1]
        exact hrp
    · rintro σ H3 ⟨s3, t', a, b, rfl, ht'⟩
      rw [List.length_map, g.len, g.whole par] at ht'
      exact ⟨_, rfl, q _ t' (s02.trans s3) ht'⟩
theorem scal_opt (a b : Option Int) : scal (optV a) (optV b) = true := by cases a <;> cases b <;> rfl
theorem asc_after {D : List Nat} {j c e : Nat} (h : D.Pairwise (· < ·)) (hc : D[j]? = some c) (he : e ∈ D) (hn : e ∉ D.take j) : c ≤ e := by
  obtain ⟨k, hk⟩ := List.mem_iff_getElem?.mp he
  obtain ⟨hkl, ek⟩ := List.getElem?_eq_some_iff.mp hk
  obtain ⟨hjl, ej⟩ := List.getElem?_eq_some_iff.mp hc
  by_cases h1 : k < j
  · exact absurd (List.mem_iff_getElem?.mpr ⟨k, by rw [List.getElem?_take_of_lt h1]; exact hk⟩) hn
  · by_cases h2 : k = j
    · subst h2; omega
    · have := List.pairwise_iff_getElem.mp h j k hjl hkl (by omega)
      omega
/-! ### entry_for -/
theorem sc_entry_for : FnScope ["system", "table", "component", "before", "cell", "after", "other"] ["system", "table", "component"] (defScope s_entry_for) := ⟨rfl, rfl, rfl, by decide +kernel, rfl, by decide +kernel, by decide +kernel⟩
theorem bd_entry_for {K : PySem.W.Frag} {mg : Str → Option Value} (T : Tx K mg) : Binds K (fdOf K (He.ga K "entry_for")) ["system", "table", "component"] [] := T.F_entry_for.bindsN (fun _ _ _ _ _ _ us hl => match us, hl with | [_, _, _], _ => rfl)
def sp_entry_for (K : PySem.W.Frag) : Sp := fun vs H Q _ => ∃ (s t a : Addr) (rows : List Row) (es : List (Option Nat)) (F : Bg.Tab) (D : List Nat) (i e : Nat), vs = [.ref s, .ref t, .ref a] ∧ SysAt K H s rows ∧ RowsOk rows ∧ H t = some (.tup (boardV rows.length F)) ∧ H a = some (.tup (D.map vn)) ∧
  Bg.Good (sysOf rows) (Bg.comps (sysOf rows)) F es ∧ (Bg.comps (sysOf rows))[i]? = some D ∧ es[i]? = some (some e) ∧ ∀ H' c, Same H H' → c ≤ e → Q (vn c) H'
theorem ok_entry_for (T : Tx K mg) : FO P w K mg base 62 (He.ga K "entry_for") ["system", "table", "component"] (sp_entry_for K) := by
  obtain ⟨mv, hkb⟩ := kb_policy T
  refine T.F_entry_for.ok sc_entry_for (fun vs H Q E h => ?_) (fun cdv A outer s H vs Q E hr h => ?_)
  · obtain ⟨s, t, a, rows, es, F, D, i, e, rfl, _⟩ := h; rfl
  · obtain ⟨s, t, a, rows, es, F, D, i, e, rfl, hs, hok, ht, ha, g, hD, he, q⟩ := h
    refine ⟨_, PSs.nox (pss_cons (ps_if (pt_val (pe_call (ok_leads_outside T) (hr.mono (by decide)) rfl T.g_leads_outside T.F_leads_outside.kp (bd_leads_outside T) .nil pass0 (pa_cons (pv 0) (pa_cons (pv 2) (pa_cons (pe_call (ok_free_cells T) (hr.mono (by decide)) rfl T.g_free_cells T.F_free_cells.kp (bd_free_cells T) .nil pass0 (pa_cons (pv 1) pa_nil)) pa_nil)))))
 (pss_one (ps_ret pe_non))
 pss_nil)
 (pss_cons (ps_set (i := 3) sc_entry_for.nd rfl (Or.inl rfl) (pe_call (ok_cleared T) (hr.mono (by decide)) rfl T.g_cleared T.F_cleared.kp (bd_cleared T) .nil pass0 (pa_cons (pv 1) (pa_cons (pv 2) pa_nil))))
 (pss_cons (ps_for PassesOwn.never rfl (pi_tup (pv 2)) (pg_name (i := 4) sc_entry_for.nd rfl (Or.inl rfl))
 (pss_cons (ps_set (i := 5) sc_entry_for.nd rfl (Or.inr rfl) (pe_ix ix_tup (pe_callN (ok_called T) (hr.mono (by decide)) rfl T.g_called T.F_called.kp hkb pass0 (pa_cons (pv 0) (pa_cons (pv 3) (pa_cons (pv 4) pa_nil))) (pk_cons (pe_constS T.i_ALL) pk_nil)) pe_int (fun _ _ => rfl)))
 (pss_one (ps_if (pt_val (pe_callB (cr_all rfl) (by rfl) T.b_all (by decide +kernel) (pa_cons (pe_lc (own := [("other", 6)]) (g := gName 6) rfl sc_entry_for.nd (pi_tup (pv 2)) (blkOk_by (own := [("other", 6)]) (N := ["system", "table", "component", "before", "cell", "after", "other"]) (sc := defScope s_entry_for) (by decide +kernel)) (fun _ _ _ _ _ => (pg_name (i := 6) sc_entry_for.nd rfl (by first | exact Or.inl rfl | exact Or.inr rfl))) (fun _ _ _ _ _ => pts_nil) (fun _ _ _ _ _ => (pe_cmpR op_eq (pe_ix (ix_tupK (K := K)) (pv 5) (pv 6) (fun _ _ => rfl)) (pe_ix (ix_tupK (K := K)) (pv 1) (pv 6) (fun _ _ => rfl)) (nomark _)))) pa_nil)))
 (pss_one (ps_ret (pv 4)))
 pss_nil))))
 (pss_one (ps_ret pe_non))))), ?_⟩
    have par := Bg.comps_parts hok.sys
    have hDlt : ∀ x ∈ D, x < rows.length := fun x hx => par.lt hD hx
    have hlead : Bg.leads (sysOf rows) D (freeL rows.length F) = false := leads_all par g hD he
    obtain ⟨heD, hsome⟩ := g.some_at hD he
    have hasc := par.asc D (List.mem_of_getElem? hD)
    have hle := hok.le
    refine ⟨_, rfl, _, rfl, _, rfl, t, rows.length, F, rfl, ht, hok.le, fun H1 fp s1 hfp => ?_⟩
    refine ⟨s, a, fp, rows, D, _, rfl, hs.same s1, hok, s1 _ _ ha, .inr (SqT.of hfp), hDlt, false, by rw [hlead], iteF ?_⟩
    refine ⟨_, rfl, _, rfl, t, a, rows.length, F, D, rfl, s1 _ _ ht, s1 _ _ ha, hok.le, fun H2 bp s2 hbp => ?_⟩
    have s02 := s1.trans s2
    have ha2 := s02 _ _ ha
    have ht2 := s02 _ _ ht
    have hs2 := hs.same s02
    refine ⟨_, rfl, a, rfl, ⟨_, SqT.of ha2⟩, ?_⟩
    refine for_tup (K := K) (a := a) (xs := D.map vn) (fun j σ H' => Same H2 H' ∧ (∃ x y, σ = [some (.ref s), some (.ref t), some (.ref a), some (.ref bp), x, y, none]) ∧ e ∉ D.take j)
      ⟨Same.refl _, ⟨_, _, rfl⟩, by simp⟩ (fun i σ H' _ h => SqT.of (h.1 _ _ ha2)) ?_ ?_
    · rintro j x σ H3 hx ⟨s3, ⟨x0, y0, rfl⟩, hnot⟩
      obtain ⟨c, hc, rfl⟩ := map_at hx
      have hcD : c ∈ D := List.mem_of_getElem? hc
      refine ⟨_, rfl, _, rfl, _, rfl, rfl, rfl, ?_⟩
      refine ⟨s, bp, bKwC K, rows, clearT F D, c, rfl, hs2.same s3, hok, s3 _ _ hbp, clear_lv g.h.lv, T.nilC, hDlt c hcD, fun H4 ra ry rp s4 hra hrp => ?_⟩
      refine ⟨ra, _, _, _, rfl, rfl, SqT.of hra, atI_nat (j := 2) rfl, ?_⟩
      have s24 := s3.trans s4
      have ha4 := s24 _ _ ha2
      have ht4 := s24 _ _ ht2
      -- all([..])
      refine ⟨_, rfl, a, rfl, ⟨_, SqT.of ha4⟩, fun L hL => ?_⟩
      generalize hT' : (Bg.ask (sysOf rows) (clearT F D) c).2.1 = T' at hrp
      refine walk_any (walk_tup (K := K) (a := a) (xs := D.map vn)) (fun k H' => Same H4 H' ∧ H' L = some (.lst ((((D.take k).map fun o => decide (optV (T' o) = optV (F o)))).map V.bl))) ⟨same_upd hL, upd_same⟩ (fun i H' _ h => SqT.of (h.1 _ _ ha4)) ?_ ?_
      · rintro k x H5 H5' hk ⟨s5, h5⟩ ⟨rfl, hx⟩
        obtain ⟨o, ho, rfl⟩ := map_at hx
        have hoD : o ∈ D := List.mem_of_getElem? ho
        have hkl : k < 24 := by
          have h1 := (List.getElem?_eq_some_iff.mp ho).1
          have h2 := asc_len hasc hDlt
          omega
        refine ⟨rfl, tyes ⟨_, rfl, _, rfl, rp, _, _, _, rfl, rfl, SqT.of (s5 _ _ hrp), atI_nat (board_at (hDlt o hoD)), _, rfl, _, rfl, t, _, _, _, rfl, rfl, SqT.of (s5 _ _ ht4), atI_nat (board_at (hDlt o hoD)), scal_opt _ _, _, h5, small1000 (by simp only [List.length_map, List.length_take]; omega), sameN s5 hL, ?_⟩⟩
        rw [upd_same, take_snoc ho]
        simp
      · rintro H5 ⟨s5, h5⟩
        rw [List.length_map, List.take_length] at h5
        have s25 := s24.trans s5
        cases hall : (D.map fun o => decide (optV (T' o) = optV (F o))).all id with
        | true =>
          refine ⟨L, _, rfl, SqL.of h5, true, by rw [hall], iteT ⟨_, rfl, q H5 c (s02.trans s25) (asc_after hasc hc heD hnot)⟩⟩
        | false =>
          refine ⟨L, _, rfl, SqL.of h5, false, by rw [hall], iteF ⟨s25, ⟨_, _, rfl⟩, fun hin => ?_⟩⟩
          rcases mem_takeS hc hin with h | rfl
          · exact hnot h
          · have hag := g.again_at hok.sys par hD he (T := clearT F D) (fun x => rfl)
            have : (D.map fun o => decide (optV (T' o) = optV (F o))).all id = true := by
              rw [List.all_eq_true]
              intro b hb
              obtain ⟨o, ho, rfl⟩ := List.mem_map.mp hb
              have := hag o ho
              rw [hT'] at this
              simp [this]
            rw [this] at hall
            cases hall
    · rintro σ H3 ⟨s3, ⟨x0, y0, rfl⟩, hnot⟩
      rw [List.length_map, List.take_length] at hnot
      exact absurd heD hnot
/-! ### entries_of -/
def Told (es told : List (Option Nat)) : Prop := told.length = es.length ∧ ∀ (i : Nat) (o : Option Nat), es[i]? = some o → (o = none ∧ told[i]? = some none) ∨ ∃ e c, o = some e ∧ told[i]? = some (some c) ∧ c ≤ e
theorem told_snoc {es told : List (Option Nat)} {i : Nat} {o x : Option Nat} (h : Told (es.take i) told) (ho : es[i]? = some o) (hx : (o = none ∧ x = none) ∨ ∃ e c, o = some e ∧ x = some c ∧ c ≤ e) : Told (es.take (i + 1)) (told ++ [x]) := by
  have hi : i < es.length := (List.getElem?_eq_some_iff.mp ho).1
  have hl : told.length = i := by rw [h.1, List.length_take]; omega
  refine ⟨by simp only [List.length_append, hl, List.length_take, List.length_cons, List.length_nil]; omega, fun k p hk => ?_⟩
  rw [take_snoc ho] at hk
  have htl : (es.take i).length = i := by rw [List.length_take]; omega
  by_cases hki : k < i
  · rw [List.getElem?_append_left (by rw [htl]; exact hki)] at hk
    rw [List.getElem?_append_left (by rw [hl]; exact hki)]
    exact h.2 k p hk
  · have hkl : k = i := by
      have := (List.getElem?_eq_some_iff.mp hk).1
      simp at this
      omega
    subst hkl
    rw [List.getElem?_append_right (by rw [htl]; exact Nat.le_refl _), htl] at hk
    rw [List.getElem?_append_right (by rw [hl]; exact Nat.le_refl _), hl]
    have hk2 : o = p := by simpa using hk
    subst hk2
    rcases hx with ⟨rfl, rfl⟩ | ⟨e, c, rfl, rfl, h⟩
    · exact .inl ⟨rfl, by simp⟩
    · exact .inr ⟨e, c, rfl, by simp, h⟩
theorem sc_entries_of : FnScope ["system", "table", "entries", "index", "component", "empty", "entry", "cell"] ["system", "table"] (defScope s_entries_of) := ⟨rfl, rfl, rfl, by decide +kernel, rfl, by decide +kernel, by decide +kernel⟩
theorem bd_entries_of {K : PySem.W.Frag} {mg : Str → Option Value} (T : Tx K mg) : Binds K (fdOf K (He.ga K "entries_of")) ["system", "table"] [] := T.F_entries_of.bindsN (fun _ _ _ _ _ _ us hl => match us, hl with | [_, _], _ => rfl)
def sp_entries_of (K : PySem.W.Frag) : Sp := fun vs H Q _ => ∃ (s t : Addr) (rows : List Row) (es : List (Option Nat)) (F : Bg.Tab), vs = [.ref s, .ref t] ∧ SysAt K H s rows ∧ RowsOk rows ∧ H t = some (.tup (boardV rows.length F)) ∧
  Bg.Good (sysOf rows) (Bg.comps (sysOf rows)) F es ∧ ∀ H' a p told, Same H H' → H' a = some (.tup [.str "entries", .ref p]) → H' p = some (.tup (told.map optN)) → Told es told → Q (.ref a) H'
theorem comps_len {S : Bg.Sys} (ok : S.Ok) : (Bg.comps S).length ≤ S.n := by
  have p := Bg.comps_parts ok
  refine Nat.le_trans ?_ (Bg.nodup_le S.n (Bg.comps S).flatten ?_ fun b hb => (p.cover b).mpr hb)
  · have : ∀ ps : List (List Nat), (∀ D ∈ ps, D ≠ []) → ps.length ≤ ps.flatten.length := by
      intro ps
      induction ps with
      | nil => intro _; simp
      | cons D ps ih =>
        intro h
        have h1 := ih fun x hx => h x (by simp [hx])
        have h2 := h D (by simp)
        cases D with
        | nil => exact absurd rfl h2
        | cons a D => simp only [List.flatten_cons, List.length_append, List.length_cons]; omega
    exact this _ p.ne
  · have key : ∀ i, ((Bg.comps S).take i).flatten.Nodup := by
      intro i
      induction i with
      | zero => simp
      | succ i ih =>
        cases h : (Bg.comps S)[i]? with
        | none => rw [List.take_add_one, h]; simpa using ih
        | some D =>
          rw [Bg.take_flat h, List.nodup_append]
          have C := p.comp i D h
          refine ⟨ih, (p.asc D (List.mem_of_getElem? h)).imp fun z => Nat.ne_of_lt z, fun a ha b hb e => ?_⟩
          subst e
          exact C.dj a hb ha
    have := key (Bg.comps S).length
    rwa [List.take_length] at this
theorem ok_entries_of (T : Tx K mg) : FO P w K mg base 63 (He.ga K "entries_of") ["system", "table"] (sp_entries_of K) := by
  refine T.F_entries_of.ok sc_entries_of (fun vs H Q E h => ?_) (fun cdv A outer s H vs Q E hr h => ?_)
  · obtain ⟨s, t, rows, es, F, rfl, _⟩ := h; rfl
  · obtain ⟨s, t, rows, es, F, rfl, hs, hok, ht, g, q⟩ := h
    refine ⟨_, PSs.nox (pss_cons (ps_set (i := 2) sc_entries_of.nd rfl (Or.inl rfl) (pe_lst pa_nil))
 (pss_cons (ps_for PassesOwn.never rfl (pi_enumT (by rfl) T.b_enumerate (pa_cons (pe_call (ok_components T) (hr.mono (by decide)) rfl T.g_components T.F_components.kp (bd_components T) .nil pass0 (pa_cons (pv 0) pa_nil)) pa_nil)) (pg_tup rfl (pgs_cons (pg_name (i := 3) sc_entries_of.nd rfl (Or.inl rfl)) (pgs_cons (pg_name (i := 4) sc_entries_of.nd rfl (Or.inl rfl)) pgs_nil)))
 (pss_cons (ps_setLc (i := 5) (own := [("cell", 7)]) (g := gName 7) rfl sc_entries_of.nd rfl rfl (sw_true rfl rfl rfl (by decide +kernel)) (pi_tup (pv 4)) (blkOk_by (own := [("cell", 7)]) (N := ["system", "table", "entries", "index", "component", "empty", "entry", "cell"]) (sc := defScope s_entries_of) (by decide +kernel)) (fun _ _ _ _ _ => (pg_name (i := 7) sc_entries_of.nd rfl (by first | exact Or.inl rfl | exact Or.inr rfl))) (fun _ _ _ _ _ => pts_one (pt_cmpR op_isN (pe_ix (ix_tupK (K := K)) (pv 1) (pv 7) (fun _ _ => rfl)) pe_non (nomark _))) (fun _ _ _ _ _ => (pv 7)))
 (pss_cons (ps_set (i := 6) sc_entries_of.nd rfl (Or.inl rfl) pe_non)
 (pss_cons (ps_if (pt_cmpR (op_eqD hr.units) (pv 5) (pe_lst pa_nil) (nomark _))
 (pss_one (ps_set (i := 6) sc_entries_of.nd rfl (Or.inl rfl) (pe_call (ok_entry_for T) (hr.mono (by decide)) rfl T.g_entry_for T.F_entry_for.kp (bd_entry_for T) .nil pass0 (pa_cons (pv 0) (pa_cons (pv 1) (pa_cons (pv 4) pa_nil))))))
 pss_nil)
 (pss_cons (ps_if (PW.pt (pw_and (pt_cmpR op_isN (pv 6) pe_non (nomark _)) (pw_and1 (pt_cmpR op_lt (pe_callB call_len_seq (by rfl) T.b_len (by decide +kernel) (pa_cons (pv 5) pa_nil)) (pe_callB call_len_seq (by rfl) T.b_len (by decide +kernel) (pa_cons (pv 4) pa_nil)) (nomark _)))))
 (pss_one (ps_ret (pe_tup (pa_cons pe_str (pa_cons (pv 3) pa_nil)))))
 pss_nil)
 (pss_one (ps_expr (pe_bm PySem.F.plainAttrs_list PySem.F.slot_list_append PySem.F.type_list_append mt_append (pv 2) (pa_cons (pv 6) pa_nil)))))))))
 (pss_one (ps_ret (pe_tup (pa_cons pe_str (pa_cons (pe_callTy call_tuple_of (by rfl) T.b_tuple (by decide +kernel) (pa_cons (pv 2) pa_nil)) pa_nil))))))), ?_⟩
    have par := Bg.comps_parts hok.sys
    refine ⟨Nat.zero_le _, fun ea hea => ?_⟩
    have s0 : Same H (upd H ea (.lst [])) := same_upd hea
    refine ⟨_, rfl, s, rows, rfl, hs.same s0, hok, fun H1 pp us s1 hpp hcs => ⟨pp, us, rfl, SqT.of hpp, ?_⟩⟩
    have s01 := s0.trans s1
    have hs1 := hs.same s01
    have ht1 := s01 _ _ ht
    have hcl : (Bg.comps (sysOf rows)).length ≤ 24 := Nat.le_trans (comps_len hok.sys) hok.le
    refine for_it (walk_enumT (K := K) (a := pp) (xs := us)) (fun i σ H' => (∀ a o, a ≠ ea → H1 a = some o → H' a = some o) ∧ (∃ w1 w2 w3 w4, σ = [some (.ref s), some (.ref t), some (.ref ea), w1, w2, w3, w4, none]) ∧ ∃ told, H' ea = some (.lst (told.map optN)) ∧ Told (es.take i) told)
      ⟨fun a o _ h => h, ⟨_, _, _, _, rfl⟩, [], s1 _ _ upd_same, ⟨by simp, fun i o h => by simp at h⟩⟩ (fun i σ H' _ h => SqT.of (h.1 pp _ (ne_of hpp (s1 _ _ upd_same) (by simp)) hpp)) ?_ ?_
    · rintro i x σ H2 H3 hi ⟨k2, ⟨w1, w2, w3, w4, rfl⟩, told, h2, htold⟩ ⟨T', x1, x2, rfl, hT, rfl, e1, e2⟩
      have hil : i < (Bg.comps (sysOf rows)).length := by rw [← hcs.len]; exact hi
      obtain ⟨D, hD⟩ : ∃ D, (Bg.comps (sysOf rows))[i]? = some D := ⟨_, List.getElem?_eq_getElem hil⟩
      obtain ⟨o, ho⟩ := g.es_at hil
      obtain ⟨ca, hca, hcaD⟩ := hcs.at_ hD
      have e1' : x1 = vn i := by cases e1; rfl
      have e2' : x2 = .ref ca := by
        have e2 : us[i]? = some x2 := e2
        rw [hca] at e2; cases e2; rfl
      subst e1' e2'
      have hDlt : ∀ x ∈ D, x < rows.length := fun x hx => par.lt hD hx
      have hDl : D.length ≤ 24 := Nat.le_trans (asc_len (par.asc D (List.mem_of_getElem? hD)) hDlt) hok.le
      have hDne := par.ne D (List.mem_of_getElem? hD)
      have h1ea : H1 ea = some (.lst []) := s1 _ _ upd_same
      have htl : told.length = i := by rw [htold.1, List.length_take, g.len]; omega
      have nTe : ea ≠ T' := ne_of_none h2 hT
      have k3 : ∀ a o, a ≠ ea → H1 a = some o → upd H2 T' (.tup [vn i, .ref ca]) a = some o := fun a o na h => by
        have := k2 a o na h
        rw [upd_ne (ne_of_none this hT)]; exact this
      have h3 : upd H2 T' (.tup [vn i, .ref ca]) ea = some (.lst (told.map optN)) := by rw [upd_ne nTe]; exact h2
      refine ⟨_, _, rfl, SqT.of upd_same, rfl, _, _, rfl, _, _, rfl, rfl, ?_⟩
      generalize upd H2 T' (.tup [vn i, .ref ca]) = H3 at k3 h3
      have keepT : ∀ a ys, H1 a = some (.tup ys) → H3 a = some (.tup ys) := fun a ys h => k3 a _ (ne_of h h1ea (by simp)) h
      have hca3 := keepT _ _ hcaD
      have ht3 := keepT _ _ ht1
      -- empty
      refine ⟨_, rfl, ca, rfl, ⟨_, SqT.of hca3⟩, fun L hL => ?_⟩
      refine walk_any (walk_tup (K := K) (a := ca) (xs := D.map vn)) (fun k H' => Same H3 H' ∧ H' L = some (.lst (((D.take k).filter fun c => decide (optV (F c) = V.non)).map vn))) ⟨same_upd hL, upd_same⟩ (fun i H' _ h => SqT.of (h.1 _ _ hca3)) ?_ ?_
      · rintro k y H4 H4' hk ⟨s4, h4⟩ ⟨rfl, hy⟩
        obtain ⟨c, hc, rfl⟩ := map_at hy
        have hcD : c ∈ D := List.mem_of_getElem? hc
        have hfl := List.length_filter_le (fun c => decide (optV (F c) = V.non)) (D.take k)
        rw [List.length_take] at hfl
        refine ⟨rfl, _, rfl, _, rfl, t, _, _, _, rfl, rfl, SqT.of (s4 _ _ ht3), atI_nat (board_at (hDlt c hcD)), rfl, _, rfl, ?_⟩
        by_cases e : optV (F c) = V.non
        · rw [decide_eq_true e]
          refine iteT ⟨_, rfl, _, h4, small1000 (by rw [List.length_map]; omega), sameN s4 hL, ?_⟩
          rw [upd_same, take_snoc hc, List.filter_append]
          simp [e]
        · rw [decide_eq_false e]
          refine iteF ⟨s4, ?_⟩
          rw [h4, take_snoc hc, List.filter_append]
          simp [e]
      · rintro H4 ⟨s4, h4⟩
        rw [List.length_map, List.take_length] at h4
        have h4ea := s4 _ _ h3
        refine ⟨_, rfl, sz0, fun np hnp => ?_⟩
        refine ⟨.list ((D.filter fun c => decide (optV (F c) = V.non)).map pdC), .list [], .lst (SqL.of (by rw [upd_ne (ne_of_none h4 hnp)]; exact h4)) (dpAll_cells _), .lst (SqL.of upd_same) .nil, (Shal.lst (shal_cells _)).ok (by decide), (Shal.lst (n := 0) (ds := []) (by simp)).ok (by decide), _, rfl, ?_⟩
        have s5 : Same H3 (upd H4 np (.lst [])) := s4.trans (same_upd hnp)
        have h5L : upd H4 np (.lst []) L = some (.lst ((D.filter fun c => decide (optV (F c) = V.non)).map vn)) := by rw [upd_ne (ne_of_none h4 hnp)]; exact h4
        have h5ea : upd H4 np (.lst []) ea = some (.lst (told.map optN)) := by rw [upd_ne (ne_of_none h4ea hnp)]; exact h4ea
        generalize upd H4 np (.lst []) = H5 at s5 h5L h5ea
        have k5 : ∀ a o, a ≠ ea → H1 a = some o → H5 a = some o := fun a o na h => s5 _ _ (k3 a o na h)
        -- the end of a turn
        have fin : ∀ (H6 : Hp) (x : Option Nat) (w2 w3 w4 : Option V), (∀ a o, a ≠ ea → H1 a = some o → H6 a = some o) → H6 ea = some (.lst (told.map optN)) → ((o = none ∧ x = none) ∨ ∃ e c, o = some e ∧ x = some c ∧ c ≤ e) →
            told.length < 1000 ∧ ((∀ a o, a ≠ ea → H1 a = some o → upd H6 ea (.lst (told.map optN ++ [optN x])) a = some o) ∧ ∃ tl : List (Option Nat), upd H6 ea (.lst (told.map optN ++ [optN x])) ea = some (.lst (tl.map optN)) ∧ Told (es.take (i + 1)) tl) := fun H6 x w2 w3 w4 k6 h6 hx =>
          ⟨by omega, fun a o na h => by rw [upd_ne na]; exact k6 a o na h, told ++ [x], by rw [upd_same, List.map_append]; rfl, told_snoc htold ho hx⟩
        have hap : ∀ (H6 : Hp) (x : Option Nat), told.length < 1000 → H6 ea = some (.lst (told.map optN)) → (told.map optN).length < sizeLine := fun _ _ h _ => small1000 (by rw [List.length_map]; exact Nat.le_of_lt h)
        cases o with
        | none =>
          have hno := g.none_at hD ho
          have hf : (D.filter fun c => decide (optV (F c) = V.non)) = D := List.filter_eq_self.mpr fun c hc => by rw [hno c hc]; rfl
          rw [hf] at h5L ⊢
          have hev : PyData.eqv (.list (D.map pdC)) (.list []) = false := by
            cases hDD : D with
            | nil => exact absurd hDD hDne
            | cons a r => simp [PyData.eqv, PyData.eqvAll]
          rw [hev]
          refine iteF ?_
          refine ⟨_, rfl, rfl, _, rfl, iteT ⟨_, rfl, L, _, rfl, .inl (SqL.of h5L), _, rfl, ca, _, rfl, .inr (SqT.of (k5 _ _ (ne_of hcaD h1ea (by simp)) hcaD)), _, _, rfl, rfl, _, rfl, ?_⟩⟩
          rw [decide_eq_false (by omega)]
          refine iteF ⟨_, rfl, .inl ⟨rfl, _, SqL.of h5ea⟩, _, rfl, ea, _, _, rfl, rfl, h5ea, ?_⟩
          obtain ⟨f1, f2, f3⟩ := fin H5 none none none none k5 h5ea (.inl ⟨rfl, rfl⟩)
          exact ⟨hap H5 none f1 h5ea, f2, ⟨_, _, _, _, rfl⟩, f3⟩
        | some e =>
          obtain ⟨heD, hsome⟩ := g.some_at hD ho
          have hf : (D.filter fun c => decide (optV (F c) = V.non)) = [] := List.filter_eq_nil_iff.mpr fun c hc => by
            obtain ⟨_, v, ev⟩ := hsome c hc
            rw [ev]; simp [optV]
          rw [hf] at h5L ⊢
          rw [show PyData.eqv (.list (([] : List Nat).map pdC)) (.list []) = true from by simp [PyData.eqv, PyData.eqvAll]]
          refine iteT ?_
          have nH1 : ∀ {a o}, H1 a = some o → (∀ xs, o ≠ HO.lst xs) → H5 a = some o := fun {a o} h hn => k5 a o (ne_of h h1ea (hn _)) h
          have hs5 : SysAt K H5 s rows := by
            obtain ⟨dx, tt, vs, q1, q2, q3, q4⟩ := hs1
            refine ⟨dx, tt, vs, nH1 q1 (by simp), nH1 q2 (by simp), q3, fun k r e => ?_⟩
            obtain ⟨v, z, a, o, f, e1, e2, e3, e4⟩ := q4 k r e
            refine ⟨v, z, a, o, f, e1, nH1 e2 (by simp), nH1 e3 (by simp), ?_⟩
            cases hfn : r.fn with
            | lev kk c => rw [hfn] at e4; obtain ⟨a, e, h⟩ := e4; exact ⟨a, e, nH1 h (by simp)⟩
            | tab t => rw [hfn] at e4; obtain ⟨a, b, e, h, q⟩ := e4; exact ⟨a, b, e, nH1 h (by simp), nH1 q (by simp)⟩
          refine ⟨_, rfl, _, rfl, _, rfl, s, t, ca, rows, es, F, D, i, e, rfl, hs5, hok, nH1 ht1 (by simp), nH1 hcaD (by simp), g, hD, ho, fun H6 c s6 hce => ?_⟩
          refine ⟨_, rfl, rfl, _, rfl, iteF ?_⟩
          have h6ea := s6 _ _ h5ea
          refine ⟨_, rfl, .inl ⟨rfl, _, SqL.of h6ea⟩, _, rfl, ea, _, _, rfl, rfl, h6ea, ?_⟩
          obtain ⟨f1, f2, f3⟩ := fin H6 (some c) none none none (fun a o na h => s6 _ _ (k5 a o na h)) h6ea (.inr ⟨e, c, rfl, rfl, hce⟩)
          exact ⟨hap H6 (some c) f1 h6ea, f2, ⟨_, _, _, _, rfl⟩, f3⟩
    · rintro σ H2 ⟨k2, ⟨w1, w2, w3, w4, rfl⟩, told, h2, htold⟩
      rw [hcs.len, ← g.len, List.take_length] at htold
      refine ⟨_, rfl, ea, _, rfl, .inl ⟨SqL.of h2, fun p hp => ⟨sz2, fun a ha => ?_⟩⟩⟩
      have s2 : Same H H2 := fun b o h => k2 b o (ne_of_none h hea) (s01 _ _ h)
      refine q _ a p told (sameN (sameN s2 (s2.free hp)) ((sameN s2 (s2.free hp)).free ha)) upd_same ?_ htold
      rw [upd_ne (ne_of_none upd_same ha)]
      exact upd_same
end
end BgT
set_option Elab.async false
set_option linter.all false
set_option maxRecDepth 100000
set_option maxHeartbeats 4000000
namespace BgT
open PySem PySem.Spec PyProof.Rows L2
section
variable {P : Program} {w : World} {K : PySem.W.Frag} {mg : Str → Option Value} {base : Heap}
def memoF (s t l : Addr) (k : Int) : List (Str × V) := [("present", .ref s), ("stored", .ref t), ("counted", .int k), ("latest", .ref l), ("most", .non)]
structure MemoAt (K : PySem.W.Frag) (H : Hp) (m dx s : Addr) (n : Nat) (T : Bg.Tab) (t l : Addr) (es : List V) : Prop where
  m : ∃ k, H m = some (.ins (He.ga K "KeepAll") dx (memoF s t l k))
  t : H t = some (.tup (boardV n T))
  l : H l = some (.lst es)
/-! ### KeepAll.__init__ -/
theorem sc_KeepAll_init : FnScope ["self", "system"] ["self", "system"] (defScope s_KeepAll_init) := ⟨rfl, rfl, rfl, by decide +kernel, rfl, by decide +kernel, by decide +kernel⟩
theorem bd_KeepAll_init {K : PySem.W.Frag} {mg : Str → Option Value} (T : Tx K mg) : Binds K (fdOf K (He.ma K (He.ga K "KeepAll") "__init__")) ["self", "system"] [] := T.F_KeepAll_init.bindsN (fun _ _ _ _ _ _ us hl => match us, hl with | [_, _], _ => rfl)
def sp_KeepAll_init (K : PySem.W.Frag) : Sp := fun vs H Q _ => ∃ (m dx s : Addr) (rows : List Row), vs = [.ref m, .ref s] ∧ H m = some (.ins (He.ga K "KeepAll") dx []) ∧ SysAt K H s rows ∧ RowsOk rows ∧
  ∀ H' t l, KeepX m H H' → H l = none → MemoAt K H' m dx s rows.length Bg.noT t l [] → Q .non H'
theorem ok_KeepAll_init (T : Tx K mg) : FM P w K mg base 3 "KeepAll" "__init__" ["self", "system"] (sp_KeepAll_init K) := by
  refine T.F_KeepAll_init.ok sc_KeepAll_init (fun vs H Q E h => ?_) (fun cdv A outer s H vs Q E hr h => ?_)
  · obtain ⟨m, dx, s, rows, rfl, _⟩ := h; rfl
  · obtain ⟨m, dx, s, rows, rfl, hm, hs, hok, q⟩ := h
    refine ⟨_, PSs.nox (pss_cons (ps_expr (pe_call (ok_need_fitting T) (hr.mono (by decide)) rfl T.g_need_fitting T.F_need_fitting.kp (bd_need_fitting T) .nil pass0 (pa_cons (pe_con (pv 0) rfl) (pa_cons (pv 1) pa_nil))))
 (pss_cons (ps_fld (pv 0) (pv 1) rfl)
 (pss_cons (ps_fld (pv 0) (pe_op op_repA (pe_tup (pa_cons pe_non pa_nil)) (pe_callB (lenS T (hr.mono (by decide))) (by rfl) T.b_len (by decide +kernel) (pa_cons (pv 1) pa_nil))) rfl)
 (pss_cons (ps_fld (pv 0) pe_int rfl)
 (pss_cons (ps_fld (pv 0) (pe_lst pa_nil) rfl)
 (pss_one (ps_fld (pv 0) pe_non rfl))))))), ?_⟩
    obtain ⟨dxs, ts, vss, hs1, hs2, hs3⟩ := id hs
    have keepS : ∀ {H' : Hp}, KeepX m H H' → SysAt K H' s rows := fun {H'} k => by
      have nn : ∀ {a o}, H a = some o → (∀ C d, o ≠ HO.ins C d []) → H' a = some o := fun {a o} h hn => k a o (ne_of h hm (hn _ _)) h
      obtain ⟨h1, h2⟩ := hs3
      refine ⟨dxs, ts, vss, nn hs1 (by simp), nn hs2 (by simp), h1, fun k r e => ?_⟩
      obtain ⟨v, z, a, o, f, e1, e2, e3, e4⟩ := h2 k r e
      refine ⟨v, z, a, o, f, e1, nn e2 (by simp), nn e3 (by simp), ?_⟩
      cases hfn : r.fn with
      | lev kk c => rw [hfn] at e4; obtain ⟨a, e, h⟩ := e4; exact ⟨a, e, nn h (by simp)⟩
      | tab t => rw [hfn] at e4; obtain ⟨a, b, e, h, q⟩ := e4; exact ⟨a, b, e, nn h (by simp), nn q (by simp)⟩
    refine ⟨_, rfl, m, _, _, _, _, _, rfl, hm, T.cl_KeepAll, T.con.choose_spec, rfl, _, rfl, ⟨_, rfl⟩, ?_⟩
    refine ⟨_, rfl, _, rfl, m, _, _, _, rfl, hm, T.cl_KeepAll, T.na_KeepAll_present, (by simp), ?_⟩
    have k1 : KeepX m H _ := KeepX.refl.upd (o := .ins (He.ga K "KeepAll") dx (putF "present" (.ref s) []))
    have hm1 : upd H m (.ins (He.ga K "KeepAll") dx (putF "present" (.ref s) [])) m = some (.ins (He.ga K "KeepAll") dx [("present", .ref s)]) := upd_same
    generalize upd H m (.ins (He.ga K "KeepAll") dx (putF "present" (.ref s) [])) = H1 at k1 hm1
    -- stored
    refine ⟨sz1, fun np hnp => ⟨_, rfl, s, rows, rfl, (keepS k1).same (same_upd hnp), hok.le, np, _, _, rfl, rfl, upd_same, by simp, by have := hok.pos; omega, by have := hok.le; omega, by simp, fun H2 t0 s2 ht0 => ?_⟩⟩
    rw [Int.toNat_natCast, rep_one, ← board_no] at ht0
    have s12 : Same H1 H2 := (same_upd hnp).trans s2
    have hm2 := s12 _ _ hm1
    have k2 : KeepX m H H2 := fun a o h1 h => s12 _ _ (k1 a o h1 h)
    have ntm : t0 ≠ m := ne_of ht0 hm2 (by simp)
    refine ⟨_, rfl, m, _, _, _, rfl, hm2, T.cl_KeepAll, T.na_KeepAll_stored, (by simp), ?_⟩
    -- counted
    refine ⟨_, rfl, m, _, _, _, rfl, upd_same, T.cl_KeepAll, T.na_KeepAll_counted, lt1, ?_⟩
    rw [upd_upd]
    rw [show putF "counted" (.int 0) (putF "stored" (.ref t0) [("present", .ref s)]) = ([("present", .ref s), ("stored", .ref t0), ("counted", .int 0)] : List (Str × V)) from rfl]
    have k3 : KeepX m H (upd H2 m (.ins (He.ga K "KeepAll") dx [("present", .ref s), ("stored", .ref t0), ("counted", .int 0)])) := k2.upd
    have hm3 : upd H2 m (.ins (He.ga K "KeepAll") dx [("present", .ref s), ("stored", .ref t0), ("counted", .int 0)]) m = some (.ins (He.ga K "KeepAll") dx [("present", .ref s), ("stored", .ref t0), ("counted", .int 0)]) := upd_same
    have ht3 : upd H2 m (.ins (He.ga K "KeepAll") dx [("present", .ref s), ("stored", .ref t0), ("counted", .int 0)]) t0 = some (.tup (boardV rows.length Bg.noT)) := by rw [upd_ne ntm]; exact ht0
    generalize upd H2 m (.ins (He.ga K "KeepAll") dx [("present", .ref s), ("stored", .ref t0), ("counted", .int 0)]) = H3 at k3 hm3 ht3
    -- latest
    refine ⟨Nat.zero_le _, fun l hl => ?_⟩
    have hl0 := k3.free hm3 hl
    have nlm : l ≠ m := Ne.symm (ne_of_none hm3 hl)
    have ntl : t0 ≠ l := ne_of_none ht3 hl
    have hm4 : upd H3 l (.lst []) m = some (.ins (He.ga K "KeepAll") dx [("present", .ref s), ("stored", .ref t0), ("counted", .int 0)]) := by rw [upd_ne (Ne.symm nlm)]; exact hm3
    refine ⟨_, rfl, m, _, _, _, rfl, hm4, T.cl_KeepAll, T.na_KeepAll_latest, (by simp), ?_⟩
    refine ⟨_, rfl, m, _, _, _, rfl, upd_same, T.cl_KeepAll, T.na_KeepAll_most, lt1, ?_⟩
    rw [upd_upd]
    refine q _ t0 l (k3.new hl0).upd hl0 ⟨⟨0, upd_same⟩, ?_, ?_⟩
    · rw [upd_ne ntm, upd_ne ntl]; exact ht3
    · rw [upd_ne nlm]; exact upd_same
/-! ### KeepAll.run -/
theorem sc_KeepAll_run : FnScope ["self"] ["self"] (defScope s_KeepAll_run) := ⟨rfl, rfl, rfl, by decide +kernel, rfl, by decide +kernel, by decide +kernel⟩
theorem bd_KeepAll_run {K : PySem.W.Frag} {mg : Str → Option Value} (T : Tx K mg) : Binds K (fdOf K (He.ma K (He.ga K "KeepAll") "run")) ["self"] [] := T.F_KeepAll_run.bindsN (fun _ _ _ _ _ _ us hl => match us, hl with | [_], _ => rfl)
def sp_KeepAll_run (K : PySem.W.Frag) : Sp := fun vs H Q _ => ∃ (m dx s t l : Addr) (n : Nat) (Tb : Bg.Tab) (es : List V), vs = [.ref m] ∧ MemoAt K H m dx s n Tb t l es ∧
  ∀ H' x d b u e, Same H H' → H x = none → H b = none → H u = none → H e = none → RunAt K H' ⟨x, d, s, b, u, e⟩ n Tb [] [] [] → Q (.ref x) H'
theorem ok_KeepAll_run (T : Tx K mg) : FM P w K mg base 3 "KeepAll" "run" ["self"] (sp_KeepAll_run K) := by
  obtain ⟨mv, hkb⟩ := kb_most T
  refine T.F_KeepAll_run.ok sc_KeepAll_run (fun vs H Q E h => ?_) (fun cdv A outer s H vs Q E hr h => ?_)
  · obtain ⟨m, dx, s, t, l, n, Tb, es, rfl, _⟩ := h; rfl
  · obtain ⟨m, dx, s, t, l, n, Tb, es, rfl, hM, q⟩ := h
    refine ⟨_, PSs.nox (pss_one (ps_ret (pe_makeK T.mk_Run (ok_Run_init T) (hr.mono (by decide)) rfl T.g_Run hkb pass0 (pa_cons (pe_fld (pv 0) rfl) (pa_cons (pe_fld (pv 0) rfl) (pa_cons (pe_con (pv 0) rfl) pa_nil))) (pk_cons (pe_fld (pv 0) rfl) pk_nil)))), ?_⟩
    obtain ⟨k, hm⟩ := hM.m
    refine ⟨_, rfl, m, _, _, _, _, rfl, hm, T.cl_KeepAll, T.na_KeepAll_present, rfl, _, rfl, m, _, _, _, _, rfl, hm, T.cl_KeepAll, T.na_KeepAll_stored, rfl, _, rfl, m, _, _, _, _, _, rfl, hm, T.cl_KeepAll, T.con.choose_spec, rfl, ?_⟩
    refine ⟨_, rfl, m, _, _, _, _, rfl, hm, T.cl_KeepAll, T.na_KeepAll_most, rfl, rfl, rfl, fun x d hx hd hne => ?_⟩
    have ntx : t ≠ x := ne_of_none hM.t hx
    have ntd : t ≠ d := ne_of_none hM.t hd
    refine ⟨x, d, s, t, bKwR K, boardV n Tb, rfl, upd_same, by rw [upd_ne ntx, upd_ne ntd]; exact hM.t, T.nilR, fun H2 b u e k2 hb0 hu0 he0 nbu nbe nue hx2 hb2 hu2 he2 => ⟨rfl, ?_⟩⟩
    have free : ∀ {y : Addr}, upd (upd H d (.own x)) x (.ins (He.ga K "Run") d []) y = none → H y = none := fun {y} h => by
      cases z : H y with
      | none => rfl
      | some o => rw [upd_ne (ne_of_none z hx), upd_ne (ne_of_none z hd), z] at h; cases h
    refine q H2 x d b u e (fun a o h => ?_) hx (free hb0) (free hu0) (free he0) (RunAt.begin hx2 hb2 hu2 he2 nbu nbe nue)
    have nax : a ≠ x := ne_of_none h hx
    have nad : a ≠ d := ne_of_none h hd
    exact k2 a o nax (by rw [upd_ne nax, upd_ne nad]; exact h)
/-! ### KeepAll.ask -/
theorem sc_KeepAll_ask : FnScope ["self", "cell", "run", "answer", "taint"] ["self", "cell"] (defScope s_KeepAll_ask) := ⟨rfl, rfl, rfl, by decide +kernel, rfl, by decide +kernel, by decide +kernel⟩
theorem bd_KeepAll_ask {K : PySem.W.Frag} {mg : Str → Option Value} (T : Tx K mg) : Binds K (fdOf K (He.ma K (He.ga K "KeepAll") "ask")) ["self", "cell"] [] := T.F_KeepAll_ask.bindsN (fun _ _ _ _ _ _ us hl => match us, hl with | [_, _], _ => rfl)
def sp_KeepAll_ask (K : PySem.W.Frag) : Sp := fun vs H Q _ => ∃ (m dx s t l : Addr) (rows : List Row) (Tb : Bg.Tab) (es : List V) (c : Nat), vs = [.ref m, vn c] ∧ SysAt K H s rows ∧ RowsOk rows ∧ MemoAt K H m dx s rows.length Tb t l es ∧ Bg.TLv Tb ∧ c < rows.length ∧
  ∀ H' t' l' es', KeepX m H H' → MemoAt K H' m dx s rows.length (Bg.ask (sysOf rows) Tb c).2.1 t' l' es' → EvsAt H' es' (Bg.ask (sysOf rows) Tb c).2.2 → Q (.int (Bg.ask (sysOf rows) Tb c).1) H'
theorem ok_KeepAll_ask (T : Tx K mg) : FM P w K mg base 61 "KeepAll" "ask" ["self", "cell"] (sp_KeepAll_ask K) := by
  refine T.F_KeepAll_ask.ok sc_KeepAll_ask (fun vs H Q E h => ?_) (fun cdv A outer s H vs Q E hr h => ?_)
  · obtain ⟨m, dx, s, t, l, rows, Tb, es, c, rfl, _⟩ := h; rfl
  · obtain ⟨m, dx, s, t, l, rows, Tb, es, c, rfl, hs, hok, hM, hlv, hc, q⟩ := h
    refine ⟨_, PSs.nox (pss_cons (ps_expr (pe_meth (pe_fld (pv 0) rfl) T.cl_System T.m_System_operands (ok_System_operands T) (hr.mono (by decide)) (bd_System_operands T) .nil pass0 (pa_cons (pv 1) pa_nil)))
 (pss_cons (ps_set (i := 2) sc_KeepAll_ask.nd rfl (Or.inl rfl) (pe_meth0 (pv 0) T.cl_KeepAll T.m_KeepAll_run (ok_KeepAll_run T) (hr.mono (by decide)) (bd_KeepAll_run T) .nil pass0))
 (pss_cons (ps_asg (pe_meth (pv 2) T.cl_Run T.m_Run_call (ok_call25 T) (hr.mono (by decide)) (bd_Run_call T) .nil pass0 (pa_cons (pv 1) pa_nil)) (pg_tup rfl (pgs_cons (pg_name (i := 3) sc_KeepAll_ask.nd rfl (Or.inl rfl)) (pgs_cons (pg_name (i := 4) sc_KeepAll_ask.nd rfl (Or.inl rfl)) pgs_nil))))
 (pss_cons (ps_fld (pv 0) (pe_callTy call_tuple_of (by rfl) T.b_tuple (by decide +kernel) (pa_cons (pe_fld (pv 2) rfl) pa_nil)) rfl)
 (pss_cons (ps_fldaug (pv 0) (pe_fld (pv 2) rfl) in_add)
 (pss_cons (ps_fld (pv 0) (pe_fld (pv 2) rfl) rfl)
 (pss_one (ps_ret (pv 3))))))))), ?_⟩
    obtain ⟨k, hm⟩ := hM.m
    obtain ⟨r, hr0⟩ := row_at (rows := rows) hc
    obtain ⟨dxs, ts, vss, hs1, -⟩ := id hs
    refine ⟨_, rfl, m, _, _, _, _, rfl, hm, T.cl_KeepAll, T.na_KeepAll_present, rfl, s, _, _, rfl, hs1, rfl, _, rfl, s, rows, c, r, rfl, hs, hr0, fun o ho => ?_⟩
    refine ⟨_, rfl, m, _, _, rfl, hm, rfl, m, dx, s, t, l, rows.length, Tb, es, rfl, hM, fun H1 x d b u e s1 hx hb hu he A => ?_⟩
    refine ⟨_, rfl, x, _, _, rfl, A.r.choose_spec, rfl, _, rfl, ⟨x, d, s, b, u, e⟩, rows, c, Tb, [], [], [], rfl, hs.same s1, hok, A, Bg.fit25 hok.sys, hc, hlv, ?_, fun H2 a y es2 tt k2 A2 ha hy hts => ?_⟩
    · have := Bg.ask_ev hok.sys (T := Tb) (c := c) hc
      simp only [List.length_nil]
      show 0 + (Bg.ask (sysOf rows) Tb c).2.2.length ≤ 900
      omega
    · have s2 : Same H H2 := fun z o h => k2 z o (ne_of_none h hx) (ne_of_none h hb) (ne_of_none h hu) (ne_of_none h he) (s1 z o h)
      have hm2 := s2 _ _ hm
      refine ⟨a, _, rfl, SqT.of ha, rfl, _, _, rfl, _, _, rfl, rfl, ?_⟩
      obtain ⟨kr, hxr⟩ := A2.r
      have nxm : x ≠ m := fun e => by rw [e, hm] at hx; cases hx
      have nbm : b ≠ m := fun e => by rw [e, hm] at hb; cases hb
      have nem : e ≠ m := fun z => by rw [z, hm] at he; cases he
      -- stored
      refine ⟨_, rfl, x, _, _, _, _, rfl, hxr, T.cl_Run, T.na_Run_board, rfl, b, _, rfl, .inl ⟨SqL.of A2.b, fun p hp => ?_⟩⟩
      have hp0 := s2.free hp
      have npm : p ≠ m := fun e => by rw [e, hm2] at hp; cases hp
      have s3 : Same H2 (upd H2 p (.tup (boardV rows.length (Bg.run (sysOf rows) 25 Tb [] c).2.1))) := same_upd hp
      have hp3 : upd H2 p (.tup (boardV rows.length (Bg.run (sysOf rows) 25 Tb [] c).2.1)) p = some (.tup (boardV rows.length (Bg.run (sysOf rows) 25 Tb [] c).2.1)) := upd_same
      generalize upd H2 p (.tup (boardV rows.length (Bg.run (sysOf rows) 25 Tb [] c).2.1)) = H3 at s3 hp3
      refine ⟨_, rfl, m, _, _, _, rfl, s3 _ _ hm2, T.cl_KeepAll, T.na_KeepAll_stored, (by simp [memoF]), ?_⟩
      -- counted
      have hx4 : ∀ o, upd H3 m o x = some (.ins (He.ga K "Run") d (runF ⟨x, d, s, b, u, e⟩ kr)) := fun o => by rw [upd_ne nxm]; exact s3 _ _ hxr
      refine ⟨_, rfl, m, _, _, _, _, rfl, upd_same, T.cl_KeepAll, T.na_KeepAll_counted, rfl, _, rfl, x, _, _, _, _, rfl, hx4 _, T.cl_Run, T.na_Run_begun, rfl, _, _, rfl, rfl, dx, _, upd_same, lt1 (by simp [memoF]), ?_⟩
      rw [upd_upd]
      -- latest
      refine ⟨_, rfl, x, _, _, _, _, rfl, hx4 _, T.cl_Run, T.na_Run_happened, rfl, _, rfl, m, _, _, _, rfl, upd_same, T.cl_KeepAll, T.na_KeepAll_latest, lt2 (by simp [memoF]), ?_⟩
      rw [upd_upd]
      refine ⟨_, rfl, ?_⟩
      refine q _ p e es2 ?_ ⟨⟨k + kr, upd_same⟩, by rw [upd_ne npm]; exact hp3, by rw [upd_ne nem]; exact s3 _ _ A2.e⟩ ?_
      · intro z o hz h
        rw [upd_ne hz]
        exact s3 _ _ (s2 _ _ h)
      · refine A2.ev.keep fun z ys h => ?_
        rw [upd_ne (ne_of h hm2 (by simp))]
        exact s3 _ _ h
/-! ### KeepAll.table -/
theorem sc_KeepAll_table : FnScope ["self"] ["self"] (defScope s_KeepAll_table) := ⟨rfl, rfl, rfl, by decide +kernel, rfl, by decide +kernel, by decide +kernel⟩
theorem bd_KeepAll_table (T : Tx K mg) : Binds K (fdOf K (gTable K)) ["self"] [] := T.F_KeepAll_table.bindsN (fun _ _ _ _ _ _ us hl => match us, hl with | [_], _ => rfl)
def sp_KeepAll_table (K : PySem.W.Frag) : Sp := fun vs H Q _ => ∃ (m dx s t l : Addr) (n : Nat) (Tb : Bg.Tab) (es : List V), vs = [.ref m] ∧ MemoAt K H m dx s n Tb t l es ∧ Q (.ref t) H
theorem ok_KeepAll_table (T : Tx K mg) : FnOk P w K mg base CX0 1 (gTable K) (fdOf K (gTable K)) ["self"] (sp_KeepAll_table K) := by
  refine T.F_KeepAll_table.ok sc_KeepAll_table (fun vs H Q E h => ?_) (fun cdv A outer s H vs Q E hr h => ?_)
  · obtain ⟨m, dx, s, t, l, n, Tb, es, rfl, _⟩ := h; rfl
  · obtain ⟨m, dx, s, t, l, n, Tb, es, rfl, hM, q⟩ := h
    refine ⟨_, PSs.nox (pss_one (ps_ret (pe_fld (pv 0) rfl))), ?_⟩
    obtain ⟨k, hm⟩ := hM.m
    exact ⟨_, rfl, m, _, _, _, _, rfl, hm, T.cl_KeepAll, T.na_KeepAll_stored, rfl, q⟩
end
end BgT
set_option Elab.async false
set_option linter.all false
set_option maxRecDepth 100000
set_option maxHeartbeats 4000000
namespace BgT
open PySem PySem.Spec PyProof.Rows L2
/-! ### set(list of ints) -/
abbrev eSet (w : World) : Obj := { cls := .type "set", dict := none, data := .set #[] 0 (.fresh 0 0 (!w.params.followText "set-order")) }
section
variable {P : Program} {w : World} {A : Around} {E : Value → Shared → Prop} {s : Shared}
set_option maxHeartbeats 6400000 in
theorem set_of_list {a : Addr} {vs : Array Value} (ns : List Int) {Q : Value → Shared → Prop} (quiet : A.handled = none) (ha : s.heap.IsList a vs) (hv : IntsAre vs.toList ns) (few : ns.length + 1 < scanBound)
    (h : ∀ (hp : Heap) (tk c : Nat), SetR w hp s.heap.objs.size (fun j => decide (j ∈ ns)) c → (∀ b o, s.heap.get? b = some o → hp.get? b = some o) → Q (.ref s.heap.objs.size) { s with heap := hp, toks := tk }) :
    wpAny (model P w) A (call (.type "set") [.ref a]) Q E s := by
  have size : vs.size = ns.length := by
    have z := IntsAre.length hv
    rwa [Array.length_toList] at z
  obtain ⟨c, tl, hmro⟩ := F.called_set.mro
  have made := F.called_set.made
  have sub := F.called_set.sub
  refine wpAny_call (codeAny_of_tree ?_)
  show wpAny _ _ (callAny (.type "set") _) _ _ _
  refine wpAny_pure ⟨Code.quiet_builtin _ (by decide +kernel), codeAny_builtin F.entry_type_call ?_⟩
  rw [Around.under_plain (weight_type_call_type "set" [.ref a] []) rfl]
  have no := F.called_set.notType
  have can := F.called_set.canCreate
  have chk := F.typeCall_set_1 (.ref a)
  repeat (any_goals (first | assumption | wp_step))
  refine codeAny_mono (code_set_led1 (.ref a) (E := E) (Q₁ := fun x t => x = .ref s.heap.objs.size ∧ t = { s with heap := s.heap.push (eSet w) }) ⟨rfl, rfl⟩) fun r t hr => ?_
  cases r with
  | error e => exact hr
  | ok fl =>
    cases fl with
    | ret x =>
      obtain ⟨rfl, rfl⟩ := hr
      have hS : (s.heap.push (eSet w)).get? s.heap.objs.size = some (eSet w) := Heap.get?_push_size _ rfl
      have hT : Shared.TypeIs { s with heap := s.heap.push (eSet w) } (.ref s.heap.objs.size) "set" := ⟨_, hS, rfl⟩
      have look := F.called_set.init.lookup
      have bind := F.called_set.init.bind (.ref s.heap.objs.size)
      repeat (any_goals (first | assumption | wp_step))
      refine codeAny_mono (codeAny_call_builtin (R := wants (fun r t => r = .none ∧ ∃ hp tk c, t = { s with heap := hp, toks := tk } ∧ SetR w hp s.heap.objs.size (fun j => decide (j ∈ ns)) c ∧ ∀ b o, s.heap.get? b = some o → hp.get? b = some o) E)
        F.called_set.init.plain F.entry_set_init (check_set_init_1 hT ?_)) fun r₂ s₂ hr₂ => ?_
      · obtain ⟨ol, hol, hcl, nl, hdl⟩ := ha
        obtain ⟨ocls, odict, odata, oslots⟩ := ol
        simp only at hcl hdl
        subst hcl
        subst hdl
        have hol' : (s.heap.push (eSet w)).get? a = some { cls := .type "list", dict := odict, data := .seq vs nl, slots := oslots } := Heap.get?_push_of_some _ hol
        have hsls := F.sub_list_set
        have hslf := F.sub_list_frozenset
        have hne : (Value.type "list" == Value.type "dict") = false := by decide
        have hl1 : (s.heap.push (eSet w)).IsList a vs := ⟨_, hol', rfl, nl, rfl⟩
        unfold Builtin.«set.__init__» noKeywords Builtin.Frozenset.updateFrom
        generalize hPI : pyIter = PI
        wp_walk
        subst hPI
        refine wpAny_pyIter_list hl1 (wpAny_bind (wpAny_runValue ?_))
        have lta : a < s.heap.objs.size := Heap.lt_size hol
        have nIt : a ≠ (s.heap.push (eSet w)).objs.size := by rw [Heap.size_push]; exact Nat.ne_of_lt (Nat.lt_succ_of_lt lta)
        have nS : s.heap.objs.size ∉ [(s.heap.push (eSet w)).objs.size, a] := by
          rw [Heap.size_push]
          intro z
          rcases List.mem_cons.mp z with z | z
          · exact absurd z (Nat.ne_of_lt (Nat.lt_succ_self _))
          · exact absurd (List.mem_singleton.mp z) (Nat.ne_of_gt lta)
        have val : ∀ (i : Nat) (v : Value), vs[i]? = some v → ∃ k t, ns[i]? = some k ∧ v = .int k t := fun i v hi => by
          have lt : i < ns.length := by rw [← size]; exact (Array.getElem?_eq_some_iff.mp hi).1
          obtain ⟨t, e⟩ := PyProof.Rows.IntsAre.int_at hv i v (by rw [Array.getElem?_toList]; exact hi)
          exact ⟨ns[i], t, List.getElem?_eq_getElem lt, by rw [e, List.getD_eq_getElem?_getD, List.getElem?_eq_getElem lt]; rfl⟩
        refine set_update_ints ((Walks.list (by simp [quiet]) _ a nIt vs).toS) s.heap.objs.size nS ns size few val (vs.size - 0) 0 _ (by omega) (Nat.zero_le _) ⟨⟨_, Heap.get?_push_size _ rfl, rfl, rfl⟩, hl1.push _⟩ ⟨0, Nat.le_refl 0, setR_new_at (Heap.get?_push_of_some _ hS)⟩ ?_
        intro t c' hm hc' hS'
        obtain ⟨hp, g2, d2, tk, os2⟩ := t
        obtain rfl : g2 = s.gens := hm.gens
        obtain rfl : d2 = s.drawn := hm.drawn
        obtain rfl : os2 = s.os := hm.os
        show wpAny _ _ _ _ _ _
        refine wpAny_pure ?_
        show wpAny _ _ (ret Value.none) _ _ _
        refine wpAny_pure ⟨rfl, hp, tk, c', rfl, hS', fun b o e => ?_⟩
        have lt := Heap.lt_size e
        refine hm.heap b o (fun z => ?_) (Heap.get?_push_of_some _ (Heap.get?_push_of_some _ e))
        rw [Heap.size_push] at z
        rcases List.mem_cons.mp z with z | z
        · exact absurd z (Nat.ne_of_lt lt)
        · exact absurd (List.mem_singleton.mp z) (Nat.ne_of_lt (Nat.lt_succ_of_lt lt))
      · cases r₂ with
        | error e => exact hr₂
        | ok f2 =>
          cases f2 with
          | ret r =>
            obtain ⟨rfl, hp, tk, c', rfl, hS', kept⟩ := hr₂
            repeat (any_goals (first | assumption | wp_step))
            exact h _ _ _ hS' kept
          | _ => exact hr₂.elim
    | _ => exact hr.elim
end
section
variable {X : Cx}
theorem ints_vals : ∀ {ns : List Int} {us : List Value}, Vals (ns.map V.int) us → IntsAre us ns
  | [], _, .nil => .nil
  | n :: ns, _, .cons r t => by
    obtain ⟨k, rfl⟩ := r
    exact .cons n k (ints_vals t)
/-- set(list or tuple of ints) -/
def rSetSeq (K : PySem.W.Frag) (w : World) : List V → Hp → VK → Prop := fun vs H Q => ∃ (a : Addr) (ns : List Int), vs = [.ref a] ∧ SeqOf K H a (ns.map V.int) ∧ ns.length ≤ 1000 ∧
  ∀ p c, H p = none → (∃ L : List Int, L.Nodup ∧ L.length = c ∧ ∀ k, k ∈ L ↔ k ∈ ns) → Q (.ref p) (upd H p (SetO w p (fun j => decide (j ∈ ns)) c))
theorem setR_list {h : Heap} {w : World} {a : Addr} {S : Int → Bool} {n : Nat} (R : SetR w h a S n) : ∃ L : List Int, L.Nodup ∧ L.length = n ∧ ∀ k, k ∈ L ↔ S k = true := by
  obtain ⟨o, es, ep, t, ho, hex, hd, g, nd, hm, hb, hf, hn, _⟩ := R
  exact ⟨es.toList.map keyOf, nd, by rw [List.length_map, Array.length_toList]; exact hn, fun k => (hm k).symm⟩
theorem cr_setSeq (hc : X.calm = true) : CallR X (.type "set") (rSetSeq X.K X.w) := by
  intro pins s σ H vs us Q I r h
  obtain ⟨a, ns, rfl, hq, hl, q⟩ := h
  rw [Vals.ref1 r]
  have few : ns.length + 1 < scanBound := Nat.lt_of_le_of_lt (Nat.succ_le_succ hl) (by decide)
  have fin : ∀ (hp : Heap) (tk c : Nat), SetR X.w hp s.heap.objs.size (fun j => decide (j ∈ ns)) c → (∀ b o, s.heap.get? b = some o → hp.get? b = some o) → EP X pins σ Q (.ref s.heap.objs.size) { s with heap := hp, toks := tk } := fun hp tk c R k => by
    obtain ⟨L, h1, h2, h3⟩ := setR_list R
    exact ⟨.ref _, upd H s.heap.objs.size (SetO X.w s.heap.objs.size (fun j => decide (j ∈ ns)) c), I.laid (t' := tk) (fun b u e => k b u e) (Nat.le_refl _) (setO_new R), rfl, q _ c (I.hok.fresh (Nat.le_refl _)) ⟨L, h1, h2, fun z => by rw [h3, decide_eq_true_eq]⟩⟩
  rcases hq with hq | hq
  · obtain ⟨its, r, pl, hz⟩ := I.list hq
    exact set_of_list ns (I.ok.hd hc) pl.isList (by simpa using ints_vals r) few fun hp tk c R k => fin hp tk c R k
  · obtain ⟨its, r, pl, hz⟩ := I.tuple hq
    exact call_set_tupI ns (I.ok.hd hc) pl (by simpa using ints_vals r) few fun hp tk c R _ k => fin hp tk c R k
/-- len(set) -/
theorem cr_lenSet : CallR X (.builtin "len") (fun vs H Q => ∃ a S n, vs = [V.ref a] ∧ H a = some (SetO X.w a S n) ∧ Q (.int (n : Nat)) H) := by
  intro pins s σ H vs us Q I r h
  obtain ⟨a, S, n, rfl, ha, q⟩ := h
  rw [Vals.ref1 r]
  obtain ⟨o, es, ep, t, ho, hex, hd, g, nd, hm, hb, hf, hn, _⟩ := setO_get I ha
  exact call_len_set ho hex hd hf (by have := scanBound; rw [hn]; rw [hn] at hb; exact Int.lt_trans (Int.ofNat_lt.mpr hb) (by decide)) ⟨.int (n : Nat), H, I.tok _, ⟨_, by rw [hn]⟩, q⟩
/-- c(*y), c a local one that holds an own class -/
theorem pe_clsS {CX : CXT} {k : Nat} {f C : Addr} {sp : Sp} {Ex : XK} {fe e : Expr} {te tf : TE} {p pos : Pos} (hf : PE X fe tf) (M : Mk X.K C f) (F : FnR X.prog X.w X.K X.mg X.base CX k f sp) (hr : Room (k + 1) X.A) (hx : Passes CX X Ex) (he : PE X e te)
    (hst : starEach [.Starred e p] X.env = [(true, eval e X.env)] := by rfl)
    (ht : eval (.Call fe [.Starred e p] [] pos) X.env = (do callWith pos (← eval fe X.env) [] (backTo pos (starEach [.Starred e p] X.env)) (backToKw pos (keywordEach [] X.env))) := by rfl) :
    PE X (.Call fe [.Starred e p] [] pos) (fun σ H Q => tf σ H fun y H1 => y = .ref C ∧ te σ H1 fun z H2 => ∃ a xs, z = V.ref a ∧ SeqOf X.K H2 a xs ∧ ∀ x dx, H2 x = none → H2 dx = none → dx ≠ x →
      sp (V.ref x :: xs) (upd (upd H2 dx (.own x)) x (.ins C dx [])) (fun v H3 => v = .non ∧ Q (.ref x) H3) Ex) := by
  refine ⟨fun pins s σ H Q I h => ?_⟩
  refine Call_ (thn (hf.run pins s σ H _ I h) fun u s1 ⟨y, H1, I1, ry, ey, q⟩ => ?_) ht
  subst ey
  obtain rfl : u = Value.ref C := ry
  refine PySem.W.callWith_S (h₀ := X.base) I.ok.mod.kin M.kp (thn (he.run pins s1 σ H1 _ I1 q) fun v s2 ⟨z, H2, I2, rz, a, xs, ez, hxs, q2⟩ => ?_) hst
  subst ez
  obtain rfl : v = Value.ref a := rz
  exact StX.star_any I2 hxs.symm fun us s3 I3 rv => ⟨I3.kIn, StX.run_makeR M F hr hx I3 rv q2⟩
end
end BgT
set_option Elab.async false
set_option linter.all false
set_option maxRecDepth 100000
set_option maxHeartbeats 4000000
namespace BgT
open PySem PySem.Spec PyProof.Rows L2
section
variable {P : Program} {w : World} {K : PySem.W.Frag} {mg : Str → Option Value} {base : Heap}
theorem nodup_len {L ns : List Int} (h : L.Nodup) (k : ns.Nodup) (e : ∀ z, z ∈ L ↔ z ∈ ns) : L.length = ns.length := by
  have p : L.Perm ns := by
    rw [List.perm_ext_iff_of_nodup h k]
    exact e
  exact p.length_eq
/-! ### are_operands, is_cell -/
theorem sc_are_operands : FnScope ["thing", "many", "cell"] ["thing", "many"] (defScope s_are_operands) := ⟨rfl, rfl, rfl, by decide +kernel, rfl, by decide +kernel, by decide +kernel⟩
theorem bd_are_operands {K : PySem.W.Frag} {mg : Str → Option Value} (T : Tx K mg) : Binds K (fdOf K (He.ga K "are_operands")) ["thing", "many"] [] := T.F_are_operands.bindsN (fun _ _ _ _ _ _ us hl => match us, hl with | [_, _], _ => rfl)
def sp_are_operands : Sp := fun vs H Q _ => ∃ (o : Addr) (ops : List Nat) (n : Nat), vs = [.ref o, .int (n : Nat)] ∧ H o = some (.tup (ops.map vn)) ∧ ops.Nodup ∧ (∀ x ∈ ops, x < n) ∧ ops.length ≤ 8 ∧ ∀ H', Same H H' → Q (.bl true) H'
theorem ok_are_operands (T : Tx K mg) : FO P w K mg base 2 (He.ga K "are_operands") ["thing", "many"] sp_are_operands := by
  refine T.F_are_operands.ok sc_are_operands (fun vs H Q E h => ?_) (fun cdv A outer s H vs Q E hr h => ?_)
  · obtain ⟨o, ops, n, rfl, _⟩ := h; rfl
  · obtain ⟨o, ops, n, rfl, ho, hnd, hlt, hl, q⟩ := h
    refine ⟨_, PSs.nox (pss_cons (ps_if (PW.pt (pw_or (pt_not (pt_val (pe_callB call_isi (by rfl) T.b_isinstance (by decide +kernel) (pa_cons (pv 0) (pa_cons (pe_bltn (v := .ty "tuple") (u := .type "tuple") (by rfl) T.b_tuple (by decide +kernel) rfl) pa_nil))))) (pw_or1 (pt_cmpR op_gt (pe_callB call_len_seq (by rfl) T.b_len (by decide +kernel) (pa_cons (pv 0) pa_nil)) (pe_const T.i_MOST_VALUES) (nomark _)))))
 (pss_one (ps_ret pe_bl))
 pss_nil)
 (pss_cons (ps_if (pt_not (pt_val (pe_callB (cr_all rfl) (by rfl) T.b_all (by decide +kernel) (pa_cons (pe_lc (own := [("cell", 2)]) (g := gName 2) rfl sc_are_operands.nd (pi_tup (pv 0)) (blkOk_by (own := [("cell", 2)]) (N := ["thing", "many", "cell"]) (sc := defScope s_are_operands) (by decide +kernel)) (fun _ _ _ _ _ => (pg_name (i := 2) sc_are_operands.nd rfl (by first | exact Or.inl rfl | exact Or.inr rfl))) (fun _ _ _ _ _ => pts_nil) (fun _ _ _ _ _ => (pe_and (pe_call (ok_is_integer T) (hr.mono (by decide)) rfl T.g_is_integer T.F_is_integer.kp (bd_is_integer T) .nil pass0 (pa_cons (pv 2) pa_nil)) (pe_one (pe_chain op_le op_lt pe_int (pv 2) (pv 1)))))) pa_nil))))
 (pss_one (ps_ret pe_bl))
 pss_nil)
 (pss_one (ps_ret (pe_cmpR op_eq (pe_callB cr_lenSet (by rfl) T.b_len (by decide +kernel) (pa_cons (pe_callTy (cr_setSeq rfl) (by rfl) T.b_set (by decide +kernel) (pa_cons (pv 0) pa_nil)) pa_nil)) (pe_callB call_len_seq (by rfl) T.b_len (by decide +kernel) (pa_cons (pv 0) pa_nil)) (nomark _)))))), ?_⟩
    refine ⟨_, rfl, _, _, .type "tuple", .type "tuple", true, rfl, .ty _, .base (.tup ho), kit_ty (by decide +kernel), true, rfl, iteF ?_⟩
    refine ⟨_, rfl, o, _, rfl, .inr (SqT.of ho), _, _, rfl, rfl, _, rfl, ?_⟩
    rw [decide_eq_false (by rw [List.length_map]; omega)]
    refine iteF ?_
    refine ⟨_, rfl, o, rfl, ⟨_, SqT.of ho⟩, fun D hD => ?_⟩
    refine walk_any (walk_tup (K := K) (a := o) (xs := ops.map vn)) (fun i H' => Same H H' ∧ H' D = some (.lst ((List.replicate i true).map V.bl))) ⟨same_upd hD, upd_same⟩ (fun i H' _ h => SqT.of (h.1 _ _ ho)) ?_ ?_
    · rintro i x H1 H1' hi ⟨s1, h1⟩ ⟨rfl, hx⟩
      obtain ⟨z, hz, rfl⟩ := map_at hx
      have hzn := hlt z (List.mem_of_getElem? hz)
      have hil := (List.getElem?_eq_some_iff.mp hz).1
      refine ⟨rfl, tyes ⟨_, rfl, _, rfl, true, rfl, iteT ⟨_, rfl, 0, _, rfl, rfl, true, ?_, iteT ⟨_, rfl, _, _, rfl, rfl, _, h1, small1000 (by rw [List.length_map, List.length_replicate]; omega), sameN s1 hD, ?_⟩⟩⟩⟩
      · show V.bl (decide ((0 : Int) ≤ (z : Int))) = V.bl true
        rw [decide_eq_true (by omega)]
      · rw [upd_same]
        show some (HO.lst (_ ++ [V.bl (decide ((z : Int) < (n : Int)))])) = _
        rw [decide_eq_true (by omega : (z : Int) < (n : Int)), List.replicate_succ']
        simp
    · rintro H1 ⟨s1, h1⟩
      refine ⟨D, List.replicate (ops.map vn).length true, rfl, SqL.of h1, true, by simp, iteF ?_⟩
      have ho1 := s1 _ _ ho
      refine ⟨_, rfl, o, ops.map (fun c : Nat => (c : Int)), rfl, .inr (SqT.of (by rw [List.map_map]; exact ho1)), by rw [List.length_map]; omega, fun p c hp hL => ?_⟩
      obtain ⟨L, h2, h3, h4⟩ := hL
      have hcl : c = ops.length := by
        have hnd2 : (ops.map (fun c : Nat => (c : Int))).Nodup := by
          rw [List.Nodup, List.pairwise_map]
          exact hnd.imp fun h e => h (by omega)
        have := nodup_len h2 hnd2 h4
        rw [List.length_map] at this
        omega
      subst hcl
      refine ⟨p, _, _, rfl, upd_same, _, rfl, o, _, rfl, .inr (SqT.of (by rw [upd_ne (ne_of_none ho1 hp)]; exact ho1)), rfl, ?_⟩
      rw [List.length_map, decide_eq_true rfl]
      exact q _ (sameN s1 (s1.free hp))
theorem sc_is_cell : FnScope ["thing", "many", "operands", "function", "guess"] ["thing", "many"] (defScope s_is_cell) := ⟨rfl, rfl, rfl, by decide +kernel, rfl, by decide +kernel, by decide +kernel⟩
theorem bd_is_cell {K : PySem.W.Frag} {mg : Str → Option Value} (T : Tx K mg) : Binds K (fdOf K (He.ga K "is_cell")) ["thing", "many"] [] := T.F_is_cell.bindsN (fun _ _ _ _ _ _ us hl => match us, hl with | [_, _], _ => rfl)
def sp_is_cell : Sp := fun vs H Q _ => ∃ (v : V) (r : Row) (n : Nat), vs = [v, .int (n : Nat)] ∧ TripAt H v r ∧ r.Ok n ∧ ∀ H', Same H H' → Q (.bl true) H'
theorem ok_is_cell (T : Tx K mg) : FO P w K mg base 4 (He.ga K "is_cell") ["thing", "many"] sp_is_cell := by
  refine T.F_is_cell.ok sc_is_cell (fun vs H Q E h => ?_) (fun cdv A outer s H vs Q E hr h => ?_)
  · obtain ⟨v, r, n, rfl, _⟩ := h; rfl
  · obtain ⟨v, r, n, rfl, ⟨a, o, f, rfl, ha, ho, hf⟩, hok, q⟩ := h
    refine ⟨_, PSs.nox (pss_cons (ps_if (PW.pt (pw_or (pt_not (pt_val (pe_callB call_isi (by rfl) T.b_isinstance (by decide +kernel) (pa_cons (pv 0) (pa_cons (pe_bltn (v := .ty "tuple") (u := .type "tuple") (by rfl) T.b_tuple (by decide +kernel) rfl) pa_nil))))) (pw_or1 (pt_cmpR op_ne (pe_callB call_len_seq (by rfl) T.b_len (by decide +kernel) (pa_cons (pv 0) pa_nil)) pe_int (nomark _)))))
 (pss_one (ps_ret pe_bl))
 pss_nil)
 (pss_cons (ps_asg (pv 0) (pg_tup rfl (pgs_cons (pg_name (i := 2) sc_is_cell.nd rfl (Or.inl rfl)) (pgs_cons (pg_name (i := 3) sc_is_cell.nd rfl (Or.inl rfl)) (pgs_cons (pg_name (i := 4) sc_is_cell.nd rfl (Or.inl rfl)) pgs_nil)))))
 (pss_one (ps_ret (pe_and (pe_call (ok_are_operands T) (hr.mono (by decide)) rfl T.g_are_operands T.F_are_operands.kp (bd_are_operands T) .nil pass0 (pa_cons (pv 2) (pa_cons (pv 1) pa_nil))) (pe_and (pe_call (ok_is_function T) (hr.mono (by decide)) rfl T.g_is_function T.F_is_function.kp (bd_is_function T) .nil pass0 (pa_cons (pv 3) pa_nil)) (pe_one (pe_call (ok_is_level T) (hr.mono (by decide)) rfl T.g_is_level T.F_is_level.kp (bd_is_level T) .nil pass0 (pa_cons (pv 4) pa_nil))))))))), ?_⟩
    refine ⟨_, rfl, _, _, .type "tuple", .type "tuple", true, rfl, .ty _, .base (.tup ha), kit_ty (by decide +kernel), true, rfl, iteF ?_⟩
    refine ⟨_, rfl, a, _, rfl, .inr (SqT.of ha), rfl, _, rfl, iteNS rfl ?_⟩
    refine ⟨_, rfl, a, _, rfl, SqT.of ha, rfl, _, _, rfl, _, _, rfl, _, _, rfl, rfl, ?_⟩
    refine ⟨_, rfl, _, rfl, o, r.ops, n, rfl, ho, hok.nd, hok.lt, hok.few, fun H1 s1 => ⟨true, rfl, iteT ?_⟩⟩
    exact ⟨_, rfl, f, r.fn, rfl, hf.same s1, hok.fn, fun H2 s2 => ⟨true, rfl, iteT ⟨_, rfl, r.gs, rfl, hok.gs, q _ (s1.trans s2)⟩⟩⟩
/-! ### System.__init__, System.of -/
theorem sc_System_init : FnScope ["self", "cells", "index", "cell"] ["self", "cells"] (defScope s_System_init) := ⟨rfl, rfl, rfl, by decide +kernel, rfl, by decide +kernel, by decide +kernel⟩

def sp_System_init (K : PySem.W.Frag) : Sp := fun vs H Q _ => ∃ (x dx p : Addr) (ws : List V) (rows : List Row), vs = [.ref x, .ref p] ∧ H x = some (.ins (He.ga K "System") dx []) ∧ H p = some (.tup ws) ∧ TripsAt H ws rows ∧ RowsOk rows ∧
  ∀ H', KeepX x H H' → H' x = some (.ins (He.ga K "System") dx [("triples", .ref p)]) → Q .non H'
theorem ok_System_init (T : Tx K mg) : FnR P w K mg base CX0 6 (He.ma K (He.ga K "System") "__init__") (spStar 1 (sp_System_init K)) := by
  refine okStar T.F_System_init sc_System_init (fun _ _ _ _ _ _ _ => rfl) (fun _ _ _ _ _ _ _ _ _ => rfl) (fun cdv A outer s H vs Q E hr h => ?_)
  · obtain ⟨x, dx, p, ws, rows, rfl, hx, hp, ht, hok, q⟩ := h
    refine ⟨_, PSs.nox (pss_cons (ps_if (pt_not (pt_chain op_le op_le pe_int (pe_callB call_len_seq (by rfl) T.b_len (by decide +kernel) (pa_cons (pv 1) pa_nil)) (pe_const T.i_MOST_IN_SYSTEM)))
 pss_never
 pss_nil)
 (pss_cons (ps_for PassesOwn.never rfl (pi_enumT (by rfl) T.b_enumerate (pa_cons (pv 1) pa_nil)) (pg_tup rfl (pgs_cons (pg_name (i := 2) sc_System_init.nd rfl (Or.inl rfl)) (pgs_cons (pg_name (i := 3) sc_System_init.nd rfl (Or.inl rfl)) pgs_nil)))
 (pss_one (ps_if (pt_not (pt_val (pe_call (ok_is_cell T) (hr.mono (by decide)) rfl T.g_is_cell T.F_is_cell.kp (bd_is_cell T) .nil pass0 (pa_cons (pv 3) (pa_cons (pe_callB call_len_seq (by rfl) T.b_len (by decide +kernel) (pa_cons (pv 1) pa_nil)) pa_nil)))))
 pss_never
 pss_nil)))
 (pss_one (ps_fld (pv 0) (pe_callTy call_tuple_of (by rfl) T.b_tuple (by decide +kernel) (pa_cons (pv 1) pa_nil)) rfl)))), ?_⟩
    have hl : ws.length = rows.length := ht.1
    refine ⟨_, rfl, p, _, rfl, .inr (SqT.of hp), _, _, rfl, rfl, _, rfl, ?_⟩
    rw [decide_eq_true (by have := hok.pos; omega)]
    refine iteT ⟨_, _, rfl, rfl, _, rfl, ?_⟩
    rw [decide_eq_true (by have := hok.le; omega)]
    refine iteF ?_
    refine ⟨_, rfl, p, _, rfl, SqT.of hp, ?_⟩
    refine for_it (walk_enumT (K := K) (a := p) (xs := ws)) (fun i σ H' => Same H H' ∧ ∃ a b, σ = [some (.ref x), some (.ref p), a, b]) ⟨Same.refl _, _, _, rfl⟩ (fun i σ H' _ h => SqT.of (h.1 _ _ hp)) ?_ ?_
    · rintro i y σ H1 H2 hi ⟨s1, a, b, rfl⟩ ⟨T', x1, x2, rfl, hT, rfl, e1, e2⟩
      have hil : i < rows.length := by rw [← hl]; exact hi
      obtain ⟨v, hv, htv⟩ := ht.2 i _ (List.getElem?_eq_getElem hil)
      have e2' : x2 = v := by
        have e2 : ws[i]? = some x2 := e2
        rw [hv] at e2; cases e2; rfl
      subst e2'
      have s2 : Same H (upd H1 T' (.tup [x1, x2])) := s1.trans (same_upd hT)
      refine ⟨_, _, rfl, SqT.of upd_same, rfl, _, _, rfl, _, _, rfl, rfl, ?_⟩
      refine ⟨_, rfl, _, rfl, p, _, rfl, .inr (SqT.of (s2 _ _ hp)), x2, _, rows.length, by rw [hl]; rfl, htv.same s2, hok.ok _ (List.getElem_mem hil), fun H3 s3 => ⟨true, rfl, iteF ⟨s2.trans s3, _, _, rfl⟩⟩⟩
    · rintro σ H1 ⟨s1, a, b, rfl⟩
      refine ⟨_, rfl, p, _, rfl, .inr ⟨SqT.of (s1 _ _ hp), _, rfl, x, _, _, _, rfl, s1 _ _ hx, T.cl_System, T.na_System_triples, (by simp), ?_⟩⟩
      exact q _ (fun y o hy h => by rw [upd_ne hy]; exact s1 _ _ h) upd_same
theorem sc_System_of : FnScope ["cls", "parts"] ["cls", "parts"] (defScope s_System_of) := ⟨rfl, rfl, rfl, by decide +kernel, rfl, by decide +kernel, by decide +kernel⟩
theorem bd_System_of (T : Tx K mg) : Binds K (fdOf K (gOf K)) ["cls", "parts"] [] := T.F_System_of.bindsN (fun _ _ _ _ _ _ us hl => match us, hl with | [_, _], _ => rfl)
def sp_System_of (K : PySem.W.Frag) : Sp := fun vs H Q _ => ∃ (p : Addr) (ws : List V) (rows : List Row), vs = [.ref (cSys K), .ref p] ∧ SeqOf K H p ws ∧ TripsAt H ws rows ∧ RowsOk rows ∧ ∀ H' x, Same H H' → SysAt K H' x rows → Q (.ref x) H'
theorem ok_System_of (T : Tx K mg) : FnOk P w K mg base CX0 8 (gOf K) (fdOf K (gOf K)) ["cls", "parts"] (sp_System_of K) := by
  refine T.F_System_of.ok sc_System_of (fun vs H Q E h => ?_) (fun cdv A outer s H vs Q E hr h => ?_)
  · obtain ⟨p, ws, rows, rfl, _⟩ := h; rfl
  · obtain ⟨p, ws, rows, rfl, hp, ht, hok, q⟩ := h
    refine ⟨_, PSs.nox (pss_one (ps_ret (pe_clsS (pv 0) T.mk_System (ok_System_init T) (hr.mono (by decide)) pass0 (pv 1)))), ?_⟩
    refine ⟨_, rfl, rfl, _, rfl, p, ws, rfl, hp, fun x dx hx hdx hne => ?_⟩
    have free : ∀ {y : Addr}, upd (upd H dx (.own x)) x (.ins (He.ga K "System") dx []) y = none → y ≠ x ∧ y ≠ dx ∧ H y = none := fun {y} h => by
      have h1 : y ≠ x := fun e => by rw [e, upd_same] at h; cases h
      have h2 : y ≠ dx := fun e => by rw [upd_ne h1, e, upd_same] at h; cases h
      exact ⟨h1, h2, by rwa [upd_ne h1, upd_ne h2] at h⟩
    have s1 : Same H (upd (upd H dx (.own x)) x (.ins (He.ga K "System") dx [])) := fun a o h => by rw [upd_ne (ne_of_none h hx), upd_ne (ne_of_none h hdx)]; exact h
    have hwl : ws.length ≤ sizeLine := Nat.le_of_lt (small1000 (by rw [ht.1]; have := hok.le; omega))
    refine ⟨[.ref x], ws, rfl, rfl, hwl, fun t htn => ?_⟩
    obtain ⟨n1, n2, n3⟩ := free htn
    have s2 := s1.trans (same_upd htn (o := .tup ws))
    refine ⟨x, dx, t, ws, rows, rfl, by rw [upd_ne (Ne.symm n1)]; exact upd_same, upd_same, ht.same s2, hok, fun H2 k2 hx2 => ⟨rfl, ?_⟩⟩
    have s3 : Same H H2 := fun a o h => k2 a o (ne_of_none h hx) (s2 a o h)
    exact q H2 x s3 ⟨dx, t, ws, hx2, k2 t _ n1 upd_same, ht.same s3⟩
/-! ### _law_web -/
theorem sc_law_web : FnScope ["_law_rows_here"] ["_law_rows_here"] (defScope s_law_web) := ⟨rfl, rfl, rfl, by decide +kernel, rfl, by decide +kernel, by decide +kernel⟩
theorem bd_law_web {K : PySem.W.Frag} {mg : Str → Option Value} (T : Tx K mg) : Binds K (fdOf K (He.ga K "_law_web")) ["_law_rows_here"] [] := T.F_law_web.bindsN (fun _ _ _ _ _ _ us hl => match us, hl with | [_], _ => rfl)
def sp_law_web (K : PySem.W.Frag) : Sp := fun vs H Q _ => ∃ (p : Addr) (ws : List V) (rows : List Row), vs = [.ref p] ∧ SeqOf K H p ws ∧ TripsAt H ws rows ∧ RowsOk rows ∧ ∀ H' x, Same H H' → SysAt K H' x rows → Q (.ref x) H'
theorem ok_law_web (T : Tx K mg) : FO P w K mg base 9 (He.ga K "_law_web") ["_law_rows_here"] (sp_law_web K) := by
  refine T.F_law_web.ok sc_law_web (fun vs H Q E h => ?_) (fun cdv A outer s H vs Q E hr h => ?_)
  · obtain ⟨p, ws, rows, rfl, _⟩ := h; rfl
  · obtain ⟨p, ws, rows, rfl, hp, ht, hok, q⟩ := h
    refine ⟨_, PSs.nox (pss_one (ps_ret (ClX.pe_cmeth (pe_glob (v := .ref (He.ga K "System")) rfl T.g_System rfl) T.crd T.cmt ((ok_System_of T).raw (bd_System_of T) .nil) (hr.mono (by decide)) pass0 (pa_cons (pv 0) pa_nil)))), ?_⟩
    exact ⟨rfl, _, rfl, p, ws, rows, rfl, hp, ht, hok, q⟩
end
end BgT
set_option Elab.async false
set_option linter.all false
set_option maxRecDepth 100000
set_option maxHeartbeats 4000000
namespace BgT
open PySem PySem.Spec PyProof.Rows L2
section
variable {P : Program} {w : World} {K : PySem.W.Frag} {mg : Str → Option Value} {base : Heap}
theorem cut63 {xs : List V} (h : xs.length ≤ 63) : cutV xs none (some 63) = xs := by
  unfold cutV
  have h1 : HT.sIx xs.length 0 none = 0 := rfl
  have h2 : HT.sIx xs.length xs.length (some 63) = xs.length := by
    unfold HT.sIx
    simp
    omega
  rw [h1, h2]
  simp
/-! ### the state of the draws -/
def Pen (H : Hp) (p q : Addr) (ns : List Int) (t : Nat) : Prop := ∃ g : Int, 0 ≤ g ∧ H p = some (.lst [.ref q, .int (t : Nat), .int g]) ∧ H q = some (.lst (ns.map V.int))
theorem Pen.ne {H : Hp} {p q : Addr} {ns : List Int} {t : Nat} (h : Pen H p q ns t) : q ≠ p := by
  obtain ⟨g, _, h1, h2⟩ := h
  refine ne_of h2 h1 fun e => ?_
  have e := HO.lst.inj e
  cases ns with
  | nil => cases e
  | cons a r => simp at e
theorem sc_law_pen : FnScope ["_law_script"] ["_law_script"] (defScope s_law_pen) := ⟨rfl, rfl, rfl, by decide +kernel, rfl, by decide +kernel, by decide +kernel⟩
theorem bd_law_pen {K : PySem.W.Frag} {mg : Str → Option Value} (T : Tx K mg) : Binds K (fdOf K (He.ga K "_law_pen")) ["_law_script"] [] := T.F_law_pen.bindsN (fun _ _ _ _ _ _ us hl => match us, hl with | [_], _ => rfl)
def sp_law_pen (K : PySem.W.Frag) : Sp := fun vs H Q _ => ∃ (a : Addr) (ns : List Int), vs = [.ref a] ∧ SqL K H a (ns.map V.int) ∧ ns.length ≤ 63 ∧ ∀ H' p q, Same H H' → H p = none → Pen H' p q ns 0 → Q (.ref p) H'
theorem ok_law_pen (T : Tx K mg) : FO P w K mg base 1 (He.ga K "_law_pen") ["_law_script"] (sp_law_pen K) := by
  refine T.F_law_pen.ok sc_law_pen (fun vs H Q E h => ?_) (fun cdv A outer s H vs Q E hr h => ?_)
  · obtain ⟨a, ns, rfl, _⟩ := h; rfl
  · obtain ⟨a, ns, rfl, ha, hl0, q⟩ := h
    refine ⟨_, PSs.nox (pss_one (ps_ret (pe_lst (pa_cons (pe_callTy call_list_of (by rfl) T.b_list (by decide +kernel) (pa_cons (pe_slice sl_list (pv 0) po_none (po_some pe_int)) pa_nil)) (pa_cons pe_int (pa_cons pe_int pa_nil)))))), ?_⟩
    refine ⟨_, rfl, 63, rfl, a, _, rfl, ha, fun c hc => ⟨c, _, rfl, .inl (SqL.of upd_same), fun l hl => ⟨sz3, fun p hp => ?_⟩⟩⟩
    rw [cut63 (by rw [List.length_map]; exact hl0)] at hl hp ⊢
    have s1 : Same H (upd H c (.lst (ns.map V.int))) := same_upd hc
    have s2 := sameN s1 (s1.free hl) (o := .lst (ns.map V.int))
    refine q _ p l (sameN s2 (s2.free hp)) (s2.free hp) ⟨0, by omega, upd_same, ?_⟩
    rw [upd_ne (ne_of_none upd_same hp)]
    exact upd_same
theorem sc_law_pick : FnScope ["_law_pen_here", "_law_many", "_law_digit", "_law_turn", "_law_mark", "_law_great", "_law_mixed"] ["_law_pen_here", "_law_many"] (defScope s_law_pick) := ⟨rfl, rfl, rfl, by decide +kernel, rfl, by decide +kernel, by decide +kernel⟩
theorem bd_law_pick {K : PySem.W.Frag} {mg : Str → Option Value} (T : Tx K mg) : Binds K (fdOf K (He.ga K "_law_pick")) ["_law_pen_here", "_law_many"] [] := T.F_law_pick.bindsN (fun _ _ _ _ _ _ us hl => match us, hl with | [_, _], _ => rfl)
def sp_law_pick : Sp := fun vs H Q _ => ∃ (p q : Addr) (ns : List Int) (t m : Nat), vs = [.ref p, .int (m : Nat)] ∧ Pen H p q ns t ∧ 1 ≤ m ∧ m ≤ 1000 ∧ t ≤ 500000 ∧
  ∀ H' (r t' : Nat), KeepX p H H' → Pen H' p q ns t' → t' ≤ t + 1 → r < m → Q (.int (r : Nat)) H'
theorem ok_law_pick (T : Tx K mg) : FO P w K mg base 1 (He.ga K "_law_pick") ["_law_pen_here", "_law_many"] sp_law_pick := by
  refine T.F_law_pick.ok sc_law_pick (fun vs H Q E h => ?_) (fun cdv A outer s H vs Q E hr h => ?_)
  · obtain ⟨p, q, ns, t, m, rfl, _⟩ := h; rfl
  · obtain ⟨p, q, ns, t, m, rfl, hP, hm1, hm2, ht, qq⟩ := h
    refine ⟨_, PSs.nox (pss_cons (ps_if (pt_cmpR op_gt (pe_ix ix_list (pv 0) pe_int (fun _ _ => rfl)) pe_int (nomark _))
 (pss_cons (ps_set (i := 2) sc_law_pick.nd rfl (Or.inl rfl) (pe_op op_modN (pe_ix ix_list (pv 0) pe_int (fun _ _ => rfl)) (pv 1)))
 (pss_cons (ps_asg (pe_op op_fdivN (pe_ix ix_list (pv 0) pe_int (fun _ _ => rfl)) (pv 1)) (pg_sub (pv 0) pe_int set_list))
 (pss_one (ps_ret (pv 2)))))
 pss_nil)
 (pss_cons (ps_set (i := 3) sc_law_pick.nd rfl (Or.inl rfl) (pe_ix ix_list (pv 0) pe_int (fun _ _ => rfl)))
 (pss_cons (ps_asg (pe_op op_add (pv 3) pe_int) (pg_sub (pv 0) pe_int set_list))
 (pss_cons (ps_set (i := 4) sc_law_pick.nd rfl (Or.inl rfl) (pe_op op_add (pe_op op_mul pe_int (pv 3)) pe_int))
 (pss_cons (ps_if (pt_cmpR (op_neNil hr.units) (pe_ix ix_list (pv 0) pe_int (fun _ _ => rfl)) (pe_lst pa_nil) (nomark _))
 (pss_one (ps_set (i := 4) sc_law_pick.nd rfl (Or.inl rfl) (pe_ix ix_list (pe_ix ix_list (pv 0) pe_int (fun _ _ => rfl)) (pe_op op_modN (pv 3) (pe_callB call_len_seq (by rfl) T.b_len (by decide +kernel) (pa_cons (pe_ix ix_list (pv 0) pe_int (fun _ _ => rfl)) pa_nil))) (fun _ _ => rfl))))
 pss_nil)
 (pss_cons (ps_if (PW.pt (pw_and (pt_cmpR op_lt (pv 3) (pe_callB call_len_seq (by rfl) T.b_len (by decide +kernel) (pa_cons (pe_ix ix_list (pv 0) pe_int (fun _ _ => rfl)) pa_nil)) (nomark _)) (pw_and1 (pt_cmpR op_ge (pe_callB call_abs (by rfl) T.b_abs (by decide +kernel) (pa_cons (pv 4) pa_nil)) (pe_op op_pow pe_int pe_int) (nomark _)))))
 (pss_cons (ps_set (i := 5) sc_law_pick.nd rfl (Or.inl rfl) (pe_op op_add (pe_op op_mul pe_int (pe_callB call_abs (by rfl) T.b_abs (by decide +kernel) (pa_cons (pv 4) pa_nil))) (pe_callTy call_int1 (by rfl) T.b_int (by decide +kernel) (pa_cons (pe_cmpR op_lt (pv 4) pe_int (nomark _)) pa_nil))))
 (pss_cons (ps_asg (pe_op op_fdivN (pv 5) (pv 1)) (pg_sub (pv 0) pe_int set_list))
 (pss_one (ps_ret (pe_op op_modN (pv 5) (pv 1))))))
 pss_nil)
 (pss_cons (ps_set (i := 6) sc_law_pick.nd rfl (Or.inl rfl) (pe_op op_modN (pe_op op_pow (pe_op op_add (pe_op op_add (pe_op op_add (pe_op op_modN (pv 4) pe_int) (pe_op op_mul pe_int (pv 3))) (pe_op op_mul (pe_op op_mul pe_int (pv 3)) (pv 3))) pe_int) pe_int) pe_int))
 (pss_cons (ps_set (i := 6) sc_law_pick.nd rfl (Or.inl rfl) (pe_op op_modN (pe_op op_pow (pe_op op_add (pe_op op_mul (pv 6) (pe_op op_add (pe_op op_mul pe_int (pv 3)) pe_int)) pe_int) pe_int) pe_int))
 (pss_one (ps_ret (pe_op op_modN (pe_op op_fdivN (pv 6) pe_int) (pv 1)))))))))))), ?_⟩
    have nqp := hP.ne
    obtain ⟨g, hg, hp, hq⟩ := hP
    have hmi : (1 : Int) ≤ (m : Int) := by omega
    -- the pen with another third part
    have fin : ∀ (H' : Hp) (t' : Nat) (g' r : Int), KeepX p H H' → H' p = some (.lst [.ref q, .int (t' : Nat), .int g']) → 0 ≤ g' → t' ≤ t + 1 → Q (.int (r.fmod m)) H' := fun H' t' g' r k h hg' ht' => by
      have h0 : 0 ≤ r.fmod m := Int.fmod_nonneg_of_pos r (by omega)
      have h1 : r.fmod m < m := Int.fmod_lt_of_pos r (by omega)
      obtain ⟨r0, hr0⟩ := Int.eq_ofNat_of_zero_le h0
      have := qq H' r0 t' k ⟨g', hg', h, k _ _ nqp hq⟩ ht' (by omega)
      rw [hr0]
      exact this
    refine ⟨_, rfl, p, _, _, _, rfl, rfl, SqL.of hp, atI_nat (j := 2) rfl, _, _, rfl, rfl, _, rfl, ?_⟩
    by_cases hg0 : g > 0
    · rw [decide_eq_true hg0]
      refine iteT ⟨_, rfl, p, _, _, _, rfl, rfl, SqL.of hp, atI_nat (j := 2) rfl, _, rfl, _, _, rfl, rfl, (by omega), ?_⟩
      refine ⟨_, rfl, p, _, _, _, rfl, rfl, SqL.of hp, atI_nat (j := 2) rfl, _, rfl, _, _, rfl, rfl, ⟨by omega, by omega⟩, _, rfl, p, _, _, 2, rfl, rfl, hp, rfl, ?_⟩
      refine ⟨_, rfl, ?_⟩
      refine fin _ t (g.fdiv m) g KeepX.refl.upd upd_same ?_ (by omega)
      rw [Int.fdiv_eq_ediv_of_nonneg _ (by omega)]
      exact Int.ediv_nonneg hg (by omega)
    · rw [decide_eq_false hg0]
      refine iteF ?_
      refine ⟨_, rfl, p, _, _, _, rfl, rfl, SqL.of hp, atI_nat (j := 1) rfl, ?_⟩
      refine ⟨_, rfl, _, _, rfl, rfl, _, rfl, p, _, _, 1, rfl, rfl, hp, rfl, ?_⟩
      have k1 : KeepX p H (upd H p (.lst [.ref q, .int ((t + 1 : Nat) : Int), .int g])) := KeepX.refl.upd
      have hp1 : upd H p (.lst [.ref q, .int ((t + 1 : Nat) : Int), .int g]) p = some (.lst [.ref q, .int ((t + 1 : Nat) : Int), .int g]) := upd_same
      have hq1 : upd H p (.lst [.ref q, .int ((t + 1 : Nat) : Int), .int g]) q = some (.lst (ns.map V.int)) := by rw [upd_ne nqp]; exact hq
      show tSeq _ _ _ _ (upd H p (.lst [.ref q, .int ((t + 1 : Nat) : Int), .int g]))
      generalize upd H p (.lst [.ref q, .int ((t + 1 : Nat) : Int), .int g]) = H1 at k1 hp1 hq1
      refine ⟨_, rfl, _, _, rfl, rfl, Or.inl ⟨by omega, by omega⟩, _, _, rfl, rfl, ?_⟩
      refine ⟨_, rfl, p, _, _, _, rfl, rfl, SqL.of hp1, atI_nat (j := 0) rfl, sz0, fun e he => ?_⟩
      have he0 := k1.free hp1 he
      have nep : e ≠ p := Ne.symm (ne_of_none hp1 he)
      have hp2 : upd H1 e (.lst []) p = some (.lst [.ref q, .int ((t + 1 : Nat) : Int), .int g]) := by rw [upd_ne (Ne.symm nep)]; exact hp1
      have hq2 : upd H1 e (.lst []) q = some (.lst (ns.map V.int)) := by rw [upd_ne (ne_of_none hq1 he)]; exact hq1
      refine ⟨q, e, _, ns.map PyData.int, 0, rfl, rfl, SqL.of hq2, dpAll_map _ _ (fun x => .int x) ns, fun d hd => ?_, by decide, SqL.of upd_same, _, rfl, ?_⟩
      · obtain ⟨c, _, rfl⟩ := List.mem_map.mp hd
        exact shal_int c
      have k2 : KeepX p H (upd H1 e (.lst [])) := k1.new he0
      generalize upd H1 e (.lst []) = H2 at hp2 hq2 k2
      by_cases hne : ns = []
      rw [show (!(ns.map V.int).isEmpty) = false from by rw [hne]; rfl]
      refine iteF ?_
      dsimp only
      generalize (48017 : Int) * ((t : Nat) : Int) + 83 = mk
      rotate_left
      rw [show (!(ns.map V.int).isEmpty) = true from by cases ns; exact absurd rfl hne; rfl]
      have hlen : 0 < ns.length := List.length_pos_iff.mpr hne
      have hj : ((t : Nat) : Int).fmod ((ns.map V.int).length : Nat) = ((t % ns.length : Nat) : Int) := by
        rw [List.length_map, Int.fmod_eq_emod_of_nonneg _ (by omega)]
        omega
      have hjl : t % ns.length < ns.length := Nat.mod_lt _ hlen
      refine iteT ⟨_, rfl, p, _, _, _, rfl, rfl, SqL.of hp2, atI_nat (j := 0) rfl, _, rfl, _, rfl, p, _, _, _, rfl, rfl, SqL.of hp2, atI_nat (j := 0) rfl, q, _, rfl, .inl (SqL.of hq2), _, _, rfl, rfl, (by rw [List.length_map]; omega), q, _, _, V.int (ns[t % ns.length]'hjl), rfl, rfl, SqL.of hq2, ?_, ?_⟩
      · rw [hj]
        exact atI_nat (by rw [List.getElem?_map, List.getElem?_eq_getElem hjl]; rfl)
      generalize ns[t % ns.length]'hjl = mk
      all_goals
        refine ⟨_, rfl, _, rfl, p, _, _, _, rfl, rfl, SqL.of hp2, atI_nat (j := 0) rfl, q, _, rfl, .inl (SqL.of hq2), _, _, rfl, rfl, _, rfl, ?_⟩
        have rest : ∀ (G : Prop), (G → G) := fun _ g => g
        have hz : 0 ≤ (5413 : Int) * (t : Nat) * (t : Nat) ∧ (5413 : Int) * (t : Nat) * (t : Nat) ≤ 1353250000000000 := by
          have h1 : 5413 * t * t ≤ 5413 * 500000 * 500000 := Nat.mul_le_mul (Nat.mul_le_mul_left 5413 ht) ht
          have h2 : ((5413 * t * t : Nat) : Int) = (5413 : Int) * (t : Nat) * (t : Nat) := by simp
          omega
        have hb1 : 0 ≤ mk.fmod 2147483549 ∧ mk.fmod 2147483549 < 2147483549 := ⟨Int.fmod_nonneg_of_pos _ (by omega), Int.fmod_lt_of_pos _ (by omega)⟩
        have hb2 : ∀ X : Int, 0 ≤ X.fmod 2147483647 ∧ X.fmod 2147483647 < 2147483647 := fun X => ⟨Int.fmod_nonneg_of_pos _ (by omega), Int.fmod_lt_of_pos _ (by omega)⟩
        have hb3 : ∀ X : Int, -(2 ^ 64) < X.fmod 2147483647 * (2 * (t : Nat) + 13) + 70021 ∧ X.fmod 2147483647 * (2 * (t : Nat) + 13) + 70021 < 2 ^ 64 := fun X => by
          obtain ⟨h1, h2⟩ := hb2 X
          have h3 : X.fmod 2147483647 * (2 * (t : Nat) + 13) ≤ 2147483647 * 1000013 := Int.mul_le_mul (by omega) (by omega) (by omega) (by omega)
          have h4 : 0 ≤ X.fmod 2147483647 * (2 * (t : Nat) + 13) := Int.mul_nonneg h1 (by omega)
          omega
        by_cases ht2 : ((t : Nat) : Int) < ((ns.map V.int).length : Nat)
        · rw [decide_eq_true ht2]
          refine iteT ⟨_, rfl, mk, rfl, _, _, rfl, rfl, ⟨by omega, by omega, by decide⟩, _, _, rfl, rfl, _, rfl, ?_⟩
          by_cases hab : (if mk < 0 then -mk else mk) ≥ 10 ^ (18 : Int).toNat
          · rw [decide_eq_true hab]
            refine iteT ?_
            have hgr : 0 ≤ 2 * (if mk < 0 then -mk else mk) + (if decide (mk < 0) = true then 1 else 0) := by
              have : 0 ≤ (if mk < 0 then -mk else mk) := by split <;> omega
              split <;> omega
            refine ⟨_, rfl, mk, rfl, _, _, rfl, rfl, Or.inl ⟨by omega, by omega⟩, _, rfl, _, _, rfl, rfl, .inr ⟨_, rfl, _, _, rfl, rfl, ?_⟩⟩
            refine ⟨_, rfl, _, rfl, _, _, rfl, rfl, ⟨by omega, by omega⟩, _, rfl, p, _, _, 2, rfl, rfl, hp2, rfl, ?_⟩
            refine ⟨_, rfl, _, rfl, _, _, rfl, rfl, (by omega), ?_⟩
            refine fin _ (t + 1) _ _ k2.upd upd_same ?_ (by omega)
            rw [Int.fdiv_eq_ediv_of_nonneg _ (by omega)]
            exact Int.ediv_nonneg hgr (by omega)
          · rw [decide_eq_false hab]
            refine iteF ?_
            refine ⟨_, rfl, _, _, rfl, rfl, (by omega), _, rfl, _, _, rfl, rfl, Or.inl ⟨by omega, by omega⟩, _, _, rfl, rfl, _, rfl, _, _, rfl, rfl, Or.inl ⟨by omega, by omega⟩, _, rfl, _, _, rfl, rfl, Or.inl ⟨by omega, by omega⟩, _, _, rfl, rfl, _, _, rfl, rfl, _, _, rfl, rfl, ⟨by omega, by omega, by omega⟩, _, _, rfl, rfl, (by omega), ?_⟩
            refine ⟨_, rfl, _, rfl, _, _, rfl, rfl, Or.inl ⟨by omega, by omega⟩, _, _, rfl, rfl, _, _, rfl, rfl, Or.inr ⟨by omega, by omega⟩, _, _, rfl, rfl, _, _, rfl, rfl, ⟨by omega, by omega, ?_⟩, _, _, rfl, rfl, (by omega), ?_⟩
            · have := hb3 ((mk.fmod 2147483549 + 41011 * ((t : Nat) : Int) + 5413 * ((t : Nat) : Int) * ((t : Nat) : Int) + 37) ^ (5 : Int).toNat)
              omega
            refine ⟨_, rfl, _, _, rfl, rfl, ⟨by omega, by omega⟩, _, rfl, _, _, rfl, rfl, (by omega), ?_⟩
            exact fin H2 (t + 1) g _ k2 hp2 hg (by omega)
        · rw [decide_eq_false ht2]
          refine iteF ?_
          refine ⟨_, rfl, _, _, rfl, rfl, (by omega), _, rfl, _, _, rfl, rfl, Or.inl ⟨by omega, by omega⟩, _, _, rfl, rfl, _, rfl, _, _, rfl, rfl, Or.inl ⟨by omega, by omega⟩, _, rfl, _, _, rfl, rfl, Or.inl ⟨by omega, by omega⟩, _, _, rfl, rfl, _, _, rfl, rfl, _, _, rfl, rfl, ⟨by omega, by omega, by omega⟩, _, _, rfl, rfl, (by omega), ?_⟩
          refine ⟨_, rfl, _, rfl, _, _, rfl, rfl, Or.inl ⟨by omega, by omega⟩, _, _, rfl, rfl, _, _, rfl, rfl, Or.inr ⟨by omega, by omega⟩, _, _, rfl, rfl, _, _, rfl, rfl, ⟨by omega, by omega, ?_⟩, _, _, rfl, rfl, (by omega), ?_⟩
          · have := hb3 ((mk.fmod 2147483549 + 41011 * ((t : Nat) : Int) + 5413 * ((t : Nat) : Int) * ((t : Nat) : Int) + 37) ^ (5 : Int).toNat)
            omega
          refine ⟨_, rfl, _, _, rfl, rfl, ⟨by omega, by omega⟩, _, rfl, _, _, rfl, rfl, (by omega), ?_⟩
          exact fin H2 (t + 1) g _ k2 hp2 hg (by omega)
end
end BgT
set_option Elab.async false
set_option linter.all false
set_option maxRecDepth 100000
set_option maxHeartbeats 4000000
namespace BgT
open PySem PySem.Spec PyProof.Rows L2
theorem KeepX.trans {x : Addr} {H H' H2 : Hp} (h : KeepX x H H') (k : KeepX x H' H2) : KeepX x H H2 := fun a o n e => k a o n (h a o n e)
theorem KeepX.of {x : Addr} {H H' : Hp} (s : Same H H') : KeepX x H H' := fun a o _ e => s a o e
theorem erase_map {α β : Type} (f : α → β) : ∀ (xs : List α) (i : Nat), (xs.map f).eraseIdx i = (xs.eraseIdx i).map f
  | [], _ => by simp
  | x :: xs, 0 => by simp
  | x :: xs, i + 1 => by simp [erase_map f xs i]
/-- what is no pen stays -/
theorem KeepX.tup {x a : Addr} {H H' : Hp} {xs ys : List V} (k : KeepX x H H') (hx : H x = some (.lst xs)) (h : H a = some (.tup ys)) : H' a = some (.tup ys) := k a _ (ne_of h hx (by simp)) h
theorem Pen.lst {H : Hp} {p q : Addr} {ns : List Int} {t : Nat} (h : Pen H p q ns t) : ∃ xs, H p = some (.lst xs) := let ⟨_, _, h, _⟩ := h; ⟨_, h⟩
theorem Pen.new {H : Hp} {p q b : Addr} {ns : List Int} {t : Nat} {o : HO} (h : Pen H p q ns t) (hb : H b = none) : Pen (upd H b o) p q ns t := by
  obtain ⟨g, h0, h1, h2⟩ := h
  exact ⟨g, h0, by rw [upd_ne (ne_of_none h1 hb)]; exact h1, by rw [upd_ne (ne_of_none h2 hb)]; exact h2⟩
theorem Pen.same {H H' : Hp} {p q : Addr} {ns : List Int} {t : Nat} (h : Pen H p q ns t) (s : Same H H') : Pen H' p q ns t := by
  obtain ⟨g, h0, h1, h2⟩ := h
  exact ⟨g, h0, s _ _ h1, s _ _ h2⟩
/-- a list that is neither is written -/
theorem Pen.other {H : Hp} {p q b : Addr} {ns : List Int} {t : Nat} {o : HO} (h : Pen H p q ns t) (h1 : b ≠ p) (h2 : b ≠ q) : Pen (upd H b o) p q ns t := by
  obtain ⟨g, h0, e1, e2⟩ := h
  exact ⟨g, h0, by rw [upd_ne (Ne.symm h1)]; exact e1, by rw [upd_ne (Ne.symm h2)]; exact e2⟩
theorem Pen.freshP {H : Hp} {p q b : Addr} {ns : List Int} {t : Nat} (h : Pen H p q ns t) (hb : H b = none) : b ≠ p ∧ b ≠ q := by
  obtain ⟨g, h0, e1, e2⟩ := h
  exact ⟨Ne.symm (ne_of_none e1 hb), Ne.symm (ne_of_none e2 hb)⟩
theorem KeepX.freeP {p q b : Addr} {H H' : Hp} {ns : List Int} {t : Nat} (k : KeepX p H H') (h : Pen H' p q ns t) (hb : H' b = none) : H b = none := let ⟨_, h⟩ := h.lst; k.free h hb
section
variable {P : Program} {w : World} {K : PySem.W.Frag} {mg : Str → Option Value} {base : Heap}
/-! ### _law_shuffled -/
theorem sc_law_shuffled : FnScope ["_law_pen_here", "_law_some", "_law_left", "_law_found"] ["_law_pen_here", "_law_some"] (defScope s_law_shuffled) := ⟨rfl, rfl, rfl, by decide +kernel, rfl, by decide +kernel, by decide +kernel⟩
theorem bd_law_shuffled {K : PySem.W.Frag} {mg : Str → Option Value} (T : Tx K mg) : Binds K (fdOf K (He.ga K "_law_shuffled")) ["_law_pen_here", "_law_some"] [] := T.F_law_shuffled.bindsN (fun _ _ _ _ _ _ us hl => match us, hl with | [_, _], _ => rfl)
def sp_law_shuffled : Sp := fun vs H Q _ => ∃ (p q a : Addr) (ns : List Int) (t : Nat) (xs : List Nat), vs = [.ref p, .ref a] ∧ Pen H p q ns t ∧ H a = some (.lst (xs.map vn)) ∧ xs.length ≤ 100 ∧ t ≤ 400000 ∧
  ∀ H' l (ys : List Nat) t', KeepX p H H' → H l = none → Pen H' p q ns t' → H' l = some (.lst (ys.map vn)) → ys.Perm xs → t' ≤ t + xs.length → Q (.ref l) H'
theorem ok_law_shuffled (T : Tx K mg) : FO P w K mg base 2 (He.ga K "_law_shuffled") ["_law_pen_here", "_law_some"] sp_law_shuffled := by
  refine T.F_law_shuffled.ok sc_law_shuffled (fun vs H Q E h => ?_) (fun cdv A outer s H vs Q E hr h => ?_)
  · obtain ⟨p, q, a, ns, t, xs, rfl, _⟩ := h; rfl
  · obtain ⟨p, q, a, ns, t, xs, rfl, hP, ha, hl, ht, qq⟩ := h
    refine ⟨_, PSs.nox (pss_cons (ps_set (i := 2) sc_law_shuffled.nd rfl (Or.inl rfl) (pe_callTy call_list_of (by rfl) T.b_list (by decide +kernel) (pa_cons (pv 1) pa_nil)))
 (pss_cons (ps_set (i := 3) sc_law_shuffled.nd rfl (Or.inl rfl) (pe_lst pa_nil))
 (pss_cons (ps_while PassesOwn.never (pt_cmpR (op_neNil hr.units) (pv 2) (pe_lst pa_nil) (nomark _))
 (pss_one (ps_expr (pe_bm PySem.F.plainAttrs_list PySem.F.slot_list_append PySem.F.type_list_append mt_append (pv 3) (pa_cons (pe_bm PySem.F.plainAttrs_list PySem.F.slot_list_pop PySem.F.type_list_pop mt_popAt (pv 2) (pa_cons (pe_call (ok_law_pick T) (hr.mono (by decide)) rfl T.g_law_pick T.F_law_pick.kp (bd_law_pick T) .nil pass0 (pa_cons (pv 0) (pa_cons (pe_callB call_len_seq (by rfl) T.b_len (by decide +kernel) (pa_cons (pv 2) pa_nil)) pa_nil))) pa_nil)) pa_nil)))))
 (pss_one (ps_ret (pv 3)))))), ?_⟩
    refine ⟨_, rfl, a, _, rfl, .inl (SqL.of ha), fun l hl0 => ?_⟩
    have h1l : upd H l (.lst (xs.map vn)) l = some (.lst (xs.map vn)) := upd_same
    have P1 := hP.new hl0 (o := .lst (xs.map vn))
    have k1 : KeepX p H (upd H l (.lst (xs.map vn))) := KeepX.refl.new hl0
    obtain ⟨nlp, nlq⟩ := hP.freshP hl0
    generalize upd H l (.lst (xs.map vn)) = H1 at h1l P1 k1
    refine ⟨Nat.zero_le _, fun f hf => ?_⟩
    obtain ⟨nfp, nfq⟩ := P1.freshP hf
    have hf0 := k1.freeP P1 hf
    have nlf : l ≠ f := ne_of_none h1l hf
    refine while_ne (fun σ H' => ∃ (L F : List Nat) (t' : Nat), σ = [some (.ref p), some (.ref a), some (.ref l), some (.ref f)] ∧ KeepX p H H' ∧ Pen H' p q ns t' ∧ H' l = some (.lst (L.map vn)) ∧ H' f = some (.lst (F.map vn)) ∧ (F ++ L).Perm xs ∧ t' ≤ t + F.length)
      (fun (σ : L2.St) (H' : Hp) => match H' l with | some (.lst a) => a.length | _ => 0)
      ⟨xs, [], t, rfl, k1.new hf0, P1.new hf, by rw [upd_ne nlf]; exact h1l, upd_same, .refl _, Nat.le_refl _⟩ ?_
    rintro σ H2 ⟨L, F, t', rfl, k2, P2, h2l, h2f, hperm, ht'⟩
    have hlen : F.length + L.length = xs.length := by rw [← List.length_append]; exact hperm.length_eq
    refine ⟨l, L.map vn, L.map pdC, 0, rfl, h2l, dpAll_cells L, shal_cells L, by decide, fun e he nle => ⟨dpAll_cells L, fun hne => ?_, fun hnil => ?_⟩⟩
    · have k3 : KeepX p H (upd H2 e (.lst [])) := k2.new (k2.freeP P2 he)
      have P3 := P2.new he (o := .lst [])
      have h3l : upd H2 e (.lst []) l = some (.lst (L.map vn)) := by rw [upd_ne nle]; exact h2l
      have h3f : upd H2 e (.lst []) f = some (.lst (F.map vn)) := by rw [upd_ne (ne_of_none h2f he)]; exact h2f
      have hLne : L ≠ [] := fun z => hne (by rw [z]; rfl)
      have hLpos : 0 < L.length := List.length_pos_iff.mpr hLne
      generalize upd H2 e (.lst []) = H3 at k3 P3 h3l h3f
      refine ⟨_, rfl, .inl ⟨rfl, _, SqL.of h3f⟩, _, rfl, .inl ⟨rfl, _, SqL.of h3l⟩, _, rfl, _, rfl, l, _, rfl, .inl (SqL.of h3l), ?_⟩
      refine ⟨p, q, ns, t', L.length, by rw [List.length_map]; rfl, P3, by omega, by omega, by omega, fun H4 r t4 k4 P4 ht4 hrl => ?_⟩
      have h4l := k4 _ _ nlp h3l
      have h4f := k4 _ _ nfp h3f
      have hrn : L[r]? = some (L[r]'hrl) := List.getElem?_eq_getElem hrl
      refine ⟨l, _, _, r, vn (L[r]'hrl), rfl, rfl, h4l, by omega, by omega, ?_, by rw [List.getElem?_map, hrn]; rfl, ?_⟩
      · unfold seqIndex?
        rw [List.length_map]
        simp
        omega
      have h5f : upd H4 l (.lst ((L.map vn).eraseIdx r)) f = some (.lst (F.map vn)) := by rw [upd_ne (Ne.symm nlf)]; exact h4f
      refine ⟨f, _, _, rfl, rfl, h5f, small1000 (by rw [List.length_map]; omega), ?_⟩
      rw [erase_map] at h5f ⊢
      have hpe : (L[r]'hrl :: L.eraseIdx r).Perm L := erase_perm L r _ hrn
      have hle2 : (L.eraseIdx r).length + 1 = L.length := by have := hpe.length_eq; simpa using this
      refine ⟨⟨L.eraseIdx r, F ++ [L[r]'hrl], t4, rfl, ?_, ?_, ?_, ?_, ?_, ?_⟩, ?_⟩
      · intro z o hz h
        have h4 := k3.trans k4 z o hz h
        rw [upd_ne (ne_of_none h hf0), upd_ne (ne_of_none h hl0)]
        exact h4
      · exact (P4.other nlp nlq).other nfp nfq
      · rw [upd_ne nlf]; exact upd_same
      · rw [upd_same]; simp
      · refine List.Perm.trans ?_ hperm
        rw [List.append_assoc]
        exact List.Perm.append_left F (by simpa using hpe)
      · simp; omega
      · show (match upd _ f _ l with | some (.lst a) => a.length | _ => 0) < (match H2 l with | some (.lst a) => a.length | _ => 0)
        rw [upd_ne nlf, upd_same, h2l]
        simp only [List.length_map]
        omega
    · have hL : L = [] := by simpa using hnil
      subst hL
      refine ⟨_, rfl, qq _ f F t' (k2.new (k2.freeP P2 he)) hf0 (P2.new he) (by rw [upd_ne (ne_of_none h2f he)]; exact h2f) (by simpa using hperm) ?_⟩
      simp at hlen
      omega
end
end BgT
set_option Elab.async false
set_option linter.all false
set_option maxRecDepth 100000
set_option maxHeartbeats 4000000
namespace BgT
open PySem PySem.Spec PyProof.Rows L2
section
variable {P : Program} {w : World} {K : PySem.W.Frag} {mg : Str → Option Value} {base : Heap}
theorem sz6 {a b c d e f : V} : [a, b, c, d, e, f].length ≤ sizeLine := (by decide : 6 ≤ sizeLine)
theorem sz7 {a b c d e f g : V} : [a, b, c, d, e, f, g].length ≤ sizeLine := (by decide : 7 ≤ sizeLine)
def kindN : Nat → Kind
  | 0 => .always
  | 1 => .max
  | 2 => .min
  | 3 => .sum
  | 4 => .turn
  | 5 => .choose
  | _ => .sum
theorem FnAt.keepX {x : Addr} {H H' : Hp} {v : V} {f : Fn} (h : FnAt H v f) (k : KeepX x H H') {xs : List V} (hx : H x = some (.lst xs)) : FnAt H' v f := by
  cases f with
  | lev q c => obtain ⟨a, e, h⟩ := h; exact ⟨a, e, k.tup hx h⟩
  | tab t => obtain ⟨a, b, e, h, q⟩ := h; exact ⟨a, b, e, k.tup hx h, k.tup hx q⟩
theorem lv_nat {s : Nat} (h : s < 8) : Bg.Lv (s : Int) := ⟨by omega, by omega⟩
/-! ### _law_rule -/
theorem sc_law_rule : FnScope ["_law_pen_here", "_law_calm", "_law_way", "_law_steep", "_law_k"] ["_law_pen_here", "_law_calm"] (defScope s_law_rule) := ⟨rfl, rfl, rfl, by decide +kernel, rfl, by decide +kernel, by decide +kernel⟩
theorem bd_law_rule {K : PySem.W.Frag} {mg : Str → Option Value} (T : Tx K mg) : Binds K (fdOf K (He.ga K "_law_rule")) ["_law_pen_here", "_law_calm"] [] := T.F_law_rule.bindsN (fun _ _ _ _ _ _ us hl => match us, hl with | [_, _], _ => rfl)
def sp_law_rule : Sp := fun vs H Q _ => ∃ (p q : Addr) (ns : List Int) (t : Nat) (b : Bool), vs = [.ref p, .bl b] ∧ Pen H p q ns t ∧ t ≤ 400000 ∧
  ∀ H' v f t', KeepX p H H' → Pen H' p q ns t' → t' ≤ t + 12 → FnAt H' v f → f.Ok → Q v H'
theorem ok_law_rule (T : Tx K mg) : FO P w K mg base 2 (He.ga K "_law_rule") ["_law_pen_here", "_law_calm"] sp_law_rule := by
  refine T.F_law_rule.ok sc_law_rule (fun vs H Q E h => ?_) (fun cdv A outer s H vs Q E hr h => ?_)
  · obtain ⟨p, q, ns, t, b, rfl, _⟩ := h; rfl
  · obtain ⟨p, q, ns, t, b, rfl, hP, ht, qq⟩ := h
    refine ⟨_, PSs.nox (pss_cons (ps_set (i := 2) sc_law_rule.nd rfl (Or.inl rfl) (pe_call (ok_law_pick T) (hr.mono (by decide)) rfl T.g_law_pick T.F_law_pick.kp (bd_law_pick T) .nil pass0 (pa_cons (pv 0) (pa_cons pe_int pa_nil))))
 (pss_cons (ps_if (PW.pt (pw_and (pt_val (pv 1)) (pw_and1 (pt_cmpR op_lt (pv 2) pe_int (nomark _)))))
 (pss_cons (ps_set (i := 3) sc_law_rule.nd rfl (Or.inl rfl) (pe_call (ok_law_pick T) (hr.mono (by decide)) rfl T.g_law_pick T.F_law_pick.kp (bd_law_pick T) .nil pass0 (pa_cons (pv 0) (pa_cons pe_int pa_nil))))
 (pss_one (ps_ret (pe_ix ix_list (pe_lst (pa_cons (pe_tup (pa_cons pe_str (pa_cons pe_int pa_nil))) (pa_cons (pe_tup (pa_cons pe_str (pa_cons pe_int pa_nil))) (pa_cons (pe_tup (pa_cons pe_str (pa_cons (pv 3) pa_nil))) (pa_cons (pe_tup (pa_cons pe_str (pa_cons (pe_op op_repA (pe_tup (pa_cons (pv 3) pa_nil)) pe_int) pa_nil))) (pa_cons (pe_tup (pa_cons pe_str (pa_cons pe_int pa_nil))) (pa_cons (pe_tup (pa_cons pe_str (pa_cons (pv 3) pa_nil))) pa_nil))))))) (pv 2) (fun _ _ => rfl)))))
 pss_nil)
 (pss_cons (ps_if (pt_cmpR op_gt (pv 2) pe_int (nomark _))
 (pss_one (ps_ret (pe_tup (pa_cons pe_str (pa_cons (pe_callTy call_tuple_of (by rfl) T.b_tuple (by decide +kernel) (pa_cons (pe_lc (own := [("_law_k", 4)]) (g := gName 4) rfl sc_law_rule.nd (pi_range1 rfl T.b_range (pa_cons pe_int pa_nil)) (blkOk_by (own := [("_law_k", 4)]) (N := ["_law_pen_here", "_law_calm", "_law_way", "_law_steep", "_law_k"]) (sc := defScope s_law_rule) (by decide +kernel)) (fun _ _ _ _ _ => (pg_name (i := 4) sc_law_rule.nd rfl (by first | exact Or.inl rfl | exact Or.inr rfl))) (fun _ _ _ _ _ => pts_nil) (fun _ _ _ _ _ => (pe_call (ok_law_pick T) (hr.mono (by decide)) rfl T.g_law_pick T.F_law_pick.kp (bd_law_pick T) .nil pass0 (pa_cons (pv 0) (pa_cons pe_int pa_nil))))) pa_nil)) pa_nil)))))
 pss_nil)
 (pss_one (ps_ret (pe_tup (pa_cons (pe_ix ix_list (pe_lst (pa_cons pe_str (pa_cons pe_str (pa_cons pe_str (pa_cons pe_str (pa_cons pe_str (pa_cons pe_str (pa_cons pe_str pa_nil)))))))) (pv 2) (fun _ _ => rfl)) (pa_cons (pe_call (ok_law_pick T) (hr.mono (by decide)) rfl T.g_law_pick T.F_law_pick.kp (bd_law_pick T) .nil pass0 (pa_cons (pv 0) (pa_cons (pe_ix ix_list (pe_lst (pa_cons pe_int (pa_cons pe_int pa_nil))) (pe_call (ok_law_pick T) (hr.mono (by decide)) rfl T.g_law_pick T.F_law_pick.kp (bd_law_pick T) .nil pass0 (pa_cons (pv 0) (pa_cons pe_int pa_nil))) (fun _ _ => rfl)) pa_nil))) pa_nil)))))))), ?_⟩
    refine ⟨_, rfl, p, q, ns, t, 9, rfl, hP, by omega, by omega, by omega, fun H1 r t1 k1 P1 ht1 hr9 => ?_⟩
    by_cases calmC : b = true ∧ r < 6
    · obtain ⟨rfl, hr6⟩ := calmC
      refine ⟨_, rfl, true, rfl, iteT ⟨_, rfl, _, _, rfl, rfl, _, rfl, ?_⟩⟩
      rw [decide_eq_true (by omega)]
      refine iteT ⟨_, rfl, p, q, ns, t1, 8, rfl, P1, by omega, by omega, by omega, fun H2 s2 t2 k2 P2 ht2 hs8 => ?_⟩
      have k02 := k1.trans k2
      refine ⟨sz2, fun a1 h1 => ⟨sz2, fun a2 h2 => ⟨_, rfl, sz2, fun a3 h3 => ⟨_, rfl, sz1, fun x hx => ⟨x, _, _, rfl, rfl, upd_same, by simp, by omega, by omega, by simp, fun H3 y s3 hy => ?_⟩⟩⟩⟩⟩
      have g1 := ((same_upd h2 (o := .tup [.str "min", .int 0])).trans (same_upd h3 (o := .tup [.str "always", .int (s2 : Nat)]))).trans ((same_upd hx (o := .tup [.int (s2 : Nat)])).trans s3)
      have f1 : H3 a1 = some (.tup [.str "max", .int 7]) := g1 _ _ upd_same
      have f2 : H3 a2 = some (.tup [.str "min", .int 0]) := ((same_upd h3 (o := .tup [.str "always", .int (s2 : Nat)])).trans ((same_upd hx (o := .tup [.int (s2 : Nat)])).trans s3)) _ _ upd_same
      have f3 : H3 a3 = some (.tup [.str "always", .int (s2 : Nat)]) := ((same_upd hx (o := .tup [.int (s2 : Nat)])).trans s3) _ _ upd_same
      have sH : Same H2 H3 := ((same_upd h1 (o := .tup [.str "max", .int 7])).trans g1)
      have fy : H3 y = some (.tup ((List.replicate 8 (s2 : Int)).map V.int)) := by
        rw [hy]
        rfl
      clear hy s3 g1 hx h3 h2 h1
      refine ⟨sz2, fun a4 h4 => ⟨sz2, fun a5 h5 => ⟨_, rfl, sz2, fun a6 h6 => ⟨sz6, fun L hL => ?_⟩⟩⟩⟩
      have g4 := (same_upd h5 (o := .tup [.str "sum", .int 7])).trans ((same_upd h6 (o := .tup [.str "max", .int (s2 : Nat)])).trans (same_upd hL (o := .lst [.ref a1, .ref a2, .ref a3, .ref a4, .ref a5, .ref a6])))
      have f4 := g4 _ _ (upd_same (H := H3) (a := a4) (o := .tup [.str "table", .ref y]))
      have f5 := ((same_upd h6 (o := .tup [.str "max", .int (s2 : Nat)])).trans (same_upd hL (o := .lst [.ref a1, .ref a2, .ref a3, .ref a4, .ref a5, .ref a6]))) _ _ upd_same
      have f6 := (same_upd hL (o := .lst [.ref a1, .ref a2, .ref a3, .ref a4, .ref a5, .ref a6])) _ _ upd_same
      have sF := (same_upd h4 (o := .tup [.str "table", .ref y])).trans g4
      have kF := (k02.trans (KeepX.of sH)).trans (KeepX.of sF)
      have PF := (P2.same sH).same sF
      have fL : upd _ L (.lst [.ref a1, .ref a2, .ref a3, .ref a4, .ref a5, .ref a6]) L = _ := upd_same (H := upd (upd (upd H3 a4 (.tup [.str "table", .ref y])) a5 (.tup [.str "sum", .int 7])) a6 (.tup [.str "max", .int (s2 : Nat)])) (a := L)
      generalize upd (upd (upd (upd H3 a4 (.tup [.str "table", .ref y])) a5 (.tup [.str "sum", .int 7])) a6 (.tup [.str "max", .int (s2 : Nat)])) L (.lst [.ref a1, .ref a2, .ref a3, .ref a4, .ref a5, .ref a6]) = H4 at f4 f5 f6 sF kF PF fL
      have ls := lv_nat hs8
      match r, hr6 with
      | 0, _ => exact ⟨_, rfl, L, _, _, _, rfl, rfl, SqL.of fL, atI_nat (j := 0) rfl, qq _ _ (.lev .max 7) t2 kF PF (by omega) ⟨a1, rfl, sF _ _ f1⟩ ⟨by decide, by decide⟩⟩
      | 1, _ => exact ⟨_, rfl, L, _, _, _, rfl, rfl, SqL.of fL, atI_nat (j := 1) rfl, qq _ _ (.lev .min 0) t2 kF PF (by omega) ⟨a2, rfl, sF _ _ f2⟩ ⟨by decide, by decide⟩⟩
      | 2, _ => exact ⟨_, rfl, L, _, _, _, rfl, rfl, SqL.of fL, atI_nat (j := 2) rfl, qq _ _ (.lev .always s2) t2 kF PF (by omega) ⟨a3, rfl, sF _ _ f3⟩ ls⟩
      | 3, _ => exact ⟨_, rfl, L, _, _, _, rfl, rfl, SqL.of fL, atI_nat (j := 3) rfl, qq _ _ (.tab (List.replicate 8 (s2 : Int))) t2 kF PF (by omega) ⟨a4, y, rfl, f4, sF _ _ fy⟩ ⟨by simp, fun x hx => by rw [(List.mem_replicate.mp hx).2]; exact ls⟩⟩
      | 4, _ => exact ⟨_, rfl, L, _, _, _, rfl, rfl, SqL.of fL, atI_nat (j := 4) rfl, qq _ _ (.lev .sum 7) t2 kF PF (by omega) ⟨a5, rfl, f5⟩ ⟨by decide, by decide⟩⟩
      | 5, _ => exact ⟨_, rfl, L, _, _, _, rfl, rfl, SqL.of fL, atI_nat (j := 5) rfl, qq _ _ (.lev .max s2) t2 kF PF (by omega) ⟨a6, rfl, f6⟩ ls⟩
    · refine ⟨_, rfl, b, rfl, ?_⟩
      cases hb : b
      rotate_left
      · have hr6 : ¬ r < 6 := fun z => calmC ⟨hb, z⟩
        refine iteT ⟨_, rfl, _, _, rfl, rfl, _, rfl, ?_⟩
        rw [decide_eq_false (by omega)]
        refine iteF ?_
        refine ⟨_, rfl, _, _, rfl, rfl, _, rfl, ?_⟩
        by_cases hr7 : (6 : Int) < (r : Nat)
        · rw [decide_eq_true hr7]
          refine iteT ⟨8, rfl, by omega, by omega, fun D hD => ?_⟩
          obtain ⟨nDp, nDq⟩ := P1.freshP hD
          refine walk_any (walk_range (lo := 0) (n := 8)) (fun i H' => ∃ t' xs, KeepX p H1 H' ∧ Pen H' p q ns t' ∧ t' ≤ t1 + i ∧ H' D = some (.lst (xs.map V.int)) ∧ xs.length = i ∧ ∀ x ∈ xs, Bg.Lv x)
            ⟨t1, [], KeepX.refl.new hD, P1.new hD, by omega, upd_same, rfl, by simp⟩ (fun _ _ _ _ => trivial) ?_ ?_
          · rintro i x H2 H2' hi ⟨t2, xs, k2, P2, ht2, h2, hxl, hxs⟩ ⟨rfl, rfl⟩
            refine ⟨rfl, tyes ⟨_, rfl, p, q, ns, t2, 8, rfl, P2, by omega, by omega, by omega, fun H3 s3 t3 k3 P3 ht3 hs3 => ?_⟩⟩
            have h3 := k3 _ _ nDp h2
            refine ⟨_, h3, small1000 (by rw [List.length_map]; omega), t3, xs ++ [(s3 : Int)], fun z o hz h => ?_, P3.other nDp nDq, by omega, by rw [upd_same]; simp, by simp [hxl], fun x hx => ?_⟩
            · rw [upd_ne (ne_of_none h hD)]
              exact k3 _ _ hz (k2 _ _ hz h)
            · rcases List.mem_append.mp hx with hx | hx
              · exact hxs x hx
              · simp at hx; subst hx; exact lv_nat hs3
          · rintro H2 ⟨t2, xs, k2, P2, ht2, h2, hxl, hxs⟩
            refine ⟨D, _, rfl, .inl ⟨SqL.of h2, fun l hl => ⟨sz2, fun a ha => ?_⟩⟩⟩
            have s2 := (same_upd hl (o := .tup (xs.map V.int))).trans (same_upd ha (o := .tup [.str "table", .ref l]))
            exact qq _ _ (.tab xs) t2 (k1.trans (k2.trans (KeepX.of s2))) (P2.same s2) (by omega) ⟨a, l, rfl, upd_same, by rw [upd_ne (ne_of_none upd_same ha)]; exact upd_same⟩ ⟨hxl, hxs⟩
        · rw [decide_eq_false hr7]
          refine iteF ⟨sz7, fun L hL => ?_⟩
          have s1 : Same H1 _ := same_upd hL (o := .lst [.str "always", .str "max", .str "min", .str "sum", .str "turn", .str "choose", .str "sum"])
          have fL : upd H1 L (.lst [.str "always", .str "max", .str "min", .str "sum", .str "turn", .str "choose", .str "sum"]) L = some (.lst [.str "always", .str "max", .str "min", .str "sum", .str "turn", .str "choose", .str "sum"]) := upd_same
          generalize upd H1 L (.lst [.str "always", .str "max", .str "min", .str "sum", .str "turn", .str "choose", .str "sum"]) = H2 at s1 fL
          have hkind : ([.str "always", .str "max", .str "min", .str "sum", .str "turn", .str "choose", .str "sum"] : List V)[r]? = some (.str (kindN r).nm) := by
            have : r < 7 := by omega
            match r, this with
            | 0, _ => rfl
            | 1, _ => rfl
            | 2, _ => rfl
            | 3, _ => rfl
            | 4, _ => rfl
            | 5, _ => rfl
            | 6, _ => rfl
          refine ⟨_, rfl, L, _, _, _, rfl, rfl, SqL.of fL, atI_nat hkind, ?_⟩
          refine ⟨_, rfl, sz2, fun M hM => ?_⟩
          have s2 : Same H2 _ := same_upd hM (o := .lst [.int 8, .int 3])
          have fM : upd H2 M (.lst [.int 8, .int 3]) M = some (.lst [.int 8, .int 3]) := upd_same
          have P2 := (P1.same s1).same s2
          obtain ⟨nMp, nMq⟩ := (P1.same s1).freshP hM
          generalize upd H2 M (.lst [.int 8, .int 3]) = H3 at s2 fM P2
          refine ⟨_, rfl, p, q, ns, t1, 2, rfl, P2, by omega, by omega, by omega, fun H4 z t4 k4 P4 ht4 hz2 => ?_⟩
          have f4 := k4 _ _ nMp fM
          obtain ⟨m, hm, h1, h8⟩ : ∃ m : Nat, ([.int 8, .int 3] : List V)[z]? = some (.int (m : Nat)) ∧ 1 ≤ m ∧ m ≤ 8 := by
            match z, hz2 with
            | 0, _ => exact ⟨8, rfl, by omega, by omega⟩
            | 1, _ => exact ⟨3, rfl, by omega, by omega⟩
          exact ⟨M, _, _, _, rfl, rfl, SqL.of f4, atI_nat hm, p, q, ns, t4, m, rfl, P4, h1, by omega, by omega, fun H5 c t5 k5 P5 ht5 hc => ⟨sz2, fun a ha => qq _ _ (.lev (kindN r) c) t5 (((k1.trans (KeepX.of s1)).trans (KeepX.of s2)).trans (k4.trans (k5.trans (KeepX.of (same_upd ha))))) (P5.new ha) (by omega) ⟨a, rfl, upd_same⟩ (lv_nat (by omega))⟩⟩
      · refine iteF ?_
        refine ⟨_, rfl, _, _, rfl, rfl, _, rfl, ?_⟩
        by_cases hr7 : (6 : Int) < (r : Nat)
        · rw [decide_eq_true hr7]
          refine iteT ⟨8, rfl, by omega, by omega, fun D hD => ?_⟩
          obtain ⟨nDp, nDq⟩ := P1.freshP hD
          refine walk_any (walk_range (lo := 0) (n := 8)) (fun i H' => ∃ t' xs, KeepX p H1 H' ∧ Pen H' p q ns t' ∧ t' ≤ t1 + i ∧ H' D = some (.lst (xs.map V.int)) ∧ xs.length = i ∧ ∀ x ∈ xs, Bg.Lv x)
            ⟨t1, [], KeepX.refl.new hD, P1.new hD, by omega, upd_same, rfl, by simp⟩ (fun _ _ _ _ => trivial) ?_ ?_
          · rintro i x H2 H2' hi ⟨t2, xs, k2, P2, ht2, h2, hxl, hxs⟩ ⟨rfl, rfl⟩
            refine ⟨rfl, tyes ⟨_, rfl, p, q, ns, t2, 8, rfl, P2, by omega, by omega, by omega, fun H3 s3 t3 k3 P3 ht3 hs3 => ?_⟩⟩
            have h3 := k3 _ _ nDp h2
            refine ⟨_, h3, small1000 (by rw [List.length_map]; omega), t3, xs ++ [(s3 : Int)], fun z o hz h => ?_, P3.other nDp nDq, by omega, by rw [upd_same]; simp, by simp [hxl], fun x hx => ?_⟩
            · rw [upd_ne (ne_of_none h hD)]
              exact k3 _ _ hz (k2 _ _ hz h)
            · rcases List.mem_append.mp hx with hx | hx
              · exact hxs x hx
              · simp at hx; subst hx; exact lv_nat hs3
          · rintro H2 ⟨t2, xs, k2, P2, ht2, h2, hxl, hxs⟩
            refine ⟨D, _, rfl, .inl ⟨SqL.of h2, fun l hl => ⟨sz2, fun a ha => ?_⟩⟩⟩
            have s2 := (same_upd hl (o := .tup (xs.map V.int))).trans (same_upd ha (o := .tup [.str "table", .ref l]))
            exact qq _ _ (.tab xs) t2 (k1.trans (k2.trans (KeepX.of s2))) (P2.same s2) (by omega) ⟨a, l, rfl, upd_same, by rw [upd_ne (ne_of_none upd_same ha)]; exact upd_same⟩ ⟨hxl, hxs⟩
        · rw [decide_eq_false hr7]
          refine iteF ⟨sz7, fun L hL => ?_⟩
          have s1 : Same H1 _ := same_upd hL (o := .lst [.str "always", .str "max", .str "min", .str "sum", .str "turn", .str "choose", .str "sum"])
          have fL : upd H1 L (.lst [.str "always", .str "max", .str "min", .str "sum", .str "turn", .str "choose", .str "sum"]) L = some (.lst [.str "always", .str "max", .str "min", .str "sum", .str "turn", .str "choose", .str "sum"]) := upd_same
          generalize upd H1 L (.lst [.str "always", .str "max", .str "min", .str "sum", .str "turn", .str "choose", .str "sum"]) = H2 at s1 fL
          have hkind : ([.str "always", .str "max", .str "min", .str "sum", .str "turn", .str "choose", .str "sum"] : List V)[r]? = some (.str (kindN r).nm) := by
            have : r < 7 := by omega
            match r, this with
            | 0, _ => rfl
            | 1, _ => rfl
            | 2, _ => rfl
            | 3, _ => rfl
            | 4, _ => rfl
            | 5, _ => rfl
            | 6, _ => rfl
          refine ⟨_, rfl, L, _, _, _, rfl, rfl, SqL.of fL, atI_nat hkind, ?_⟩
          refine ⟨_, rfl, sz2, fun M hM => ?_⟩
          have s2 : Same H2 _ := same_upd hM (o := .lst [.int 8, .int 3])
          have fM : upd H2 M (.lst [.int 8, .int 3]) M = some (.lst [.int 8, .int 3]) := upd_same
          have P2 := (P1.same s1).same s2
          obtain ⟨nMp, nMq⟩ := (P1.same s1).freshP hM
          generalize upd H2 M (.lst [.int 8, .int 3]) = H3 at s2 fM P2
          refine ⟨_, rfl, p, q, ns, t1, 2, rfl, P2, by omega, by omega, by omega, fun H4 z t4 k4 P4 ht4 hz2 => ?_⟩
          have f4 := k4 _ _ nMp fM
          obtain ⟨m, hm, h1, h8⟩ : ∃ m : Nat, ([.int 8, .int 3] : List V)[z]? = some (.int (m : Nat)) ∧ 1 ≤ m ∧ m ≤ 8 := by
            match z, hz2 with
            | 0, _ => exact ⟨8, rfl, by omega, by omega⟩
            | 1, _ => exact ⟨3, rfl, by omega, by omega⟩
          exact ⟨M, _, _, _, rfl, rfl, SqL.of f4, atI_nat hm, p, q, ns, t4, m, rfl, P4, h1, by omega, by omega, fun H5 c t5 k5 P5 ht5 hc => ⟨sz2, fun a ha => qq _ _ (.lev (kindN r) c) t5 (((k1.trans (KeepX.of s1)).trans (KeepX.of s2)).trans (k4.trans (k5.trans (KeepX.of (same_upd ha))))) (P5.new ha) (by omega) ⟨a, rfl, upd_same⟩ (lv_nat (by omega))⟩⟩
end
end BgT
set_option Elab.async false
set_option linter.all false
set_option maxRecDepth 100000
set_option maxHeartbeats 4000000
namespace BgT
open PySem PySem.Spec PyProof.Rows L2
theorem rep01 {xs : List Nat} {c : Bool} : (List.replicate (if c = true then (1 : Int) else 0).toNat (xs.map vn)).flatten = (if c = true then xs else []).map vn := by
  cases c
  · rfl
  · show (List.replicate 1 (xs.map vn)).flatten = xs.map vn
    simp
theorem rep_le {n : Nat} {c : Bool} (h : n ≤ 1000) : n * (if c = true then (1 : Int) else 0).toNat ≤ sizeLine := by
  have : n * (if c = true then (1 : Int) else 0).toNat ≤ n := by cases c <;> simp
  exact Nat.le_trans this (Nat.le_of_lt (small1000 h))
theorem cut_map {xs : List Nat} (lo hi : Option Int) : ∃ ys : List Nat, cutV (xs.map vn) lo hi = ys.map vn ∧ (∀ y ∈ ys, y ∈ xs) ∧ ys.length ≤ xs.length := by
  unfold cutV
  refine ⟨(xs.drop (HT.sIx (xs.map vn).length 0 lo)).take (HT.sIx (xs.map vn).length (xs.map vn).length hi - HT.sIx (xs.map vn).length 0 lo), by rw [List.map_take, List.map_drop], fun y hy => List.mem_of_mem_drop (List.mem_of_mem_take hy), ?_⟩
  rw [List.length_take, List.length_drop]
  omega
theorem prev_at {xs : List Nat} {k : Nat} (h : k < xs.length) : ∃ y, atI (xs.map vn) ((k : Int) - 1) = some (vn y) ∧ y ∈ xs := by
  cases k with
  | zero =>
    obtain ⟨a, b, e⟩ : ∃ a b, xs = a ++ [b] := by
      rcases List.eq_nil_or_concat xs with e | ⟨a, b, e⟩
      · rw [e] at h; simp at h
      · exact ⟨a, b, by rw [e]; simp⟩
    subst e
    exact ⟨b, by rw [List.map_append]; exact atI_last _ _, by simp⟩
  | succ k =>
    have hk : k < xs.length := by omega
    refine ⟨xs[k], ?_, List.getElem_mem hk⟩
    have : ((k + 1 : Nat) : Int) - 1 = (k : Nat) := by omega
    rw [this]
    exact atI_nat (by rw [List.getElem?_map, List.getElem?_eq_getElem hk]; rfl)
section
variable {P : Program} {w : World} {K : PySem.W.Frag} {mg : Str → Option Value} {base : Heap}
/-! ### _law_inner -/
theorem sc_law_inner : FnScope ["_law_pen_here", "_law_block", "_law_k", "_law_way", "_law_own", "_law_one"] ["_law_pen_here", "_law_block", "_law_k", "_law_way"] (defScope s_law_inner) := ⟨rfl, rfl, rfl, by decide +kernel, rfl, by decide +kernel, by decide +kernel⟩
theorem bd_law_inner {K : PySem.W.Frag} {mg : Str → Option Value} (T : Tx K mg) : Binds K (fdOf K (He.ga K "_law_inner")) ["_law_pen_here", "_law_block", "_law_k", "_law_way"] [] := T.F_law_inner.bindsN (fun _ _ _ _ _ _ us hl => match us, hl with | [_, _, _, _], _ => rfl)
def sp_law_inner : Sp := fun vs H Q _ => ∃ (p q b : Addr) (ns : List Int) (t k way : Nat) (blk : List Nat), vs = [.ref p, .ref b, vn k, vn way] ∧ Pen H p q ns t ∧ b ≠ p ∧ H b = some (.lst (blk.map vn)) ∧ blk.length ≤ 24 ∧ k < blk.length ∧ way < 5 ∧ t ≤ 400000 ∧
  ∀ H' l (xs : List Nat) t', KeepX p H H' → H l = none → Pen H' p q ns t' → t' ≤ t + 25 → H' l = some (.lst (xs.map vn)) → (∀ x ∈ xs, x ∈ blk) → xs.length ≤ 60 → Q (.ref l) H'
theorem ok_law_inner (T : Tx K mg) : FO P w K mg base 2 (He.ga K "_law_inner") ["_law_pen_here", "_law_block", "_law_k", "_law_way"] sp_law_inner := by
  refine T.F_law_inner.ok sc_law_inner (fun vs H Q E h => ?_) (fun cdv A outer s H vs Q E hr h => ?_)
  · obtain ⟨p, q, b, ns, t, k, way, blk, rfl, _⟩ := h; rfl
  · obtain ⟨p, q, b, ns, t, k, way, blk, rfl, hP, nbp, hb, hbl, hk, hw, ht, qq⟩ := h
    refine ⟨_, PSs.nox (pss_cons (ps_set (i := 4) sc_law_inner.nd rfl (Or.inl rfl) (pe_lst (pa_cons (pe_ix ix_list (pv 1) (pe_op op_sub (pv 2) pe_int) (fun _ _ => rfl)) pa_nil)))
 (pss_cons (ps_if (pt_cmpR op_eq (pv 3) pe_int (nomark _))
 (pss_one (ps_set (i := 4) sc_law_inner.nd rfl (Or.inl rfl) (pe_op op_cat (pe_slice sl_list (pv 1) (po_some (pe_callB (call_max2 rfl) (by rfl) T.b_max (by decide +kernel) (pa_cons pe_int (pa_cons (pe_op op_sub (pv 2) pe_int) pa_nil)))) (po_some (pv 2))) (pe_slice sl_list (pv 1) (po_some (pe_op op_add (pv 2) pe_int)) (po_some (pe_op op_add (pv 2) pe_int))))))
 pss_nil)
 (pss_cons (ps_if (pt_cmpR op_eq (pv 3) pe_int (nomark _))
 (pss_one (ps_set (i := 4) sc_law_inner.nd rfl (Or.inl rfl) (pe_op op_cat (pe_slice sl_list (pv 1) po_none (po_some (pv 2))) (pe_slice sl_list (pv 1) (po_some (pe_op op_add (pv 2) pe_int)) po_none))))
 pss_nil)
 (pss_cons (ps_if (pt_cmpR op_eq (pv 3) pe_int (nomark _))
 (pss_one (ps_setLc (i := 4) (own := [("_law_one", 5)]) (g := gName 5) rfl sc_law_inner.nd rfl rfl (sw_true rfl rfl rfl (by decide +kernel)) (pi_list (pv 1)) (blkOk_by (own := [("_law_one", 5)]) (N := ["_law_pen_here", "_law_block", "_law_k", "_law_way", "_law_own", "_law_one"]) (sc := defScope s_law_inner) (by decide +kernel)) (fun _ _ _ _ _ => (pg_name (i := 5) sc_law_inner.nd rfl (by first | exact Or.inl rfl | exact Or.inr rfl))) (fun _ _ _ _ _ => pts_one (pt_cmpR op_eq (pe_call (ok_law_pick T) (hr.mono (by decide)) rfl T.g_law_pick T.F_law_pick.kp (bd_law_pick T) .nil pass0 (pa_cons (pv 0) (pa_cons pe_int pa_nil))) pe_int (nomark _))) (fun _ _ _ _ _ => (pv 5))))
 pss_nil)
 (pss_one (ps_ret (pe_op op_cat (pe_op op_rep (pv 4) (pe_callTy call_int1 (by rfl) T.b_int (by decide +kernel) (pa_cons (pe_cmpR op_lt (pv 3) pe_int (nomark _)) pa_nil))) (pe_op op_rep (pe_lst (pa_cons (pe_ix ix_list (pv 1) (pv 2) (fun _ _ => rfl)) pa_nil)) (pe_callTy call_int1 (by rfl) T.b_int (by decide +kernel) (pa_cons (pe_cmpR op_eq (pe_call (ok_law_pick T) (hr.mono (by decide)) rfl T.g_law_pick T.F_law_pick.kp (bd_law_pick T) .nil pass0 (pa_cons (pv 0) (pa_cons pe_int pa_nil))) pe_int (nomark _)) pa_nil)))))))))), ?_⟩
    obtain ⟨y, hy, hyb⟩ := prev_at (xs := blk) hk
    have hbk : (blk.map vn)[k]? = some (vn blk[k]) := by rw [List.getElem?_map, List.getElem?_eq_getElem hk]; rfl
    have hy0 : blk[k]? = some blk[k] := List.getElem?_eq_getElem hk
    generalize blk[k] = y0 at hbk hy0
    refine ⟨_, rfl, _, rfl, _, _, rfl, rfl, b, _, _, _, rfl, rfl, SqL.of hb, hy, sz1, fun o hno => ?_⟩
    have P1 := hP.new hno (o := .lst ([y].map vn))
    have k1 : KeepX p H (upd H o (.lst ([y].map vn))) := KeepX.refl.new hno
    have ho1 : upd H o (.lst ([y].map vn)) o = some (.lst ([y].map vn)) := upd_same
    have hb1 := k1 _ _ nbp hb
    obtain ⟨nop, noq⟩ := hP.freshP hno
    show tSeq _ _ _ _ (upd H o (.lst ([y].map vn)))
    generalize upd H o (.lst ([y].map vn)) = H1 at P1 k1 ho1 hb1
    match way, hw with
    | 0, _ =>
      refine ⟨_, rfl, rfl, _, rfl, iteF ?_⟩
      refine ⟨_, rfl, rfl, _, rfl, iteF ?_⟩
      refine ⟨_, rfl, rfl, _, rfl, iteF ?_⟩
      have fin : ∀ (H5 : Hp) (o : Addr) (own : List Nat) (t5 : Nat) (w5 : Option V), True := fun _ _ _ _ _ => trivial
      obtain ⟨H5, t5, own, P5, k5, hb5, ho, hsub, hol, ht5, e1, e2⟩ : ∃ H5 t5 own, Pen H5 p q ns t5 ∧ KeepX p H H5 ∧ H5 b = some (.lst (blk.map vn)) ∧ H5 o = some (.lst (own.map vn)) ∧ (∀ x ∈ own, x ∈ blk) ∧ own.length ≤ 48 ∧ t5 ≤ t + 24 ∧ H1 = H5 ∧ [y] = own :=
        ⟨H1, t, [y], P1, k1, hb1, ho1, fun x hx => by simp at hx; subst hx; exact hyb, by simp, by omega, rfl, rfl⟩
      rw [e1]
      clear e1 e2
      -- the end
      refine ⟨_, rfl, _, rfl, _, _, rfl, rfl, .inr ⟨_, rfl, o, _, _, rfl, rfl, ho, (by split <;> omega), (by split <;> omega), (by rw [List.length_map]; exact rep_le (by omega)), fun r1 hr1 => ?_⟩⟩
      rw [rep01]
      have P6 := P5.new hr1 (o := .lst ((if decide ((0 : Int) < 4) = true then own else []).map vn))
      have k6 := k5.new (k5.freeP P5 hr1) (o := .lst ((if decide ((0 : Int) < 4) = true then own else []).map vn))
      have f6 : upd H5 r1 (.lst ((if decide ((0 : Int) < 4) = true then own else []).map vn)) r1 = some (.lst ((if decide ((0 : Int) < 4) = true then own else []).map vn)) := upd_same
      obtain ⟨n1p, n1q⟩ := P5.freshP hr1
      have hb6 : upd H5 r1 (.lst ((if decide ((0 : Int) < 4) = true then own else []).map vn)) b = some (.lst (blk.map vn)) := by rw [upd_ne (ne_of_none hb5 hr1)]; exact hb5
      generalize upd H5 r1 (.lst ((if decide ((0 : Int) < 4) = true then own else []).map vn)) = H6 at P6 k6 f6 hb6
      refine ⟨_, rfl, _, rfl, b, _, _, _, rfl, rfl, SqL.of hb6, atI_nat hbk, sz1, fun m hm => ?_⟩
      have P7 := P6.new hm (o := .lst ([y0].map vn))
      have k7 := k6.new (k6.freeP P6 hm) (o := .lst ([y0].map vn))
      have f7 : upd H6 m (.lst ([y0].map vn)) m = some (.lst ([y0].map vn)) := upd_same
      obtain ⟨n2p, n2q⟩ := P6.freshP hm
      have f67 : upd H6 m (.lst ([y0].map vn)) r1 = some (.lst ((if decide ((0 : Int) < 4) = true then own else []).map vn)) := by rw [upd_ne (ne_of_none f6 hm)]; exact f6
      show tCons _ _ _ (upd H6 m (.lst ([y0].map vn))) _
      generalize upd H6 m (.lst ([y0].map vn)) = H7 at P7 k7 f7 f67
      refine ⟨_, rfl, p, q, ns, t5, 6, rfl, P7, by omega, by omega, by omega, fun H8 z t8 k8 P8 ht8 hz8 => ⟨rfl, .inr ⟨_, rfl, ?_⟩⟩⟩
      have f8 := k8 _ _ n2p f7
      have f81 := k8 _ _ n1p f67
      refine ⟨m, _, _, rfl, rfl, f8, (by split <;> omega), (by split <;> omega), (by rw [List.length_map]; exact rep_le (by simp)), fun r2 hr2 => ?_⟩
      rw [rep01]
      have P9 := P8.new hr2 (o := .lst ((if decide (V.int (z : Nat) = V.int 0) = true then [y0] else []).map vn))
      have k9 := (k7.trans k8).new ((k7.trans k8).freeP P8 hr2) (o := .lst ((if decide (V.int (z : Nat) = V.int 0) = true then [y0] else []).map vn))
      refine ⟨r1, r2, _, _, rfl, rfl, (by rw [upd_ne (ne_of_none f81 hr2)]; exact f81), upd_same, Nat.le_of_lt (small1000 (by simp only [List.length_map]; split <;> split <;> simp <;> omega)), fun l hl => ?_⟩
      rw [← List.map_append]
      refine qq _ l _ t8 (k9.new (k9.freeP P9 hl)) (k9.freeP P9 hl) (P9.new hl) (by omega) upd_same (fun x hx => ?_) (by simp only [List.length_append]; split <;> split <;> simp <;> omega)
      rcases List.mem_append.mp hx with hx | hx
      · split at hx
        · exact hsub x hx
        · simp at hx
      · split at hx
        · simp at hx
          subst hx
          exact List.mem_of_getElem? hy0
        · simp at hx
    | 4, _ =>
      refine ⟨_, rfl, rfl, _, rfl, iteF ?_⟩
      refine ⟨_, rfl, rfl, _, rfl, iteF ?_⟩
      refine ⟨_, rfl, rfl, _, rfl, iteF ?_⟩
      have fin : ∀ (H5 : Hp) (o : Addr) (own : List Nat) (t5 : Nat) (w5 : Option V), True := fun _ _ _ _ _ => trivial
      obtain ⟨H5, t5, own, P5, k5, hb5, ho, hsub, hol, ht5, e1, e2⟩ : ∃ H5 t5 own, Pen H5 p q ns t5 ∧ KeepX p H H5 ∧ H5 b = some (.lst (blk.map vn)) ∧ H5 o = some (.lst (own.map vn)) ∧ (∀ x ∈ own, x ∈ blk) ∧ own.length ≤ 48 ∧ t5 ≤ t + 24 ∧ H1 = H5 ∧ [y] = own :=
        ⟨H1, t, [y], P1, k1, hb1, ho1, fun x hx => by simp at hx; subst hx; exact hyb, by simp, by omega, rfl, rfl⟩
      rw [e1]
      clear e1 e2
      -- the end
      refine ⟨_, rfl, _, rfl, _, _, rfl, rfl, .inr ⟨_, rfl, o, _, _, rfl, rfl, ho, (by split <;> omega), (by split <;> omega), (by rw [List.length_map]; exact rep_le (by omega)), fun r1 hr1 => ?_⟩⟩
      rw [rep01]
      have P6 := P5.new hr1 (o := .lst ((if decide ((4 : Int) < 4) = true then own else []).map vn))
      have k6 := k5.new (k5.freeP P5 hr1) (o := .lst ((if decide ((4 : Int) < 4) = true then own else []).map vn))
      have f6 : upd H5 r1 (.lst ((if decide ((4 : Int) < 4) = true then own else []).map vn)) r1 = some (.lst ((if decide ((4 : Int) < 4) = true then own else []).map vn)) := upd_same
      obtain ⟨n1p, n1q⟩ := P5.freshP hr1
      have hb6 : upd H5 r1 (.lst ((if decide ((4 : Int) < 4) = true then own else []).map vn)) b = some (.lst (blk.map vn)) := by rw [upd_ne (ne_of_none hb5 hr1)]; exact hb5
      generalize upd H5 r1 (.lst ((if decide ((4 : Int) < 4) = true then own else []).map vn)) = H6 at P6 k6 f6 hb6
      refine ⟨_, rfl, _, rfl, b, _, _, _, rfl, rfl, SqL.of hb6, atI_nat hbk, sz1, fun m hm => ?_⟩
      have P7 := P6.new hm (o := .lst ([y0].map vn))
      have k7 := k6.new (k6.freeP P6 hm) (o := .lst ([y0].map vn))
      have f7 : upd H6 m (.lst ([y0].map vn)) m = some (.lst ([y0].map vn)) := upd_same
      obtain ⟨n2p, n2q⟩ := P6.freshP hm
      have f67 : upd H6 m (.lst ([y0].map vn)) r1 = some (.lst ((if decide ((4 : Int) < 4) = true then own else []).map vn)) := by rw [upd_ne (ne_of_none f6 hm)]; exact f6
      show tCons _ _ _ (upd H6 m (.lst ([y0].map vn))) _
      generalize upd H6 m (.lst ([y0].map vn)) = H7 at P7 k7 f7 f67
      refine ⟨_, rfl, p, q, ns, t5, 6, rfl, P7, by omega, by omega, by omega, fun H8 z t8 k8 P8 ht8 hz8 => ⟨rfl, .inr ⟨_, rfl, ?_⟩⟩⟩
      have f8 := k8 _ _ n2p f7
      have f81 := k8 _ _ n1p f67
      refine ⟨m, _, _, rfl, rfl, f8, (by split <;> omega), (by split <;> omega), (by rw [List.length_map]; exact rep_le (by simp)), fun r2 hr2 => ?_⟩
      rw [rep01]
      have P9 := P8.new hr2 (o := .lst ((if decide (V.int (z : Nat) = V.int 0) = true then [y0] else []).map vn))
      have k9 := (k7.trans k8).new ((k7.trans k8).freeP P8 hr2) (o := .lst ((if decide (V.int (z : Nat) = V.int 0) = true then [y0] else []).map vn))
      refine ⟨r1, r2, _, _, rfl, rfl, (by rw [upd_ne (ne_of_none f81 hr2)]; exact f81), upd_same, Nat.le_of_lt (small1000 (by simp only [List.length_map]; split <;> split <;> simp <;> omega)), fun l hl => ?_⟩
      rw [← List.map_append]
      refine qq _ l _ t8 (k9.new (k9.freeP P9 hl)) (k9.freeP P9 hl) (P9.new hl) (by omega) upd_same (fun x hx => ?_) (by simp only [List.length_append]; split <;> split <;> simp <;> omega)
      rcases List.mem_append.mp hx with hx | hx
      · split at hx
        · exact hsub x hx
        · simp at hx
      · split at hx
        · simp at hx
          subst hx
          exact List.mem_of_getElem? hy0
        · simp at hx
    | 1, _ =>
      refine ⟨_, rfl, rfl, _, rfl, iteT ?_⟩
      refine ⟨_, rfl, _, rfl, _, _, rfl, rfl, 0, _, rfl, _, rfl, _, rfl, _, rfl, b, _, rfl, SqL.of hb1, fun s1 hs1 => ?_⟩
      obtain ⟨ys1, e1, m1, l1⟩ := cut_map (xs := blk) _ _
      rw [e1]
      have P2 := P1.new hs1 (o := .lst (ys1.map vn))
      have k2 := k1.new (k1.freeP P1 hs1) (o := .lst (ys1.map vn))
      have f2 : upd H1 s1 (.lst (ys1.map vn)) s1 = some (.lst (ys1.map vn)) := upd_same
      have hb2 := k2 _ _ nbp hb
      generalize upd H1 s1 (.lst (ys1.map vn)) = H2 at P2 k2 f2 hb2
      refine ⟨_, rfl, _, rfl, _, _, rfl, rfl, _, rfl, _, rfl, _, _, rfl, rfl, _, rfl, b, _, rfl, SqL.of hb2, fun s2 hs2 => ?_⟩
      obtain ⟨ys2, e2, m2, l2⟩ := cut_map (xs := blk) _ _
      rw [e2]
      have P3 := P2.new hs2 (o := .lst (ys2.map vn))
      have k3 := k2.new (k2.freeP P2 hs2) (o := .lst (ys2.map vn))
      have f3 : upd H2 s2 (.lst (ys2.map vn)) s2 = some (.lst (ys2.map vn)) := upd_same
      have f31 : upd H2 s2 (.lst (ys2.map vn)) s1 = some (.lst (ys1.map vn)) := by rw [upd_ne (ne_of_none f2 hs2)]; exact f2
      have hb3 := k3 _ _ nbp hb
      generalize upd H2 s2 (.lst (ys2.map vn)) = H3 at P3 k3 f3 f31 hb3
      refine ⟨s1, s2, _, _, rfl, rfl, f31, f3, Nat.le_of_lt (small1000 (by simp only [List.length_map]; omega)), fun o5 ho5 => ?_⟩
      rw [← List.map_append]
      have P4 := P3.new ho5 (o := .lst ((ys1 ++ ys2).map vn))
      have k4 := k3.new (k3.freeP P3 ho5) (o := .lst ((ys1 ++ ys2).map vn))
      have f4 : upd H3 o5 (.lst ((ys1 ++ ys2).map vn)) o5 = some (.lst ((ys1 ++ ys2).map vn)) := upd_same
      have hb4 := k4 _ _ nbp hb
      generalize upd H3 o5 (.lst ((ys1 ++ ys2).map vn)) = H5 at P4 k4 f4 hb4
      refine ⟨_, rfl, rfl, _, rfl, iteF ?_⟩
      refine ⟨_, rfl, rfl, _, rfl, iteF ?_⟩
      obtain ⟨own, t5, P5, k5, hb5, ho, hsub, hol, ht5⟩ : ∃ (own : List Nat) (t5 : Nat), Pen H5 p q ns t5 ∧ KeepX p H H5 ∧ H5 b = some (.lst (blk.map vn)) ∧ H5 o5 = some (.lst (own.map vn)) ∧ (∀ x ∈ own, x ∈ blk) ∧ own.length ≤ 48 ∧ t5 ≤ t + 24 :=
        ⟨ys1 ++ ys2, t, P4, k4, hb4, f4, fun x hx => (List.mem_append.mp hx).elim (m1 x) (m2 x), by rw [List.length_append]; omega, by omega⟩
      -- the end
      refine ⟨_, rfl, _, rfl, _, _, rfl, rfl, .inr ⟨_, rfl, o5, _, _, rfl, rfl, ho, (by split <;> omega), (by split <;> omega), (by rw [List.length_map]; exact rep_le (by omega)), fun r1 hr1 => ?_⟩⟩
      rw [rep01]
      have P6 := P5.new hr1 (o := .lst ((if decide ((1 : Int) < 4) = true then own else []).map vn))
      have k6 := k5.new (k5.freeP P5 hr1) (o := .lst ((if decide ((1 : Int) < 4) = true then own else []).map vn))
      have f6 : upd H5 r1 (.lst ((if decide ((1 : Int) < 4) = true then own else []).map vn)) r1 = some (.lst ((if decide ((1 : Int) < 4) = true then own else []).map vn)) := upd_same
      obtain ⟨n1p, n1q⟩ := P5.freshP hr1
      have hb6 : upd H5 r1 (.lst ((if decide ((1 : Int) < 4) = true then own else []).map vn)) b = some (.lst (blk.map vn)) := by rw [upd_ne (ne_of_none hb5 hr1)]; exact hb5
      generalize upd H5 r1 (.lst ((if decide ((1 : Int) < 4) = true then own else []).map vn)) = H6 at P6 k6 f6 hb6
      refine ⟨_, rfl, _, rfl, b, _, _, _, rfl, rfl, SqL.of hb6, atI_nat hbk, sz1, fun m hm => ?_⟩
      have P7 := P6.new hm (o := .lst ([y0].map vn))
      have k7 := k6.new (k6.freeP P6 hm) (o := .lst ([y0].map vn))
      have f7 : upd H6 m (.lst ([y0].map vn)) m = some (.lst ([y0].map vn)) := upd_same
      obtain ⟨n2p, n2q⟩ := P6.freshP hm
      have f67 : upd H6 m (.lst ([y0].map vn)) r1 = some (.lst ((if decide ((1 : Int) < 4) = true then own else []).map vn)) := by rw [upd_ne (ne_of_none f6 hm)]; exact f6
      show tCons _ _ _ (upd H6 m (.lst ([y0].map vn))) _
      generalize upd H6 m (.lst ([y0].map vn)) = H7 at P7 k7 f7 f67
      refine ⟨_, rfl, p, q, ns, t5, 6, rfl, P7, by omega, by omega, by omega, fun H8 z t8 k8 P8 ht8 hz8 => ⟨rfl, .inr ⟨_, rfl, ?_⟩⟩⟩
      have f8 := k8 _ _ n2p f7
      have f81 := k8 _ _ n1p f67
      refine ⟨m, _, _, rfl, rfl, f8, (by split <;> omega), (by split <;> omega), (by rw [List.length_map]; exact rep_le (by simp)), fun r2 hr2 => ?_⟩
      rw [rep01]
      have P9 := P8.new hr2 (o := .lst ((if decide (V.int (z : Nat) = V.int 0) = true then [y0] else []).map vn))
      have k9 := (k7.trans k8).new ((k7.trans k8).freeP P8 hr2) (o := .lst ((if decide (V.int (z : Nat) = V.int 0) = true then [y0] else []).map vn))
      refine ⟨r1, r2, _, _, rfl, rfl, (by rw [upd_ne (ne_of_none f81 hr2)]; exact f81), upd_same, Nat.le_of_lt (small1000 (by simp only [List.length_map]; split <;> split <;> simp <;> omega)), fun l hl => ?_⟩
      rw [← List.map_append]
      refine qq _ l _ t8 (k9.new (k9.freeP P9 hl)) (k9.freeP P9 hl) (P9.new hl) (by omega) upd_same (fun x hx => ?_) (by simp only [List.length_append]; split <;> split <;> simp <;> omega)
      rcases List.mem_append.mp hx with hx | hx
      · split at hx
        · exact hsub x hx
        · simp at hx
      · split at hx
        · simp at hx
          subst hx
          exact List.mem_of_getElem? hy0
        · simp at hx
    | 2, _ =>
      refine ⟨_, rfl, rfl, _, rfl, iteF ?_⟩
      refine ⟨_, rfl, rfl, _, rfl, iteT ?_⟩
      refine ⟨_, rfl, _, rfl, _, rfl, b, _, rfl, SqL.of hb1, fun s1 hs1 => ?_⟩
      obtain ⟨ys1, e1, m1, l1⟩ := cut_map (xs := blk) _ _
      rw [e1]
      have P2 := P1.new hs1 (o := .lst (ys1.map vn))
      have k2 := k1.new (k1.freeP P1 hs1) (o := .lst (ys1.map vn))
      have f2 : upd H1 s1 (.lst (ys1.map vn)) s1 = some (.lst (ys1.map vn)) := upd_same
      have hb2 := k2 _ _ nbp hb
      generalize upd H1 s1 (.lst (ys1.map vn)) = H2 at P2 k2 f2 hb2
      refine ⟨_, rfl, _, rfl, _, _, rfl, rfl, _, rfl, b, _, rfl, SqL.of hb2, fun s2 hs2 => ?_⟩
      obtain ⟨ys2, e2, m2, l2⟩ := cut_map (xs := blk) _ _
      rw [e2]
      have P3 := P2.new hs2 (o := .lst (ys2.map vn))
      have k3 := k2.new (k2.freeP P2 hs2) (o := .lst (ys2.map vn))
      have f3 : upd H2 s2 (.lst (ys2.map vn)) s2 = some (.lst (ys2.map vn)) := upd_same
      have f31 : upd H2 s2 (.lst (ys2.map vn)) s1 = some (.lst (ys1.map vn)) := by rw [upd_ne (ne_of_none f2 hs2)]; exact f2
      have hb3 := k3 _ _ nbp hb
      generalize upd H2 s2 (.lst (ys2.map vn)) = H3 at P3 k3 f3 f31 hb3
      refine ⟨s1, s2, _, _, rfl, rfl, f31, f3, Nat.le_of_lt (small1000 (by simp only [List.length_map]; omega)), fun o5 ho5 => ?_⟩
      rw [← List.map_append]
      have P4 := P3.new ho5 (o := .lst ((ys1 ++ ys2).map vn))
      have k4 := k3.new (k3.freeP P3 ho5) (o := .lst ((ys1 ++ ys2).map vn))
      have f4 : upd H3 o5 (.lst ((ys1 ++ ys2).map vn)) o5 = some (.lst ((ys1 ++ ys2).map vn)) := upd_same
      have hb4 := k4 _ _ nbp hb
      generalize upd H3 o5 (.lst ((ys1 ++ ys2).map vn)) = H5 at P4 k4 f4 hb4
      refine ⟨_, rfl, rfl, _, rfl, iteF ?_⟩
      obtain ⟨own, t5, P5, k5, hb5, ho, hsub, hol, ht5⟩ : ∃ (own : List Nat) (t5 : Nat), Pen H5 p q ns t5 ∧ KeepX p H H5 ∧ H5 b = some (.lst (blk.map vn)) ∧ H5 o5 = some (.lst (own.map vn)) ∧ (∀ x ∈ own, x ∈ blk) ∧ own.length ≤ 48 ∧ t5 ≤ t + 24 :=
        ⟨ys1 ++ ys2, t, P4, k4, hb4, f4, fun x hx => (List.mem_append.mp hx).elim (m1 x) (m2 x), by rw [List.length_append]; omega, by omega⟩
      -- the end
      refine ⟨_, rfl, _, rfl, _, _, rfl, rfl, .inr ⟨_, rfl, o5, _, _, rfl, rfl, ho, (by split <;> omega), (by split <;> omega), (by rw [List.length_map]; exact rep_le (by omega)), fun r1 hr1 => ?_⟩⟩
      rw [rep01]
      have P6 := P5.new hr1 (o := .lst ((if decide ((2 : Int) < 4) = true then own else []).map vn))
      have k6 := k5.new (k5.freeP P5 hr1) (o := .lst ((if decide ((2 : Int) < 4) = true then own else []).map vn))
      have f6 : upd H5 r1 (.lst ((if decide ((2 : Int) < 4) = true then own else []).map vn)) r1 = some (.lst ((if decide ((2 : Int) < 4) = true then own else []).map vn)) := upd_same
      obtain ⟨n1p, n1q⟩ := P5.freshP hr1
      have hb6 : upd H5 r1 (.lst ((if decide ((2 : Int) < 4) = true then own else []).map vn)) b = some (.lst (blk.map vn)) := by rw [upd_ne (ne_of_none hb5 hr1)]; exact hb5
      generalize upd H5 r1 (.lst ((if decide ((2 : Int) < 4) = true then own else []).map vn)) = H6 at P6 k6 f6 hb6
      refine ⟨_, rfl, _, rfl, b, _, _, _, rfl, rfl, SqL.of hb6, atI_nat hbk, sz1, fun m hm => ?_⟩
      have P7 := P6.new hm (o := .lst ([y0].map vn))
      have k7 := k6.new (k6.freeP P6 hm) (o := .lst ([y0].map vn))
      have f7 : upd H6 m (.lst ([y0].map vn)) m = some (.lst ([y0].map vn)) := upd_same
      obtain ⟨n2p, n2q⟩ := P6.freshP hm
      have f67 : upd H6 m (.lst ([y0].map vn)) r1 = some (.lst ((if decide ((2 : Int) < 4) = true then own else []).map vn)) := by rw [upd_ne (ne_of_none f6 hm)]; exact f6
      show tCons _ _ _ (upd H6 m (.lst ([y0].map vn))) _
      generalize upd H6 m (.lst ([y0].map vn)) = H7 at P7 k7 f7 f67
      refine ⟨_, rfl, p, q, ns, t5, 6, rfl, P7, by omega, by omega, by omega, fun H8 z t8 k8 P8 ht8 hz8 => ⟨rfl, .inr ⟨_, rfl, ?_⟩⟩⟩
      have f8 := k8 _ _ n2p f7
      have f81 := k8 _ _ n1p f67
      refine ⟨m, _, _, rfl, rfl, f8, (by split <;> omega), (by split <;> omega), (by rw [List.length_map]; exact rep_le (by simp)), fun r2 hr2 => ?_⟩
      rw [rep01]
      have P9 := P8.new hr2 (o := .lst ((if decide (V.int (z : Nat) = V.int 0) = true then [y0] else []).map vn))
      have k9 := (k7.trans k8).new ((k7.trans k8).freeP P8 hr2) (o := .lst ((if decide (V.int (z : Nat) = V.int 0) = true then [y0] else []).map vn))
      refine ⟨r1, r2, _, _, rfl, rfl, (by rw [upd_ne (ne_of_none f81 hr2)]; exact f81), upd_same, Nat.le_of_lt (small1000 (by simp only [List.length_map]; split <;> split <;> simp <;> omega)), fun l hl => ?_⟩
      rw [← List.map_append]
      refine qq _ l _ t8 (k9.new (k9.freeP P9 hl)) (k9.freeP P9 hl) (P9.new hl) (by omega) upd_same (fun x hx => ?_) (by simp only [List.length_append]; split <;> split <;> simp <;> omega)
      rcases List.mem_append.mp hx with hx | hx
      · split at hx
        · exact hsub x hx
        · simp at hx
      · split at hx
        · simp at hx
          subst hx
          exact List.mem_of_getElem? hy0
        · simp at hx
    | 3, _ =>
      refine ⟨_, rfl, rfl, _, rfl, iteF ?_⟩
      refine ⟨_, rfl, rfl, _, rfl, iteF ?_⟩
      refine ⟨_, rfl, rfl, _, rfl, iteT ?_⟩
      refine ⟨_, rfl, b, rfl, ⟨_, SqL.of hb1⟩, fun D hD => ?_⟩
      obtain ⟨nDp, nDq⟩ := P1.freshP hD
      refine walk_any (walk_list (K := K) (a := b) (xs := blk.map vn)) (fun i H' => ∃ t' xs, KeepX p H1 H' ∧ Pen H' p q ns t' ∧ t' ≤ t + i ∧ H' D = some (.lst ((xs : List Nat).map vn)) ∧ xs.length ≤ i ∧ ∀ x ∈ xs, x ∈ blk)
        ⟨t, [], KeepX.refl.new hD, P1.new hD, by omega, upd_same, Nat.le_refl _, by simp⟩ (fun i H' _ h => by obtain ⟨t', xs, h1, -⟩ := h; exact SqL.of (h1 _ _ nbp hb1)) ?_ ?_
      · rintro i x H2 H2' hi ⟨t2, xs, k2, P2, ht2, h2, hxl, hxs⟩ ⟨rfl, hx⟩
        obtain ⟨z, hz, rfl⟩ := map_at hx
        rw [List.length_map] at hi
        refine ⟨rfl, _, rfl, p, q, ns, t2, 2, rfl, P2, by omega, by omega, by omega, fun H3 s3 t3 k3 P3 ht3 hs3 => ⟨rfl, _, rfl, ?_⟩⟩
        have h3 := k3 _ _ nDp h2
        by_cases e : V.int (s3 : Nat) = V.int 0
        · rw [decide_eq_true e]
          refine iteT ⟨_, rfl, _, h3, small1000 (by rw [List.length_map]; omega), t3, xs ++ [z], fun y o hy h => ?_, P3.other nDp nDq, by omega, by rw [upd_same]; simp, by simp; omega, fun x hx => ?_⟩
          · rw [upd_ne (ne_of_none h hD)]
            exact k3 _ _ hy (k2 _ _ hy h)
          · rcases List.mem_append.mp hx with hx | hx
            · exact hxs x hx
            · simp at hx; subst hx; exact List.mem_of_getElem? hz
        · rw [decide_eq_false e]
          exact iteF ⟨t3, xs, k2.trans k3, P3, by omega, h3, by omega, hxs⟩
      · rintro H5 ⟨t5, own, k2, P5, ht5, ho, hol, hsub⟩
        rw [List.length_map] at hol ht5
        have k5 := k1.trans k2
        have hb5 := k5 _ _ nbp hb
        have hol : own.length ≤ 48 := by omega
        have ht5 : t5 ≤ t + 24 := by omega
        -- the end
        refine ⟨_, rfl, _, rfl, _, _, rfl, rfl, .inr ⟨_, rfl, D, _, _, rfl, rfl, ho, (by split <;> omega), (by split <;> omega), (by rw [List.length_map]; exact rep_le (by omega)), fun r1 hr1 => ?_⟩⟩
        rw [rep01]
        have P6 := P5.new hr1 (o := .lst ((if decide ((3 : Int) < 4) = true then own else []).map vn))
        have k6 := k5.new (k5.freeP P5 hr1) (o := .lst ((if decide ((3 : Int) < 4) = true then own else []).map vn))
        have f6 : upd H5 r1 (.lst ((if decide ((3 : Int) < 4) = true then own else []).map vn)) r1 = some (.lst ((if decide ((3 : Int) < 4) = true then own else []).map vn)) := upd_same
        obtain ⟨n1p, n1q⟩ := P5.freshP hr1
        have hb6 : upd H5 r1 (.lst ((if decide ((3 : Int) < 4) = true then own else []).map vn)) b = some (.lst (blk.map vn)) := by rw [upd_ne (ne_of_none hb5 hr1)]; exact hb5
        generalize upd H5 r1 (.lst ((if decide ((3 : Int) < 4) = true then own else []).map vn)) = H6 at P6 k6 f6 hb6
        refine ⟨_, rfl, _, rfl, b, _, _, _, rfl, rfl, SqL.of hb6, atI_nat hbk, sz1, fun m hm => ?_⟩
        have P7 := P6.new hm (o := .lst ([y0].map vn))
        have k7 := k6.new (k6.freeP P6 hm) (o := .lst ([y0].map vn))
        have f7 : upd H6 m (.lst ([y0].map vn)) m = some (.lst ([y0].map vn)) := upd_same
        obtain ⟨n2p, n2q⟩ := P6.freshP hm
        have f67 : upd H6 m (.lst ([y0].map vn)) r1 = some (.lst ((if decide ((3 : Int) < 4) = true then own else []).map vn)) := by rw [upd_ne (ne_of_none f6 hm)]; exact f6
        show tCons _ _ _ (upd H6 m (.lst ([y0].map vn))) _
        generalize upd H6 m (.lst ([y0].map vn)) = H7 at P7 k7 f7 f67
        refine ⟨_, rfl, p, q, ns, t5, 6, rfl, P7, by omega, by omega, by omega, fun H8 z t8 k8 P8 ht8 hz8 => ⟨rfl, .inr ⟨_, rfl, ?_⟩⟩⟩
        have f8 := k8 _ _ n2p f7
        have f81 := k8 _ _ n1p f67
        refine ⟨m, _, _, rfl, rfl, f8, (by split <;> omega), (by split <;> omega), (by rw [List.length_map]; exact rep_le (by simp)), fun r2 hr2 => ?_⟩
        rw [rep01]
        have P9 := P8.new hr2 (o := .lst ((if decide (V.int (z : Nat) = V.int 0) = true then [y0] else []).map vn))
        have k9 := (k7.trans k8).new ((k7.trans k8).freeP P8 hr2) (o := .lst ((if decide (V.int (z : Nat) = V.int 0) = true then [y0] else []).map vn))
        refine ⟨r1, r2, _, _, rfl, rfl, (by rw [upd_ne (ne_of_none f81 hr2)]; exact f81), upd_same, Nat.le_of_lt (small1000 (by simp only [List.length_map]; split <;> split <;> simp <;> omega)), fun l hl => ?_⟩
        rw [← List.map_append]
        refine qq _ l _ t8 (k9.new (k9.freeP P9 hl)) (k9.freeP P9 hl) (P9.new hl) (by omega) upd_same (fun x hx => ?_) (by simp only [List.length_append]; split <;> split <;> simp <;> omega)
        rcases List.mem_append.mp hx with hx | hx
        · split at hx
          · exact hsub x hx
          · simp at hx
        · split at hx
          · simp at hx
            subst hx
            exact List.mem_of_getElem? hy0
          · simp at hx
end
end BgT
set_option Elab.async false
set_option linter.all false
set_option maxRecDepth 100000
set_option maxHeartbeats 4000000
namespace BgT
open PySem PySem.Spec PyProof.Rows L2
theorem cut_to {xs : List Nat} {k : Nat} : cutV (xs.map vn) none (some (k : Int)) = (xs.take k).map vn := by
  unfold cutV
  rw [HT.sIx_nat, show HT.sIx (xs.map vn).length 0 none = 0 from rfl, List.drop_zero, Nat.sub_zero, List.length_map, ← List.map_take]
  congr 1
  rw [List.take_eq_take_iff]
  omega
theorem cut_from {xs : List Nat} {k : Nat} : cutV (xs.map vn) (some (k : Int)) none = (xs.drop k).map vn := by
  unfold cutV
  rw [HT.sIx_nat, show HT.sIx (xs.map vn).length (xs.map vn).length none = (xs.map vn).length from rfl, List.take_of_length_le (by rw [List.length_drop]; exact Nat.le_refl _), List.length_map, ← List.map_drop]
  congr 1
  by_cases h : k ≤ xs.length
  · rw [Nat.min_eq_left h]
  · rw [Nat.min_eq_right (by omega), List.drop_length, List.drop_eq_nil_of_le (by omega)]
theorem call_len_seqK {X : Cx} {K : PySem.W.Frag} (h : X.K = K := by rfl) : CallR X (.builtin "len") (fun xs H Q => ∃ p ys, xs = [V.ref p] ∧ (SqL K H p ys ∨ SqT K H p ys) ∧ Q (.int (ys.length : Nat)) H) := by subst h; exact call_len_seq
def FoundAt (H : Hp) (ws : List V) (n : Nat) (A : List Nat) : Prop := ws.length = n ∧ ∀ i ∈ A, ∃ v r, ws[i]? = some v ∧ TripAt H v r ∧ r.Ok n
theorem TripAt.keep {H H' : Hp} {v : V} {r : Row} (h : TripAt H v r) (k : ∀ a ys, H a = some (.tup ys) → H' a = some (.tup ys)) : TripAt H' v r := by
  obtain ⟨a, o, f, e, h1, h2, h3⟩ := h
  refine ⟨a, o, f, e, k _ _ h1, k _ _ h2, ?_⟩
  cases hf : r.fn with
  | lev q c => rw [hf] at h3; obtain ⟨a, e, h⟩ := h3; exact ⟨a, e, k _ _ h⟩
  | tab t => rw [hf] at h3; obtain ⟨a, b, e, h, q⟩ := h3; exact ⟨a, b, e, k _ _ h, k _ _ q⟩
theorem FoundAt.keep {H H' : Hp} {ws : List V} {n : Nat} {A : List Nat} (h : FoundAt H ws n A) (k : ∀ a ys, H a = some (.tup ys) → H' a = some (.tup ys)) : FoundAt H' ws n A :=
  ⟨h.1, fun i hi => let ⟨v, r, h1, h2, h3⟩ := h.2 i hi; ⟨v, r, h1, h2.keep k, h3⟩⟩
theorem FoundAt.put {H : Hp} {ws : List V} {n : Nat} {A : List Nat} (h : FoundAt H ws n A) {i : Nat} {v : V} {r : Row} (hi : i < n) (hv : TripAt H v r) (hr : r.Ok n) : FoundAt H (ws.set i v) n (A ++ [i]) := by
  refine ⟨by rw [List.length_set]; exact h.1, fun j hj => ?_⟩
  by_cases e : i = j
  · subst e
    exact ⟨v, r, by rw [List.getElem?_set_self (by rw [h.1]; exact hi)], hv, hr⟩
  · have hj : j ∈ A := (List.mem_append.mp hj).elim id fun z => absurd (List.mem_singleton.mp z).symm e
    obtain ⟨v', r', h1, h2, h3⟩ := h.2 j hj
    exact ⟨v', r', by rw [List.getElem?_set_ne e]; exact h1, h2, h3⟩
def Keep2 (p f : Addr) (H H' : Hp) : Prop := ∀ a o, a ≠ p → a ≠ f → H a = some o → H' a = some o
theorem Keep2.refl {p f : Addr} {H : Hp} : Keep2 p f H H := fun _ _ _ _ h => h
theorem Keep2.trans {p f : Addr} {H H' H2 : Hp} (h : Keep2 p f H H') (k : Keep2 p f H' H2) : Keep2 p f H H2 := fun a o h1 h2 e => k a o h1 h2 (h a o h1 h2 e)
theorem Keep2.of {p f : Addr} {H H' : Hp} (s : Same H H') : Keep2 p f H H' := fun a o _ _ e => s a o e
theorem Keep2.ofX {p f : Addr} {H H' : Hp} (s : KeepX p H H') : Keep2 p f H H' := fun a o h _ e => s a o h e
theorem Keep2.f {p f : Addr} {H H' : Hp} {o : HO} (k : Keep2 p f H H') : Keep2 p f H (upd H' f o) := fun a u _ h2 e => by rw [upd_ne h2]; exact k a u (by assumption) h2 e
theorem nodupI_le {L : List Int} {n : Nat} (h : L.Nodup) (hb : ∀ k ∈ L, ∃ x : Nat, x < n ∧ k = (x : Int)) : L.length ≤ n := by
  have h2 : (L.map Int.toNat).Nodup := by
    rw [List.Nodup, List.pairwise_map]
    refine List.Pairwise.imp_of_mem ?_ h
    intro a b ha hb' hne e
    obtain ⟨x, _, rfl⟩ := hb a ha
    obtain ⟨y, _, rfl⟩ := hb b hb'
    simp at e
    exact hne (by rw [e])
  have := Bg.nodup_le n _ h2 fun x hx => by
    obtain ⟨k, hk, rfl⟩ := List.mem_map.mp hx
    obtain ⟨y, hy, rfl⟩ := hb k hk
    exact hy
  rwa [List.length_map] at this
theorem toNat_map {zs : List Int} (h : ∀ k ∈ zs, ∃ x : Nat, k = (x : Int)) : zs.map V.int = (zs.map Int.toNat).map vn := by
  rw [List.map_map]
  refine List.map_congr_left fun k hk => ?_
  obtain ⟨x, rfl⟩ := h k hk
  rfl
theorem rows_of {H : Hp} {n : Nat} : ∀ (ws : List V), (∀ (i : Nat) (v : V), ws[i]? = some v → ∃ r, TripAt H v r ∧ Row.Ok n r) → ∃ rows, TripsAt H ws rows ∧ ∀ r ∈ rows, Row.Ok n r
  | [], _ => ⟨[], ⟨rfl, fun i r h => by simp at h⟩, by simp⟩
  | w :: ws, h => by
    obtain ⟨rows, h1, h2⟩ := rows_of ws fun i v e => h (i + 1) v (by simpa using e)
    obtain ⟨r, h3, h4⟩ := h 0 w rfl
    refine ⟨r :: rows, ⟨by simp [h1.1], fun i x e => ?_⟩, fun x hx => ?_⟩
    · cases i with
      | zero => simp at e; subst e; exact ⟨w, rfl, h3⟩
      | succ i => obtain ⟨v, e1, e2⟩ := h1.2 i x (by simpa using e); exact ⟨v, by simpa using e1, e2⟩
    · rcases List.mem_cons.mp hx with rfl | hx
      · exact h4
      · exact h2 x hx
section
variable {P : Program} {w : World} {K : PySem.W.Frag} {mg : Str → Option Value} {base : Heap}
theorem sc_law_rows : FnScope ["_law_pen_here", "_law_most", "_law_widest", "_law_many", "_law_calm", "_law_left", "_law_ahead", "_law_found", "_law_block", "_law_way", "_law_k", "_law_spot", "_law_some", "_law_one"] ["_law_pen_here", "_law_most", "_law_widest"] (defScope s_law_rows) := ⟨rfl, rfl, rfl, by decide +kernel, rfl, by decide +kernel, by decide +kernel⟩
theorem bd_law_rows {K : PySem.W.Frag} {mg : Str → Option Value} (T : Tx K mg) : Binds K (fdOf K (He.ga K "_law_rows")) ["_law_pen_here", "_law_most", "_law_widest"] [] := T.F_law_rows.bindsN (fun _ _ _ _ _ _ us hl => match us, hl with | [_, _, _], _ => rfl)
def sp_law_rows : Sp := fun vs H Q _ => ∃ (p q : Addr) (ns : List Int) (t most wid : Nat), vs = [.ref p, vn most, vn wid] ∧ Pen H p q ns t ∧ 1 ≤ most ∧ most ≤ 24 ∧ 1 ≤ wid ∧ wid ≤ 24 ∧ t ≤ 300000 ∧
  ∀ H' l ws rows t', KeepX p H H' → l ≠ p → Pen H' p q ns t' → t' ≤ t + 3000 → H' l = some (.lst ws) → TripsAt H' ws rows → RowsOk rows → Q (.ref l) H'
theorem ok_law_rows (T : Tx K mg) : FO P w K mg base 3 (He.ga K "_law_rows") ["_law_pen_here", "_law_most", "_law_widest"] sp_law_rows := by
  refine T.F_law_rows.ok sc_law_rows (fun vs H Q E h => ?_) (fun cdv A outer s H vs Q E hr h => ?_)
  · obtain ⟨p, q, ns, t, most, wid, rfl, _⟩ := h; rfl
  · obtain ⟨p, q, ns, t, most, wid, rfl, hP, hm1, hm2, hw1, hw2, ht, qq⟩ := h
    refine ⟨_, PSs.nox (pss_cons (ps_set (i := 3) sc_law_rows.nd rfl (Or.inl rfl) (pe_ix ix_list (pe_lst (pa_cons (pe_op op_add pe_int (pe_call (ok_law_pick T) (hr.mono (by decide)) rfl T.g_law_pick T.F_law_pick.kp (bd_law_pick T) .nil pass0 (pa_cons (pv 0) (pa_cons (pe_callB (call_min2 rfl) (by rfl) T.b_min (by decide +kernel) (pa_cons pe_int (pa_cons (pv 1) pa_nil))) pa_nil)))) (pa_cons (pe_op op_add pe_int (pe_call (ok_law_pick T) (hr.mono (by decide)) rfl T.g_law_pick T.F_law_pick.kp (bd_law_pick T) .nil pass0 (pa_cons (pv 0) (pa_cons (pv 1) pa_nil)))) (pa_cons (pv 1) pa_nil)))) (pe_call (ok_law_pick T) (hr.mono (by decide)) rfl T.g_law_pick T.F_law_pick.kp (bd_law_pick T) .nil pass0 (pa_cons (pv 0) (pa_cons pe_int pa_nil))) (fun _ _ => rfl)))
 (pss_cons (ps_set (i := 4) sc_law_rows.nd rfl (Or.inl rfl) (pe_cmpR op_eq (pe_call (ok_law_pick T) (hr.mono (by decide)) rfl T.g_law_pick T.F_law_pick.kp (bd_law_pick T) .nil pass0 (pa_cons (pv 0) (pa_cons pe_int pa_nil))) pe_int (nomark _)))
 (pss_cons (ps_set (i := 5) sc_law_rows.nd rfl (Or.inl rfl) (pe_call (ok_law_shuffled T) (hr.mono (by decide)) rfl T.g_law_shuffled T.F_law_shuffled.kp (bd_law_shuffled T) .nil pass0 (pa_cons (pv 0) (pa_cons (pe_listRg rfl (by rfl) T.b_list (prg_1 (by rfl) T.b_range (pv 3))) pa_nil))))
 (pss_cons (ps_set (i := 6) sc_law_rows.nd rfl (Or.inr rfl) (pe_lst pa_nil))
 (pss_cons (ps_set (i := 7) sc_law_rows.nd rfl (Or.inl rfl) (pe_op op_rep (pe_lst (pa_cons pe_non pa_nil)) (pv 3)))
 (pss_cons (ps_while PassesOwn.never (pt_cmpR (op_neNil hr.units) (pv 5) (pe_lst pa_nil) (nomark _))
 (pss_cons (ps_set (i := 8) sc_law_rows.nd rfl (Or.inl rfl) (pe_slice sl_list (pv 5) po_none (po_some (pe_op op_add pe_int (pe_call (ok_law_pick T) (hr.mono (by decide)) rfl T.g_law_pick T.F_law_pick.kp (bd_law_pick T) .nil pass0 (pa_cons (pv 0) (pa_cons (pv 2) pa_nil)))))))
 (pss_cons (ps_set (i := 5) sc_law_rows.nd rfl (Or.inl rfl) (pe_slice sl_list (pv 5) (po_some (pe_callB call_len_seq (by rfl) T.b_len (by decide +kernel) (pa_cons (pv 8) pa_nil))) po_none))
 (pss_cons (ps_set (i := 9) sc_law_rows.nd rfl (Or.inl rfl) (pe_call (ok_law_pick T) (hr.mono (by decide)) rfl T.g_law_pick T.F_law_pick.kp (bd_law_pick T) .nil pass0 (pa_cons (pv 0) (pa_cons pe_int pa_nil))))
 (pss_cons (ps_for PassesOwn.never rfl (pi_enum (by rfl) T.b_enumerate (pa_cons (pv 8) pa_nil)) (pg_tup rfl (pgs_cons (pg_name (i := 10) sc_law_rows.nd rfl (Or.inl rfl)) (pgs_cons (pg_name (i := 11) sc_law_rows.nd rfl (Or.inl rfl)) pgs_nil)))
 (pss_cons (ps_set (i := 12) sc_law_rows.nd rfl (Or.inl rfl) (pe_op op_cat (pe_call (ok_law_inner T) (hr.mono (by decide)) rfl T.g_law_inner T.F_law_inner.kp (bd_law_inner T) .nil pass0 (pa_cons (pv 0) (pa_cons (pv 8) (pa_cons (pv 10) (pa_cons (pv 9) pa_nil))))) (pe_lc (own := [("_law_one", 13)]) (g := gName 13) rfl sc_law_rows.nd (pi_list (pv 6)) (blkOk_by (own := [("_law_one", 13)]) (N := ["_law_pen_here", "_law_most", "_law_widest", "_law_many", "_law_calm", "_law_left", "_law_ahead", "_law_found", "_law_block", "_law_way", "_law_k", "_law_spot", "_law_some", "_law_one"]) (sc := defScope s_law_rows) (by decide +kernel)) (fun _ _ _ _ _ => (pg_name (i := 13) sc_law_rows.nd rfl (by first | exact Or.inl rfl | exact Or.inr rfl))) (fun _ _ _ _ _ => pts_one (pt_cmpR op_eq (pe_call (ok_law_pick T) (hr.mono (by decide)) rfl T.g_law_pick T.F_law_pick.kp (bd_law_pick T) .nil pass0 (pa_cons (pv 0) (pa_cons (pe_op op_add pe_int (pe_callB (call_len_seqK (K := K)) (by rfl) T.b_len (by decide +kernel) (pa_cons (pv 6) pa_nil))) pa_nil))) pe_int (nomark _))) (fun _ _ _ _ _ => (pv 13)))))
 (pss_cons (ps_set (i := 12) sc_law_rows.nd rfl (Or.inl rfl) (pe_slice sl_list (pe_call (ok_law_shuffled T) (hr.mono (by decide)) rfl T.g_law_shuffled T.F_law_shuffled.kp (bd_law_shuffled T) .nil pass0 (pa_cons (pv 0) (pa_cons (pe_callB (cr_sortedSet rfl) (by rfl) T.b_sorted (by decide +kernel) (pa_cons (pe_callTy (cr_setSeq rfl) (by rfl) T.b_set (by decide +kernel) (pa_cons (pv 12) pa_nil)) pa_nil)) pa_nil))) po_none (po_some pe_int)))
 (pss_one (ps_asg (pe_tup (pa_cons (pe_callTy call_tuple_of (by rfl) T.b_tuple (by decide +kernel) (pa_cons (pv 12) pa_nil)) (pa_cons (pe_call (ok_law_rule T) (hr.mono (by decide)) rfl T.g_law_rule T.F_law_rule.kp (bd_law_rule T) .nil pass0 (pa_cons (pv 0) (pa_cons (pv 4) pa_nil))) (pa_cons (pe_ix ix_list (pe_lst (pa_cons pe_int (pa_cons (pe_call (ok_law_pick T) (hr.mono (by decide)) rfl T.g_law_pick T.F_law_pick.kp (bd_law_pick T) .nil pass0 (pa_cons (pv 0) (pa_cons pe_int pa_nil))) pa_nil))) (pe_call (ok_law_pick T) (hr.mono (by decide)) rfl T.g_law_pick T.F_law_pick.kp (bd_law_pick T) .nil pass0 (pa_cons (pv 0) (pa_cons pe_int pa_nil))) (fun _ _ => rfl)) pa_nil)))) (pg_sub (pv 7) (pv 11) set_list))))))
 (pss_one (ps_set (i := 6) sc_law_rows.nd rfl (Or.inr rfl) (pe_op op_cat (pv 6) (pv 8)))))))))
 (pss_one (ps_ret (pv 7))))))))), ?_⟩
    have hmin : (if ((most : Nat) : Int) < 5 then ((most : Nat) : Int) else 5) = ((min 5 most : Nat) : Int) := by split <;> omega
    refine ⟨_, rfl, _, rfl, 5, most, rfl, p, q, ns, t, min 5 most, (by show [V.ref p, V.int (if ((most : Nat) : Int) < 5 then ((most : Nat) : Int) else 5)] = _; rw [hmin]), hP, by omega, by omega, by omega, fun H1 r1 t1 k1 P1 ht1 hr1 => ?_⟩
    refine ⟨_, _, rfl, rfl, _, rfl, _, rfl, p, q, ns, t1, most, rfl, P1, by omega, by omega, by omega, fun H2 r2 t2 k2 P2 ht2 hr2 => ⟨_, _, rfl, rfl, _, rfl, sz3, fun L hL => ?_⟩⟩
    have s3 : Same H2 (upd H2 L (.lst [.int ((1 + r1 : Nat) : Int), .int ((1 + r2 : Nat) : Int), vn most])) := same_upd hL
    have f3 : upd H2 L (.lst [.int ((1 + r1 : Nat) : Int), .int ((1 + r2 : Nat) : Int), vn most]) L = some (.lst [.int ((1 + r1 : Nat) : Int), .int ((1 + r2 : Nat) : Int), vn most]) := upd_same
    obtain ⟨nLp, nLq⟩ := P2.freshP hL
    have P3 := P2.same s3
    have k3 : KeepX p H _ := (k1.trans k2).trans (KeepX.of s3)
    have eL : (HO.lst [V.int (1 + (r1 : Nat)), V.int (1 + (r2 : Nat)), vn most]) = .lst [.int ((1 + r1 : Nat) : Int), .int ((1 + r2 : Nat) : Int), vn most] := by
      rw [show (1 : Int) + (r1 : Nat) = ((1 + r1 : Nat) : Int) from by omega, show (1 : Int) + (r2 : Nat) = ((1 + r2 : Nat) : Int) from by omega]
    dsimp only
    rw [eL]
    generalize upd H2 L (.lst [.int ((1 + r1 : Nat) : Int), .int ((1 + r2 : Nat) : Int), vn most]) = H3 at s3 f3 P3 k3
    refine ⟨_, rfl, p, q, ns, t2, 3, rfl, P3, by omega, by omega, by omega, fun H4 r3 t4 k4 P4 ht4 hr3 => ?_⟩
    have f4 := k4 _ _ nLp f3
    obtain ⟨many, hmv, hy1, hy2⟩ : ∃ m : Nat, ([.int ((1 + r1 : Nat) : Int), .int ((1 + r2 : Nat) : Int), vn most] : List V)[r3]? = some (vn m) ∧ 1 ≤ m ∧ m ≤ 24 := by
      match r3, hr3 with
      | 0, _ => exact ⟨1 + r1, rfl, by omega, by omega⟩
      | 1, _ => exact ⟨1 + r2, rfl, by omega, by omega⟩
      | 2, _ => exact ⟨most, rfl, by omega, by omega⟩
    refine ⟨L, _, _, _, rfl, rfl, SqL.of f4, atI_nat hmv, ?_⟩
    have k04 := k3.trans k4
    clear hmv f4 f3 eL s3 hL
    -- calm
    refine ⟨_, rfl, p, q, ns, t4, 3, rfl, P4, by omega, by omega, by omega, fun H5 r5 t5 k5 P5 ht5 hr5 => ⟨rfl, ?_⟩⟩
    generalize decide (V.int ((r5 : Nat) : Int) = V.int 0) = calm
    have k05 := k04.trans k5
    -- left
    refine ⟨_, rfl, _, rfl, _, rfl, ⟨by omega, by omega, by omega, by omega, by omega⟩, fun c hc => ?_⟩
    rw [rgV_cells]
    obtain ⟨ncp, ncq⟩ := P5.freshP hc
    have P6 := P5.new hc (o := .lst (cellsV many))
    have k6 := k05.new (k05.freeP P5 hc) (o := .lst (cellsV many))
    refine ⟨p, q, c, ns, t5, List.range many, rfl, P6, upd_same, by rw [List.length_range]; omega, by omega, fun H7 la L0 t7 k7 hla P7 f7 hperm ht7 => ?_⟩
    rw [List.length_range] at ht7
    have k07 := k6.trans k7
    have hla0 := k6.freeP P6 hla
    obtain ⟨nlp, nlq⟩ := P6.freshP hla
    -- ahead, found
    refine ⟨Nat.zero_le _, fun aa haa => ?_⟩
    obtain ⟨nap, naq⟩ := P7.freshP haa
    have haa0 := k07.freeP P7 haa
    have P8 := P7.new haa (o := .lst [])
    have k8 := k07.new haa0 (o := .lst [])
    have f8a : upd H7 aa (.lst []) aa = some (.lst (([] : List Nat).map vn)) := upd_same
    have f8l : upd H7 aa (.lst []) la = some (.lst (L0.map vn)) := by rw [upd_ne (ne_of_none f7 haa)]; exact f7
    have nla : la ≠ aa := ne_of_none f7 haa
    generalize upd H7 aa (.lst []) = H8 at P8 k8 f8a f8l
    refine ⟨sz1, fun np hnp => ⟨_, rfl, np, _, [.non], rfl, rfl, upd_same, by omega, by omega, Nat.le_of_lt (small1000 (by simp; omega)), fun fa hfa => ?_⟩⟩
    rw [Int.toNat_natCast, rep_one]
    obtain ⟨nnp, nnq⟩ := P8.freshP hnp
    have P9 := P8.new hnp (o := .lst [V.non])
    have k9 := k8.new (k8.freeP P8 hnp) (o := .lst [V.non])
    have f9a : upd H8 np (.lst [V.non]) aa = some (.lst (([] : List Nat).map vn)) := by rw [upd_ne (ne_of_none f8a hnp)]; exact f8a
    have f9l : upd H8 np (.lst [V.non]) la = some (.lst (L0.map vn)) := by rw [upd_ne (ne_of_none f8l hnp)]; exact f8l
    generalize upd H8 np (.lst [V.non]) = H9 at P9 k9 f9a f9l hfa
    obtain ⟨nfp, nfq'⟩ := P9.freshP hfa
    have hfa0 := k9.freeP P9 hfa
    have P10 := P9.new hfa (o := .lst (List.replicate many V.non))
    have k10 := k9.new hfa0 (o := .lst (List.replicate many V.non))
    have f10a : upd H9 fa (.lst (List.replicate many V.non)) aa = some (.lst (([] : List Nat).map vn)) := by rw [upd_ne (ne_of_none f9a hfa)]; exact f9a
    have f10l : upd H9 fa (.lst (List.replicate many V.non)) la = some (.lst (L0.map vn)) := by rw [upd_ne (ne_of_none f9l hfa)]; exact f9l
    have f10f : upd H9 fa (.lst (List.replicate many V.non)) fa = some (.lst (List.replicate many V.non)) := upd_same
    have nlf : la ≠ fa := ne_of_none f9l hfa
    have naf : aa ≠ fa := ne_of_none f9a hfa
    generalize upd H9 fa (.lst (List.replicate many V.non)) = H10 at P10 k10 f10a f10l f10f
    -- the blocks
    refine while_ne (fun σ H' => ∃ (la aa : Addr) (L A : List Nat) (ws : List V) (t' : Nat) (s8 s9 s10 s11 s12 : Option V), σ = [some (.ref p), some (vn most), some (vn wid), some (vn many), some (.bl calm), some (.ref la), some (.ref aa), some (.ref fa), s8, s9, s10, s11, s12, none] ∧
        KeepX p H H' ∧ Pen H' p q ns t' ∧ t' ≤ t + 40 + 102 * A.length ∧ H' la = some (.lst (L.map vn)) ∧ H' aa = some (.lst (A.map vn)) ∧ H' fa = some (.lst ws) ∧ FoundAt H' ws many A ∧ (A ++ L).Perm (List.range many) ∧ la ≠ p ∧ aa ≠ p ∧ la ≠ fa ∧ aa ≠ fa)
      (fun (σ : L2.St) (H' : Hp) => match σ[5]? with
        | some (some (V.ref a)) => (match H' a with | some (.lst xs) => xs.length | _ => 0)
        | _ => 0)
      ⟨la, aa, L0, [], _, t7, _, _, _, _, _, rfl, k10, P10, by simp; omega, f10l, f10a, f10f, ⟨by simp, by simp⟩, by simpa using hperm, nlp, nap, nlf, naf⟩ ?_
    clear f10f f10l f10a k10 P10 nlf naf f9l f9a k9 P9 f8l f8a k8 P8 nla hperm f7 P7 k7 k07 hla hla0 nlp nlq hfa haa nap naq
    rintro σ H1 ⟨la, aa, L, A, ws, t1, s8, s9, s10, s11, s12, rfl, k1, P1, ht1, hLa, hAa, hFa, hfd, hperm, nlp, nap, nlf, naf⟩
    have hnd : (A ++ L).Nodup := (hperm.nodup_iff).mpr List.nodup_range
    have hAL : A.length + L.length = many := by rw [← List.length_append, hperm.length_eq, List.length_range]
    have hlt : ∀ x ∈ A ++ L, x < many := fun x hx => List.mem_range.mp (hperm.mem_iff.mp hx)
    refine ⟨la, L.map vn, L.map pdC, 0, rfl, hLa, dpAll_cells L, shal_cells L, by decide, fun e he nle => ⟨dpAll_cells L, fun hne => ?_, fun hnil => ?_⟩⟩
    · have k2 := k1.new (k1.freeP P1 he) (o := .lst [])
      have P2 := P1.new he (o := .lst [])
      have hLa2 : upd H1 e (.lst []) la = some (.lst (L.map vn)) := by rw [upd_ne nle]; exact hLa
      have hAa2 : upd H1 e (.lst []) aa = some (.lst (A.map vn)) := by rw [upd_ne (ne_of_none hAa he)]; exact hAa
      have hFa2 : upd H1 e (.lst []) fa = some (.lst ws) := by rw [upd_ne (ne_of_none hFa he)]; exact hFa
      have hfd2 : FoundAt (upd H1 e (.lst [])) ws many A := hfd.keep fun a ys h => by rw [upd_ne (ne_of_none h he)]; exact h
      have hLne : L ≠ [] := fun z => hne (by rw [z]; rfl)
      have hLpos : 0 < L.length := List.length_pos_iff.mpr hLne
      generalize upd H1 e (.lst []) = H2 at k2 P2 hLa2 hAa2 hFa2 hfd2
      -- the block
      refine ⟨_, rfl, _, rfl, _, rfl, p, q, ns, t1, wid, rfl, P2, by omega, by omega, by omega, fun H3 r t3 k3 P3 ht3 hrw => ⟨_, _, rfl, rfl, _, rfl, la, _, rfl, SqL.of (k3 _ _ nlp hLa2), fun bl hbl => ?_⟩⟩
      rw [show (1 : Int) + (r : Nat) = ((1 + r : Nat) : Int) from by omega, cut_to]
      have hLa3 := k3 _ _ nlp hLa2
      have hAa3 := k3 _ _ nap hAa2
      have hFa3 := k3 _ _ nfp hFa2
      obtain ⟨nbp, nbq⟩ := P3.freshP hbl
      have hBl : (L.take (1 + r)).length ≤ L.length := by rw [List.length_take]; omega
      have hBpos : 0 < (L.take (1 + r)).length := by rw [List.length_take]; omega
      have hsplit : L = L.take (1 + r) ++ L.drop (L.take (1 + r)).length := by
        rw [List.length_take]
        by_cases h : 1 + r ≤ L.length
        · rw [Nat.min_eq_left h, List.take_append_drop]
        · rw [Nat.min_eq_right (by omega), List.drop_length, List.append_nil, List.take_of_length_le (by omega)]
      generalize hB : L.take (1 + r) = B at hbl hBl hBpos hsplit
      obtain ⟨xsp, hpx⟩ := P2.lst
      have hfd3 : FoundAt H3 ws many A := hfd2.keep fun a ys h => k3.tup hpx h
      have P4 := P3.new hbl (o := .lst (B.map vn))
      have k4 := (k2.trans k3).new ((k2.trans k3).freeP P3 hbl) (o := .lst (B.map vn))
      have hB4 : upd H3 bl (.lst (B.map vn)) bl = some (.lst (B.map vn)) := upd_same
      have hLa4 : upd H3 bl (.lst (B.map vn)) la = some (.lst (L.map vn)) := by rw [upd_ne (ne_of_none hLa3 hbl)]; exact hLa3
      have hAa4 : upd H3 bl (.lst (B.map vn)) aa = some (.lst (A.map vn)) := by rw [upd_ne (ne_of_none hAa3 hbl)]; exact hAa3
      have hFa4 : upd H3 bl (.lst (B.map vn)) fa = some (.lst ws) := by rw [upd_ne (ne_of_none hFa3 hbl)]; exact hFa3
      have hfd4 : FoundAt (upd H3 bl (.lst (B.map vn))) ws many A := hfd3.keep fun a ys h => by rw [upd_ne (ne_of_none h hbl)]; exact h
      have nbf : bl ≠ fa := Ne.symm (ne_of_none hFa3 hbl)
      generalize upd H3 bl (.lst (B.map vn)) = H4 at P4 k4 hB4 hLa4 hAa4 hFa4 hfd4
      -- the others
      refine ⟨_, rfl, _, rfl, bl, _, rfl, .inl (SqL.of hB4), _, rfl, la, _, rfl, SqL.of hLa4, fun lb hlb => ?_⟩
      rw [List.length_map, cut_from]
      generalize hR : L.drop B.length = R at hlb hsplit
      obtain ⟨nlbp, nlbq⟩ := P4.freshP hlb
      have P5 := P4.new hlb (o := .lst (R.map vn))
      have k5 := k4.new (k4.freeP P4 hlb) (o := .lst (R.map vn))
      have hR5 : upd H4 lb (.lst (R.map vn)) lb = some (.lst (R.map vn)) := upd_same
      have hB5 : upd H4 lb (.lst (R.map vn)) bl = some (.lst (B.map vn)) := by rw [upd_ne (ne_of_none hB4 hlb)]; exact hB4
      have hAa5 : upd H4 lb (.lst (R.map vn)) aa = some (.lst (A.map vn)) := by rw [upd_ne (ne_of_none hAa4 hlb)]; exact hAa4
      have hFa5 : upd H4 lb (.lst (R.map vn)) fa = some (.lst ws) := by rw [upd_ne (ne_of_none hFa4 hlb)]; exact hFa4
      have hfd5 : FoundAt (upd H4 lb (.lst (R.map vn))) ws many A := hfd4.keep fun a ys h => by rw [upd_ne (ne_of_none h hlb)]; exact h
      have nlbf : lb ≠ fa := Ne.symm (ne_of_none hFa4 hlb)
      generalize upd H4 lb (.lst (R.map vn)) = H5 at P5 k5 hR5 hB5 hAa5 hFa5 hfd5
      -- way
      refine ⟨_, rfl, p, q, ns, t3, 5, rfl, P5, by omega, by omega, by omega, fun H6 way t6 k6 P6 ht6 hway => ?_⟩
      obtain ⟨xs5, hp5⟩ := P5.lst
      have hR6 := k6 _ _ nlbp hR5
      have hB6 := k6 _ _ nbp hB5
      have hAa6 := k6 _ _ nap hAa5
      have hFa6 := k6 _ _ nfp hFa5
      have hfd6 : FoundAt H6 ws many A := hfd5.keep fun a ys h => k6.tup hp5 h
      have k06 := k5.trans k6
      have hABlt : ∀ x ∈ A ++ B, x < many := fun x hx => hlt x (by
        rcases List.mem_append.mp hx with h | h
        · exact List.mem_append_left _ h
        · exact List.mem_append_right _ (by rw [hsplit]; exact List.mem_append_left _ h))
      refine ⟨_, rfl, bl, _, rfl, SqL.of hB6, ?_⟩
      refine for_it (walk_enum (K := K) (a := bl) (xs := B.map vn)) (fun i σ H' => (∃ s10 s11 s12, σ = [some (.ref p), some (vn most), some (vn wid), some (vn many), some (.bl calm), some (.ref lb), some (.ref aa), some (.ref fa), some (.ref bl), some (vn way), s10, s11, s12, none]) ∧
          ∃ ws t', Keep2 p fa H6 H' ∧ Pen H' p q ns t' ∧ t' ≤ t6 + 100 * i ∧ H' fa = some (.lst ws) ∧ FoundAt H' ws many (A ++ B.take i))
        ⟨⟨_, _, _, rfl⟩, ws, t6, Keep2.refl, P6, by omega, hFa6, by simpa using hfd6⟩ (fun i σ H' _ h => by obtain ⟨_, ws, t', h1, -⟩ := h; exact SqL.of (h1 _ _ nbp nbf hB6)) ?_ ?_
      · rintro i x σ H7 H8 hi ⟨⟨s10, s11, s12, rfl⟩, ws7, t7, k7, P7, ht7, hF7, hfd7⟩ ⟨T', x1, x2, rfl, hT, rfl, e1, e2⟩
        rw [List.length_map] at hi
        have hspB : B[i]? = some (B[i]'hi) := List.getElem?_eq_getElem hi
        generalize B[i]'hi = spot at hspB
        have e1' : x1 = vn i := by cases e1; rfl
        have e2' : x2 = vn spot := by
          have e2 : (B.map vn)[i]? = some x2 := e2
          rw [List.getElem?_map, hspB] at e2; cases e2; rfl
        subst e1' e2'
        have hspl : spot < many := hABlt spot (List.mem_append_right _ (List.mem_of_getElem? hspB))
        have hBle : B.length ≤ 24 := by omega
        have P8 := P7.new hT (o := .tup [vn i, vn spot])
        have k8 := k7.trans (Keep2.of (same_upd hT (o := .tup [vn i, vn spot])))
        have hF8 : upd H7 T' (.tup [vn i, vn spot]) fa = some (.lst ws7) := by rw [upd_ne (ne_of_none hF7 hT)]; exact hF7
        have hfd8 : FoundAt (upd H7 T' (.tup [vn i, vn spot])) ws7 many (A ++ B.take i) := hfd7.keep fun a ys h => by rw [upd_ne (ne_of_none h hT)]; exact h
        refine ⟨_, _, rfl, SqT.of upd_same, rfl, _, _, rfl, _, _, rfl, rfl, ?_⟩
        generalize upd H7 T' (.tup [vn i, vn spot]) = H8 at P8 k8 hF8 hfd8
        have hB8 := k8 _ _ nbp nbf hB6
        -- inner
        refine ⟨_, rfl, _, rfl, _, rfl, _, rfl, p, q, bl, ns, t7, i, way, B, rfl, P8, nbp, hB8, hBle, hi, hway, by omega, fun H9 l1 xs1 t9 k9 hl1 P9 ht9 f9 hsub1 hxl1 => ?_⟩
        obtain ⟨n1p, n1q⟩ := P8.freshP hl1
        obtain ⟨px8, hpx8⟩ := P8.lst
        have hA9 := k9 _ _ nap (k8 _ _ nap naf hAa6)
        have hF9 := k9 _ _ nfp hF8
        have hfd9 : FoundAt H9 ws7 many (A ++ B.take i) := hfd8.keep fun a ys h => k9.tup hpx8 h
        have k69 := k8.trans (Keep2.ofX k9)
        have n1f : l1 ≠ fa := Ne.symm (ne_of_none hF8 hl1)
        refine ⟨_, rfl, aa, rfl, ⟨_, SqL.of hA9⟩, fun D hD => ?_⟩
        obtain ⟨nDp, nDq⟩ := P9.freshP hD
        have nDf : D ≠ fa := Ne.symm (ne_of_none hF9 hD)
        have nD1 : D ≠ l1 := Ne.symm (ne_of_none f9 hD)
        refine walk_any (walk_list (K := K) (a := aa) (xs := A.map vn)) (fun j H' => ∃ t' xs, KeepX p H9 H' ∧ Pen H' p q ns t' ∧ t' ≤ t9 + j ∧ H' D = some (.lst ((xs : List Nat).map vn)) ∧ xs.length ≤ j ∧ ∀ x ∈ xs, x ∈ A)
          ⟨t9, [], KeepX.refl.new hD, P9.new hD, by omega, upd_same, Nat.le_refl _, by simp⟩ (fun j H' _ h => by obtain ⟨t', xs, h1, -⟩ := h; exact SqL.of (h1 _ _ nap hA9)) ?_ ?_
        · rintro j y H10 H10' hj ⟨t10, xs, k10, P10, ht10, h10, hxl, hxs⟩ ⟨rfl, hy⟩
          obtain ⟨z, hz, rfl⟩ := map_at hy
          rw [List.length_map] at hj
          refine ⟨rfl, _, rfl, _, rfl, aa, _, rfl, .inl (SqL.of (k10 _ _ nap hA9)), _, _, rfl, rfl, p, q, ns, t10, 2 + A.length, ?_, P10, by omega, by omega, by omega, fun H11 s11 t11 k11 P11 ht11 hs11 => ⟨rfl, _, rfl, ?_⟩⟩
          · show [V.ref p, V.int (2 + (((A.map vn).length : Nat) : Int))] = _
            rw [List.length_map, show (2 : Int) + ((A.length : Nat) : Int) = ((2 + A.length : Nat) : Int) from by omega]
          have h11 := k11 _ _ nDp h10
          by_cases e : V.int (s11 : Nat) = V.int 0
          · rw [decide_eq_true e]
            refine iteT ⟨_, rfl, _, h11, small1000 (by rw [List.length_map]; omega), t11, xs ++ [z], fun y o hy h => ?_, P11.other nDp nDq, by omega, by rw [upd_same]; simp, by simp; omega, fun x hx => ?_⟩
            · rw [upd_ne (ne_of_none h hD)]
              exact k11 _ _ hy (k10 _ _ hy h)
            · rcases List.mem_append.mp hx with hx | hx
              · exact hxs x hx
              · simp at hx; subst hx; exact List.mem_of_getElem? hz
          · rw [decide_eq_false e]
            exact iteF ⟨t11, xs, k10.trans k11, P11, by omega, h11, by omega, hxs⟩
        · rintro H10 ⟨t10, xs2, k10, P10, ht10, h10, hxl2, hsub2⟩
          rw [List.length_map] at hxl2 ht10
          have f10 := k10 _ _ n1p f9
          have hF10 := k10 _ _ nfp hF9
          obtain ⟨px9, hpx9⟩ := P9.lst
          have hfd10 : FoundAt H10 ws7 many (A ++ B.take i) := hfd9.keep fun a ys h => k10.tup hpx9 h
          have k610 := k69.trans (Keep2.ofX k10)
          refine ⟨l1, D, _, _, rfl, rfl, f10, h10, Nat.le_of_lt (small1000 (by simp only [List.length_map]; omega)), fun l3 hl3 => ?_⟩
          rw [← List.map_append]
          have hlt3 : ∀ x ∈ xs1 ++ xs2, x < many := fun x hx => hABlt x (by
            rcases List.mem_append.mp hx with h | h
            · exact List.mem_append_right _ (hsub1 x h)
            · exact List.mem_append_left _ (hsub2 x h))
          have hxl3 : (xs1 ++ xs2).length ≤ 100 := by rw [List.length_append]; omega
          generalize xs1 ++ xs2 = xs3 at hlt3 hxl3
          have P11 := P10.new hl3 (o := .lst (xs3.map vn))
          have s11 : Same H10 (upd H10 l3 (.lst (xs3.map vn))) := same_upd hl3
          have f11 : upd H10 l3 (.lst (xs3.map vn)) l3 = some (.lst (xs3.map vn)) := upd_same
          generalize upd H10 l3 (.lst (xs3.map vn)) = H11 at P11 s11 f11
          -- sorted(set(..))
          refine ⟨_, rfl, _, rfl, l3, xs3.map (fun c : Nat => (c : Int)), rfl, .inl (SqL.of (by rw [List.map_map]; exact f11)), by rw [List.length_map]; omega, fun sp c hsp hLL => ?_⟩
          obtain ⟨LL, hL1, hL2, hL3⟩ := hLL
          have hc : c ≤ 24 := by
            rw [← hL2]
            refine Nat.le_trans (nodupI_le hL1 fun k hk => ?_) hy2
            obtain ⟨x, hx, rfl⟩ := List.mem_map.mp ((hL3 k).mp hk)
            exact ⟨x, hlt3 x hx, rfl⟩
          refine ⟨sp, _, c, rfl, upd_same, by omega, fun zs l5 hz1 hz2 hz3 hl5 => ?_⟩
          have hzn : ∀ k ∈ zs, ∃ x : Nat, x < many ∧ k = (x : Int) := fun k hk => by
            have := (hz2 k).mp hk
            rw [decide_eq_true_eq] at this
            obtain ⟨x, hx, rfl⟩ := List.mem_map.mp this
            exact ⟨x, hlt3 x hx, rfl⟩
          rw [toNat_map fun k hk => let ⟨x, _, e⟩ := hzn k hk; ⟨x, e⟩]
          have hznd : (zs.map Int.toNat).Nodup := by
            rw [List.Nodup, List.pairwise_map]
            refine List.Pairwise.imp_of_mem ?_ hz1
            intro a b ha hb hab e
            obtain ⟨x, _, rfl⟩ := hzn a ha
            obtain ⟨y, _, rfl⟩ := hzn b hb
            simp at e
            omega
          have hzl : ∀ x ∈ zs.map Int.toNat, x < many := fun x hx => by
            obtain ⟨k, hk, rfl⟩ := List.mem_map.mp hx
            obtain ⟨y, hy, rfl⟩ := hzn k hk
            exact hy
          have hzc : (zs.map Int.toNat).length = c := by rw [List.length_map]; exact hz3
          generalize zs.map Int.toNat = us at hznd hzl hzc
          have s12 := (same_upd hsp (o := SetO w sp (fun j => decide (j ∈ xs3.map (fun c : Nat => (c : Int)))) c)).trans (same_upd hl5 (o := .lst (us.map vn)))
          refine ⟨p, q, l5, ns, t10, us, rfl, P11.same s12, upd_same, by omega, by omega, fun H13 l6 ys t13 k13 hl6 P13 f13 hpm ht13 => ?_⟩
          have s11' := s11.trans s12
          have k613 := (k610.trans (Keep2.of s11')).trans (Keep2.ofX k13)
          have hF13 := k13 _ _ nfp (s11' _ _ hF10)
          obtain ⟨px12, hpx12⟩ := (P11.same s12).lst
          have hfd13 : FoundAt H13 ws7 many (A ++ B.take i) := (hfd10.keep fun a ys h => s11' _ _ h).keep fun a ys h => k13.tup hpx12 h
          refine ⟨8, rfl, l6, _, rfl, SqL.of f13, fun l7 hl7 => ?_⟩
          rw [show (8 : Int) = ((8 : Nat) : Int) from rfl, cut_to]
          have hond : (ys.take 8).Nodup := List.Nodup.sublist (List.take_sublist _ _) (hpm.nodup_iff.mpr hznd)
          have holt : ∀ x ∈ ys.take 8, x < many := fun x hx => hzl x (hpm.mem_iff.mp (List.mem_of_mem_take hx))
          have hole : (ys.take 8).length ≤ 8 := by rw [List.length_take]; omega
          generalize ys.take 8 = ops at hond holt hole
          have s14 : Same H13 (upd H13 l7 (.lst (ops.map vn))) := same_upd hl7
          have P14 := P13.same s14
          have f14 : upd H13 l7 (.lst (ops.map vn)) l7 = some (.lst (ops.map vn)) := upd_same
          generalize upd H13 l7 (.lst (ops.map vn)) = H14 at s14 P14 f14
          -- the triple
          refine ⟨_, rfl, l7, _, rfl, .inl ⟨SqL.of f14, fun ot hot => ?_⟩⟩
          have s15 : Same H14 (upd H14 ot (.tup (ops.map vn))) := same_upd hot
          have P15 := P14.same s15
          have f15 : upd H14 ot (.tup (ops.map vn)) ot = some (.tup (ops.map vn)) := upd_same
          generalize upd H14 ot (.tup (ops.map vn)) = H15 at s15 P15 f15
          obtain ⟨px15, hpx15⟩ := P15.lst
          refine ⟨_, rfl, _, rfl, p, q, ns, t13, calm, rfl, P15, by omega, fun H16 fv fn t16 k16 P16 ht16 hfn hfok => ?_⟩
          have f16 := k16.tup hpx15 f15
          obtain ⟨px16, hpx16⟩ := P16.lst
          refine ⟨_, rfl, p, q, ns, t16, 8, rfl, P16, by omega, by omega, by omega, fun H17 gv t17 k17 P17 ht17 hgv => ⟨sz2, fun M hM => ?_⟩⟩
          obtain ⟨nMp, nMq⟩ := P17.freshP hM
          have P18 := P17.new hM (o := .lst [V.int 0, V.int (gv : Nat)])
          have s18 : Same H17 (upd H17 M (.lst [V.int 0, V.int (gv : Nat)])) := same_upd hM
          have f18 : upd H17 M (.lst [V.int 0, V.int (gv : Nat)]) M = some (.lst [V.int 0, V.int (gv : Nat)]) := upd_same
          generalize upd H17 M (.lst [V.int 0, V.int (gv : Nat)]) = H18 at P18 s18 f18
          refine ⟨_, rfl, p, q, ns, t17, 2, rfl, P18, by omega, by omega, by omega, fun H19 z2 t19 k19 P19 ht19 hz2' => ?_⟩
          have f19 := k19 _ _ nMp f18
          obtain ⟨gs, hgs, hgl⟩ : ∃ gs : Nat, ([V.int 0, V.int (gv : Nat)] : List V)[z2]? = some (vn gs) ∧ gs < 8 := by
            match z2, hz2' with
            | 0, _ => exact ⟨0, rfl, by omega⟩
            | 1, _ => exact ⟨gv, rfl, hgv⟩
          refine ⟨M, _, _, _, rfl, rfl, SqL.of f19, atI_nat hgs, sz3, fun tt htt => ?_⟩
          have kx : KeepX p H16 H19 := (k17.trans (KeepX.of s18)).trans k19
          have s20 : Same H19 (upd H19 tt (.tup [.ref ot, fv, vn gs])) := same_upd htt
          have f20o : upd H19 tt (.tup [.ref ot, fv, vn gs]) ot = some (.tup (ops.map vn)) := s20 _ _ (kx.tup hpx16 f16)
          have f20t : upd H19 tt (.tup [.ref ot, fv, vn gs]) tt = some (.tup [.ref ot, fv, vn gs]) := upd_same
          have hfn20 : FnAt (upd H19 tt (.tup [.ref ot, fv, vn gs])) fv fn := (hfn.keepX kx hpx16).same s20
          have P20 := P19.same s20
          have kxx : KeepX p H13 (upd H19 tt (.tup [.ref ot, fv, vn gs])) := (((KeepX.of s14).trans (KeepX.of s15)).trans k16).trans (kx.trans (KeepX.of s20))
          have hF20 := kxx _ _ nfp hF13
          obtain ⟨px13, hpx13⟩ := P13.lst
          have hfd20 : FoundAt (upd H19 tt (.tup [.ref ot, fv, vn gs])) ws7 many (A ++ B.take i) := hfd13.keep fun a ys h => kxx.tup hpx13 h
          have k620 := k613.trans (Keep2.ofX kxx)
          generalize upd H19 tt (.tup [.ref ot, fv, vn gs]) = H20 at f20o f20t hfn20 P20 hF20 hfd20 k620
          have htrip : TripAt H20 (.ref tt) ⟨ops, fn, gs⟩ := ⟨tt, ot, fv, rfl, f20t, f20o, hfn20⟩
          have hrow : Row.Ok many ⟨ops, fn, gs⟩ := ⟨hond, holt, hole, hfok, lv_nat hgl⟩
          refine ⟨_, rfl, _, rfl, fa, _, _, spot, rfl, rfl, hF20, ?_, ?_⟩
          · rw [hfd20.1]
            unfold ixN
            rw [if_pos (by omega), if_pos (by omega)]
            rfl
          refine ⟨⟨_, _, _, rfl⟩, ws7.set spot (.ref tt), t19, k620.f, P20.other nfp nfq', by omega, upd_same, ?_⟩
          rw [take_snoc hspB, ← List.append_assoc]
          exact (hfd20.put hspl htrip hrow).keep fun a ys h => by rw [upd_ne (ne_of h hF20 (by simp))]; exact h
      · rintro σ H7 ⟨⟨s10, s11, s12, rfl⟩, ws7, t7, k7, P7, ht7, hF7, hfd7⟩
        rw [List.length_map] at ht7
        rw [List.length_map, List.take_length] at hfd7
        have hA7 := k7 _ _ nap naf hAa6
        have hB7 := k7 _ _ nbp nbf hB6
        have hR7 := k7 _ _ nlbp nlbf hR6
        refine ⟨_, rfl, _, rfl, aa, bl, _, _, rfl, rfl, hA7, hB7, Nat.le_of_lt (small1000 (by simp only [List.length_map]; omega)), fun ab hab => ?_⟩
        rw [← List.map_append]
        obtain ⟨nabp, nabq⟩ := P7.freshP hab
        have hLB : L.length = B.length + R.length := by rw [← List.length_append, ← hsplit]
        refine ⟨⟨lb, ab, R, A ++ B, ws7, t7, _, _, _, _, _, rfl, ?_, P7.new hab, ?_, by rw [upd_ne (ne_of_none hR7 hab)]; exact hR7, upd_same, by rw [upd_ne (ne_of_none hF7 hab)]; exact hF7, ?_, ?_, nlbp, nabp, nlbf, Ne.symm (ne_of_none hF7 hab)⟩, ?_⟩
        · intro z o hz h
          have h6 := k06 z o hz h
          have nz : z ≠ fa := ne_of_none h hfa0
          have h7 := k7 z o hz nz h6
          rw [upd_ne (ne_of_none h7 hab)]
          exact h7
        · rw [List.length_append]; omega
        · exact hfd7.keep fun a ys h => by rw [upd_ne (ne_of_none h hab)]; exact h
        · rw [List.append_assoc, ← hsplit]
          exact hperm
        · show (match upd H7 ab _ lb with | some (.lst xs) => xs.length | _ => 0) < (match H1 la with | some (.lst xs) => xs.length | _ => 0)
          rw [upd_ne (ne_of_none hR7 hab), hR7, hLa]
          simp only [List.length_map]
          omega
    · have hL : L = [] := by simpa using hnil
      subst hL
      rw [List.append_nil] at hperm
      have k2 := k1.new (k1.freeP P1 he) (o := .lst [])
      have hF2 : upd H1 e (.lst []) fa = some (.lst ws) := by rw [upd_ne (ne_of_none hFa he)]; exact hFa
      have hfd2 : FoundAt (upd H1 e (.lst [])) ws many A := hfd.keep fun a ys h => by rw [upd_ne (ne_of_none h he)]; exact h
      obtain ⟨rows, hr1, hr2⟩ := rows_of (H := upd H1 e (.lst [])) (n := many) ws fun i v e => by
        have hi : i < many := by rw [← hfd2.1]; exact (List.getElem?_eq_some_iff.mp e).1
        obtain ⟨v', r, h1, h2, h3⟩ := hfd2.2 i (hperm.mem_iff.mpr (List.mem_range.mpr hi))
        rw [e] at h1
        cases h1
        exact ⟨r, h2, h3⟩
      have hrl : rows.length = many := by rw [← hr1.1, hfd2.1]
      have hAl : A.length = many := by simpa using hAL
      exact ⟨_, rfl, qq _ fa ws rows t1 k2 nfp (P1.new he) (by omega) hF2 hr1 ⟨by omega, by omega, fun r hr => hrl ▸ hr2 r hr⟩⟩
end
end BgT
set_option Elab.async false
set_option linter.all false
set_option maxRecDepth 100000
set_option maxHeartbeats 4000000
namespace BgT
open PySem PySem.Spec PyProof.Rows L2
/-! ### breadth first -/
structure BI (S : Bg.Sys) (c : Nat) (fd : List Nat) (k : Nat) : Prop where
  nd : fd.Nodup
  rf : ∀ x ∈ fd, x < S.n ∧ Bg.Reach S c x
  at_ : c ∈ fd
  op : ∀ j x, j < k → fd[j]? = some x → ∀ o ∈ S.ops x, o ∈ fd
theorem BI.start {S : Bg.Sys} {c : Nat} (hc : c < S.n) : BI S c [c] 0 := ⟨by simp, fun x hx => by simp at hx; subst hx; exact ⟨hc, .refl x⟩, by simp, fun j x hj => absurd hj (Nat.not_lt_zero _)⟩
theorem BI.len {S : Bg.Sys} {c : Nat} {fd : List Nat} {k : Nat} (h : BI S c fd k) : fd.length ≤ S.n := Bg.nodup_le _ _ h.nd fun x hx => (h.rf x hx).1
theorem BI.step {S : Bg.Sys} (ok : S.Ok) {c : Nat} {fd : List Nat} {k x : Nat} (h : BI S c fd k) (hx : fd[k]? = some x) (hnd : (S.ops x).Nodup) : BI S c (fd ++ (S.ops x).filter fun o => decide (o ∉ fd)) (k + 1) := by
  obtain ⟨hxn, hxr⟩ := h.rf x (List.mem_of_getElem? hx)
  have hk : k < fd.length := (List.getElem?_eq_some_iff.mp hx).1
  refine ⟨?_, fun y hy => ?_, List.mem_append_left _ h.at_, fun j y hj hy o ho => ?_⟩
  · rw [List.nodup_append]
    refine ⟨h.nd, hnd.filter _, fun a ha b hb e => ?_⟩
    subst e
    have := (List.mem_filter.mp hb).2
    rw [decide_eq_true_eq] at this
    exact this ha
  · rcases List.mem_append.mp hy with hy | hy
    · exact h.rf y hy
    · have hy := (List.mem_filter.mp hy).1
      exact ⟨ok.ops x hxn y hy, hxr.op hxn hy⟩
  · have hjl : j < fd.length := by omega
    rw [List.getElem?_append_left hjl] at hy
    by_cases hjk : j = k
    · subst hjk
      rw [hx] at hy
      cases hy
      by_cases hof : o ∈ fd
      · exact List.mem_append_left _ hof
      · exact List.mem_append_right _ (List.mem_filter.mpr ⟨ho, by simpa using hof⟩)
    · exact List.mem_append_left _ (h.op j y (by omega) hy o ho)
theorem BI.done {S : Bg.Sys} {c : Nat} {fd : List Nat} {k : Nat} (h : BI S c fd k) (hk : fd.length ≤ k) : ∀ o, o ∈ fd ↔ Bg.Reach S c o := by
  intro o
  refine ⟨fun z => (h.rf o z).2, fun z => z (fun x => x ∈ fd) (fun x _ hx o ho => ?_) h.at_⟩
  obtain ⟨j, hj⟩ := List.mem_iff_getElem?.mp hx
  have := (List.getElem?_eq_some_iff.mp hj).1
  exact h.op j x (by omega) hj o ho
section
variable {P : Program} {w : World} {K : PySem.W.Frag} {mg : Str → Option Value} {base : Heap}
/-! ### _law_reached -/
theorem sc_law_reached : FnScope ["_law_rows_here", "_law_start", "_law_some", "_law_found", "_law_at", "_law_one"] ["_law_rows_here", "_law_start", "_law_some"] (defScope s_law_reached) := ⟨rfl, rfl, rfl, by decide +kernel, rfl, by decide +kernel, by decide +kernel⟩
theorem bd_law_reached {K : PySem.W.Frag} {mg : Str → Option Value} (T : Tx K mg) : Binds K (fdOf K (He.ga K "_law_reached")) ["_law_rows_here", "_law_start", "_law_some"] [] := T.F_law_reached.bindsN (fun _ _ _ _ _ _ us hl => match us, hl with | [_, _, _], _ => rfl)
def sp_law_reached : Sp := fun vs H Q _ => ∃ (wa sa : Addr) (ws : List V) (rows : List Row) (c : Nat), vs = [.ref wa, vn c, .ref sa] ∧ H wa = some (.lst ws) ∧ TripsAt H ws rows ∧ RowsOk rows ∧ H sa = some (.lst (cellsV rows.length)) ∧ c < rows.length ∧
  ∀ H' l (xs : List Nat), Same H H' → H l = none → H' l = some (.lst (xs.map vn)) → (∀ o, o ∈ xs ↔ Bg.Reach (sysOf rows) c o) → Q (.ref l) H'
theorem ok_law_reached (T : Tx K mg) : FO P w K mg base 1 (He.ga K "_law_reached") ["_law_rows_here", "_law_start", "_law_some"] sp_law_reached := by
  refine T.F_law_reached.ok sc_law_reached (fun vs H Q E h => ?_) (fun cdv A outer s H vs Q E hr h => ?_)
  · obtain ⟨wa, sa, ws, rows, c, rfl, _⟩ := h; rfl
  · obtain ⟨wa, sa, ws, rows, c, rfl, hw, htr, hok, hsa, hc, q⟩ := h
    refine ⟨_, PSs.nox (pss_cons (ps_set (i := 3) sc_law_reached.nd rfl (Or.inr rfl) (pe_lst (pa_cons (pv 1) pa_nil)))
 (pss_cons (ps_set (i := 4) sc_law_reached.nd rfl (Or.inl rfl) pe_int)
 (pss_cons (ps_while PassesOwn.never (pt_cmpR op_lt (pv 4) (pe_callB call_len_seq (by rfl) T.b_len (by decide +kernel) (pa_cons (pv 3) pa_nil)) (nomark _))
 (pss_cons (ps_expr (pe_bm PySem.F.plainAttrs_list PySem.F.slot_list_extend PySem.F.type_list_extend mt_extend (pv 3) (pa_cons (pe_lc (own := [("_law_one", 5)]) (g := gName 5) rfl sc_law_reached.nd (pi_tup (pe_ix ix_tup (pe_ix ix_list (pv 0) (pe_ix ix_list (pv 3) (pv 4) (fun _ _ => rfl)) (fun _ _ => rfl)) pe_int (fun _ _ => rfl))) (blkOk_by (own := [("_law_one", 5)]) (N := ["_law_rows_here", "_law_start", "_law_some", "_law_found", "_law_at", "_law_one"]) (sc := defScope s_law_reached) (by decide +kernel)) (fun _ _ _ _ _ => (pg_name (i := 5) sc_law_reached.nd rfl (by first | exact Or.inl rfl | exact Or.inr rfl))) (fun _ _ _ _ _ => pts_one (PW.pt (pw_and (pt_cmpR (op_in_seqK (K := K)) (pv 5) (pv 2) (by rfl)) (pw_and1 (pt_cmpR (op_notIn_seqK (K := K)) (pv 5) (pv 3) (by rfl)))))) (fun _ _ _ _ _ => (pv 5))) pa_nil)))
 (pss_one (ps_set (i := 4) sc_law_reached.nd rfl (Or.inl rfl) (pe_op op_add (pv 4) pe_int)))))
 (pss_one (ps_ret (pv 3)))))), ?_⟩
    refine ⟨_, rfl, sz1, fun f hf => ?_⟩
    have hle := hok.le
    refine while_by (fun σ H' => ∃ (fd : List Nat) (k : Nat), σ = [some (.ref wa), some (vn c), some (.ref sa), some (.ref f), some (vn k), none] ∧ Same H H' ∧ H' f = some (.lst (fd.map vn)) ∧ BI (sysOf rows) c fd k)
      (fun (σ : L2.St) (H' : Hp) => match σ[4]? with
        | some (some (V.int k)) => rows.length - k.toNat
        | _ => 0)
      ⟨[c], 0, rfl, same_upd hf, upd_same, .start hc⟩ ?_ ?_
    · rintro σ H1 ⟨fd, k, rfl, s1, h1, bi⟩
      have hfl : fd.length ≤ rows.length := bi.len
      refine ⟨_, rfl, _, rfl, f, _, rfl, .inl (SqL.of h1), _, _, rfl, rfl, _, rfl, ?_⟩
      by_cases hk : ((k : Nat) : Int) < ((fd.map vn).length : Nat)
      · rw [decide_eq_true hk]
        rw [List.length_map] at hk
        have hkl : k < fd.length := by omega
        have hx : fd[k]? = some fd[k] := List.getElem?_eq_getElem hkl
        generalize fd[k] = x at hx
        have hxn := (bi.rf x (List.mem_of_getElem? hx)).1
        obtain ⟨r, hr0⟩ := row_at (rows := rows) hxn
        have hops : (sysOf rows).ops x = r.ops := sys_ops hr0
        have hrk := hok.row hr0
        obtain ⟨v, hv, a, o, fv, rfl, ha, ho, -⟩ := htr.2 x r hr0
        refine iteT ⟨_, rfl, .inl ⟨rfl, _, SqL.of h1⟩, ?_⟩
        refine ⟨_, rfl, _, rfl, _, rfl, f, _, _, _, rfl, rfl, SqL.of h1, atI_nat (by rw [List.getElem?_map, hx]; rfl), wa, _, _, _, rfl, rfl, SqL.of (s1 _ _ hw), atI_nat hv, a, _, _, _, rfl, rfl, SqT.of (s1 _ _ ha), atI_nat (j := 0) rfl, ?_⟩
        refine ⟨o, rfl, ⟨_, SqT.of (s1 _ _ ho)⟩, fun D hD => ?_⟩
        refine walk_any (walk_tup (K := K) (a := o) (xs := r.ops.map vn)) (fun i H' => Same H1 H' ∧ H' D = some (.lst (((r.ops.take i).filter fun o => decide (o ∉ fd)).map vn))) ⟨same_upd hD, upd_same⟩ (fun i H' _ h => SqT.of (h.1 _ _ (s1 _ _ ho))) ?_ ?_
        · rintro i y H2 H2' hi ⟨s2, h2⟩ ⟨rfl, hy⟩
          obtain ⟨z, hz, rfl⟩ := map_at hy
          have hzn : z < rows.length := hrk.lt z (List.mem_of_getElem? hz)
          have hil := (List.getElem?_eq_some_iff.mp hz).1
          have hfew := hrk.few
          have hflt := List.length_filter_le (fun o => decide (o ∉ fd)) (r.ops.take i)
          rw [List.length_take] at hflt
          refine ⟨rfl, _, rfl, _, rfl, sa, _, rfl, .inl (SqL.of (s2 _ _ (s1 _ _ hsa))), rfl, flat_cells _, _, rfl, ?_⟩
          rw [show (if false = true then !inV (vn z) (cellsV rows.length) else inV (vn z) (cellsV rows.length)) = true from by
            show inV (vn z) ((List.range rows.length).map vn) = true
            rw [inV_cells]; simp [hzn]]
          refine iteT ⟨_, rfl, _, rfl, f, _, rfl, .inl (SqL.of (s2 _ _ h1)), rfl, flat_cells _, _, rfl, ?_⟩
          rw [show (if true = true then !inV (vn z) (fd.map vn) else inV (vn z) (fd.map vn)) = !decide (z ∈ fd) from by
            show (!inV (vn z) (fd.map vn)) = _
            rw [inV_cells]]
          by_cases hzf : z ∈ fd
          · rw [decide_eq_true hzf]
            refine iteF ⟨s2, ?_⟩
            rw [h2, take_snoc hz, List.filter_append]
            simp [hzf]
          · rw [decide_eq_false hzf]
            refine iteT ⟨_, rfl, _, h2, small1000 (by rw [List.length_map]; omega), sameN s2 hD, ?_⟩
            rw [upd_same, take_snoc hz, List.filter_append]
            simp [hzf]
        · rintro H2 ⟨s2, h2⟩
          rw [List.length_map, List.take_length] at h2
          have h2f := s2 _ _ h1
          have bi2 := bi.step hok.sys hx (by rw [hops]; exact hrk.nd)
          rw [hops] at bi2
          have hl2 := bi2.len
          rw [List.length_append] at hl2
          have hn : (sysOf rows).n = rows.length := rfl
          refine ⟨f, D, _, _, rfl, rfl, h2f, h2, Nat.le_of_lt (small1000 (by simp only [List.length_map]; omega)), ?_⟩
          rw [← List.map_append]
          refine ⟨_, rfl, _, _, rfl, rfl, ⟨_, k + 1, rfl, sameN (s1.trans s2) hf, upd_same, bi2⟩, ?_⟩
          show rows.length - (((k : Nat) : Int) + 1).toNat < rows.length - ((k : Nat) : Int).toNat
          omega
      · rw [decide_eq_false hk]
        rw [List.length_map] at hk
        exact iteF ⟨_, rfl, q H1 f fd s1 hf h1 (bi.done (by omega))⟩
    · intro σ H1 Q1 Q2 h qq
      obtain ⟨x, e, y, e2, a, ys, ex, ey, i, j, ei, ej, c, ec, q⟩ := qq
      exact ⟨x, e, y, e2, a, ys, ex, ey, i, j, ei, ej, c, ec, h _ _ q⟩
/-! ### _law_leads -/
theorem sc_law_leads : FnScope ["_law_rows_here", "_law_part", "_law_some", "_law_spot", "_law_one"] ["_law_rows_here", "_law_part", "_law_some"] (defScope s_law_leads) := ⟨rfl, rfl, rfl, by decide +kernel, rfl, by decide +kernel, by decide +kernel⟩
theorem bd_law_leads {K : PySem.W.Frag} {mg : Str → Option Value} (T : Tx K mg) : Binds K (fdOf K (He.ga K "_law_leads")) ["_law_rows_here", "_law_part", "_law_some"] [] := T.F_law_leads.bindsN (fun _ _ _ _ _ _ us hl => match us, hl with | [_, _, _], _ => rfl)
def sp_law_leads : Sp := fun vs H Q _ => ∃ (wa pa sa : Addr) (ws : List V) (rows : List Row) (D W : List Nat), vs = [.ref wa, .ref pa, .ref sa] ∧ H wa = some (.lst ws) ∧ TripsAt H ws rows ∧ RowsOk rows ∧ H pa = some (.tup (D.map vn)) ∧ H sa = some (.lst (W.map vn)) ∧ (∀ x ∈ D, x < rows.length) ∧
  ∀ H', Same H H' → Q (.bl (Bg.leads (sysOf rows) D W)) H'
theorem ok_law_leads (T : Tx K mg) : FO P w K mg base 1 (He.ga K "_law_leads") ["_law_rows_here", "_law_part", "_law_some"] sp_law_leads := by
  refine T.F_law_leads.ok sc_law_leads (fun vs H Q E h => ?_) (fun cdv A outer s H vs Q E hr h => ?_)
  · obtain ⟨wa, pa, sa, ws, rows, D, W, rfl, _⟩ := h; rfl
  · obtain ⟨wa, pa, sa, ws, rows, D0, W, rfl, hw, htr, hok, hpa, hsa, hlt, q⟩ := h
    refine ⟨_, PSs.nox (pss_cons (ps_for PassesOwn.never rfl (pi_tup (pv 1)) (pg_name (i := 3) sc_law_leads.nd rfl (Or.inl rfl))
 (pss_one (ps_if (pt_cmpR (op_neNil hr.units) (pe_lc (own := [("_law_one", 4)]) (g := gName 4) rfl sc_law_leads.nd (pi_tup (pe_ix ix_tup (pe_ix ix_list (pv 0) (pv 3) (fun _ _ => rfl)) pe_int (fun _ _ => rfl))) (blkOk_by (own := [("_law_one", 4)]) (N := ["_law_rows_here", "_law_part", "_law_some", "_law_spot", "_law_one"]) (sc := defScope s_law_leads) (by decide +kernel)) (fun _ _ _ _ _ => (pg_name (i := 4) sc_law_leads.nd rfl (by first | exact Or.inl rfl | exact Or.inr rfl))) (fun _ _ _ _ _ => pts_one (PW.pt (pw_and (pt_cmpR (op_in_seqK (K := K)) (pv 4) (pv 2) (by rfl)) (pw_and1 (pt_cmpR (op_notIn_seqK (K := K)) (pv 4) (pv 1) (by rfl)))))) (fun _ _ _ _ _ => (pv 4))) (pe_lst pa_nil) (nomark _))
 (pss_one (ps_ret pe_bl))
 pss_nil)))
 (pss_one (ps_ret pe_bl))), ?_⟩
    refine ⟨_, rfl, pa, rfl, ⟨_, SqT.of hpa⟩, ?_⟩
    refine for_tup (K := K) (a := pa) (xs := D0.map vn) (fun i σ H' => Same H H' ∧ (∃ a, σ = [some (.ref wa), some (.ref pa), some (.ref sa), a, none]) ∧ ∀ x ∈ D0.take i, ∀ o ∈ (sysOf rows).ops x, ¬ (o ∈ W ∧ o ∉ D0))
      ⟨Same.refl _, ⟨_, rfl⟩, by simp⟩ (fun i σ H' _ h => SqT.of (h.1 _ _ hpa)) ?_ ?_
    · rintro i x σ H1 hx ⟨s1, ⟨a0, rfl⟩, hno⟩
      obtain ⟨x, hx1, rfl⟩ := map_at hx
      have hxD : x ∈ D0 := List.mem_of_getElem? hx1
      obtain ⟨r, hr0⟩ := row_at (rows := rows) (hlt x hxD)
      have hops : (sysOf rows).ops x = r.ops := sys_ops hr0
      have hrk := hok.row hr0
      obtain ⟨v, hv, a, o, fv, rfl, ha, ho, -⟩ := htr.2 x r hr0
      refine ⟨_, rfl, _, rfl, wa, _, _, _, rfl, rfl, SqL.of (s1 _ _ hw), atI_nat hv, a, _, _, _, rfl, rfl, SqT.of (s1 _ _ ha), atI_nat (j := 0) rfl, o, rfl, ⟨_, SqT.of (s1 _ _ ho)⟩, fun D hD => ?_⟩
      refine walk_any (walk_tup (K := K) (a := o) (xs := r.ops.map vn)) (fun i H' => Same H1 H' ∧ H' D = some (.lst (((r.ops.take i).filter fun o => decide (o ∈ W) && !decide (o ∈ D0)).map vn))) ⟨same_upd hD, upd_same⟩ (fun i H' _ h => SqT.of (h.1 _ _ (s1 _ _ ho))) ?_ ?_
      · rintro j y H2 H2' hj ⟨s2, h2⟩ ⟨rfl, hy⟩
        obtain ⟨z, hz, rfl⟩ := map_at hy
        have hil := (List.getElem?_eq_some_iff.mp hz).1
        have hfew := hrk.few
        have hflt := List.length_filter_le (fun o => decide (o ∈ W) && !decide (o ∈ D0)) (r.ops.take j)
        rw [List.length_take] at hflt
        refine ⟨rfl, _, rfl, _, rfl, sa, _, rfl, .inl (SqL.of (s2 _ _ (s1 _ _ hsa))), rfl, flat_cells _, _, rfl, ?_⟩
        rw [show (if false = true then !inV (vn z) (W.map vn) else inV (vn z) (W.map vn)) = decide (z ∈ W) from inV_cells z W]
        by_cases hzW : z ∈ W
        · rw [decide_eq_true hzW]
          refine iteT ⟨_, rfl, _, rfl, pa, _, rfl, .inr (SqT.of (s2 _ _ (s1 _ _ hpa))), rfl, flat_cells _, _, rfl, ?_⟩
          rw [show (if true = true then !inV (vn z) (D0.map vn) else inV (vn z) (D0.map vn)) = !decide (z ∈ D0) from by
            show (!inV (vn z) (D0.map vn)) = _
            rw [inV_cells]]
          by_cases hzD : z ∈ D0
          · rw [decide_eq_true hzD]
            refine iteF ⟨s2, ?_⟩
            rw [h2, take_snoc hz, List.filter_append]
            simp [hzD]
          · rw [decide_eq_false hzD]
            refine iteT ⟨_, rfl, _, h2, small1000 (by rw [List.length_map]; omega), sameN s2 hD, ?_⟩
            rw [upd_same, take_snoc hz, List.filter_append]
            simp [hzD, hzW]
        · rw [decide_eq_false hzW]
          refine iteF ⟨s2, ?_⟩
          rw [h2, take_snoc hz, List.filter_append]
          simp [hzW]
      · rintro H2 ⟨s2, h2⟩
        rw [List.length_map, List.take_length] at h2
        refine ⟨sz0, fun e he => ?_⟩
        have s3 : Same H (upd H2 e (.lst [])) := (s1.trans s2).trans (same_upd he)
        refine ⟨D, e, _, _, 0, rfl, rfl, SqL.of (by rw [upd_ne (ne_of_none h2 he)]; exact h2), dpAll_cells _, shal_cells _, by decide, SqL.of upd_same, _, rfl, ?_⟩
        cases hf : r.ops.filter fun o => decide (o ∈ W) && !decide (o ∈ D0) with
        | nil =>
          refine iteF ⟨s3, ⟨_, rfl⟩, fun z hz => ?_⟩
          rcases mem_takeS hx1 hz with h | rfl
          · exact hno z h
          · rw [hops]
            intro o ho hh
            have := List.filter_eq_nil_iff.mp hf o ho
            simp [hh.1, hh.2] at this
        | cons y ys =>
          refine iteT ?_
          have hy : y ∈ r.ops.filter fun o => decide (o ∈ W) && !decide (o ∈ D0) := by rw [hf]; simp
          have e : Bg.leads (sysOf rows) D0 W = true := by
            unfold Bg.leads
            rw [List.any_eq_true]
            refine ⟨x, hxD, ?_⟩
            rw [hops, List.any_eq_true]
            exact ⟨y, (List.mem_filter.mp hy).1, (List.mem_filter.mp hy).2⟩
          have := q _ s3
          rw [e] at this
          exact this
    · rintro σ H1 ⟨s1, ⟨a, rfl⟩, hno⟩
      rw [List.length_map, List.take_length] at hno
      have e : Bg.leads (sysOf rows) D0 W = false := Bg.leads_false.mpr fun x hx o ho hW => Classical.byContradiction fun hD => hno x hx o ho ⟨hW, hD⟩
      have := q _ s1
      rw [e] at this
      exact this
/-! ### _law_first -/
theorem small9999 {n : Nat} (h : n ≤ 9999) : n < sizeLine := by rw [sizeLine_eq]; omega
theorem sc_law_first : FnScope ["_law_seen", "_law_part", "_law_one"] ["_law_seen", "_law_part"] (defScope s_law_first) := ⟨rfl, rfl, rfl, by decide +kernel, rfl, by decide +kernel, by decide +kernel⟩
theorem bd_law_first {K : PySem.W.Frag} {mg : Str → Option Value} (T : Tx K mg) : Binds K (fdOf K (He.ga K "_law_first")) ["_law_seen", "_law_part"] [] := T.F_law_first.bindsN (fun _ _ _ _ _ _ us hl => match us, hl with | [_, _], _ => rfl)
def sp_law_first : Sp := fun vs H Q _ => ∃ (sa pa : Addr) (seen D : List Nat), vs = [.ref sa, .ref pa] ∧ H sa = some (.lst (seen.map vn)) ∧ H pa = some (.tup (D.map vn)) ∧ seen.length ≤ 9000 ∧ ∀ H', Same H H' → Q (optN (Bg.first D seen)) H'
theorem ok_law_first (T : Tx K mg) : FO P w K mg base 1 (He.ga K "_law_first") ["_law_seen", "_law_part"] sp_law_first := by
  refine T.F_law_first.ok sc_law_first (fun vs H Q E h => ?_) (fun cdv A outer s H vs Q E hr h => ?_)
  · obtain ⟨sa, pa, seen, D, rfl, _⟩ := h; rfl
  · obtain ⟨sa, pa, seen, D0, rfl, hsa, hpa, hl, q⟩ := h
    refine ⟨_, PSs.nox (pss_one (ps_ret (pe_ix ix_list (pe_op op_cat (pe_lc (own := [("_law_one", 2)]) (g := gName 2) rfl sc_law_first.nd (pi_list (pv 0)) (blkOk_by (own := [("_law_one", 2)]) (N := ["_law_seen", "_law_part", "_law_one"]) (sc := defScope s_law_first) (by decide +kernel)) (fun _ _ _ _ _ => (pg_name (i := 2) sc_law_first.nd rfl (by first | exact Or.inl rfl | exact Or.inr rfl))) (fun _ _ _ _ _ => pts_one (pt_cmpR (op_in_seqK (K := K)) (pv 2) (pv 1) (by rfl))) (fun _ _ _ _ _ => (pv 2))) (pe_lst (pa_cons pe_non pa_nil))) pe_int (fun _ _ => rfl)))), ?_⟩
    refine ⟨_, rfl, sa, rfl, ⟨_, SqL.of hsa⟩, fun D hD => ?_⟩
    refine walk_any (walk_list (K := K) (a := sa) (xs := seen.map vn)) (fun i H' => Same H H' ∧ H' D = some (.lst (((seen.take i).filter fun o => decide (o ∈ D0)).map vn))) ⟨same_upd hD, upd_same⟩ (fun i H' _ h => SqL.of (h.1 _ _ hsa)) ?_ ?_
    · rintro j y H2 H2' hj ⟨s2, h2⟩ ⟨rfl, hy⟩
      obtain ⟨z, hz, rfl⟩ := map_at hy
      have hil := (List.getElem?_eq_some_iff.mp hz).1
      have hflt := List.length_filter_le (fun o => decide (o ∈ D0)) (seen.take j)
      rw [List.length_take] at hflt
      refine ⟨rfl, _, rfl, _, rfl, pa, _, rfl, .inr (SqT.of (s2 _ _ hpa)), rfl, flat_cells _, _, rfl, ?_⟩
      rw [show (if false = true then !inV (vn z) (D0.map vn) else inV (vn z) (D0.map vn)) = decide (z ∈ D0) from inV_cells z D0]
      by_cases hzD : z ∈ D0
      · rw [decide_eq_true hzD]
        refine iteT ⟨_, rfl, _, h2, small9999 (by rw [List.length_map]; omega), sameN s2 hD, ?_⟩
        rw [upd_same, take_snoc hz, List.filter_append]
        simp [hzD]
      · rw [decide_eq_false hzD]
        refine iteF ⟨s2, ?_⟩
        rw [h2, take_snoc hz, List.filter_append]
        simp [hzD]
    · rintro H2 ⟨s2, h2⟩
      rw [List.length_map, List.take_length] at h2
      have hflt := List.length_filter_le (fun o => decide (o ∈ D0)) seen
      refine ⟨sz1, fun e he => ⟨D, e, _, _, rfl, rfl, (by rw [upd_ne (ne_of_none h2 he)]; exact h2), upd_same, Nat.le_of_lt (small9999 (by simp only [List.length_map, List.length_cons, List.length_nil]; omega)), fun l hl => ?_⟩⟩
      have s3 := (s2.trans (same_upd he (o := .lst [V.non]))).trans (same_upd hl (o := .lst (((seen.filter fun o => decide (o ∈ D0)).map vn) ++ [V.non])))
      have hv : (((seen.filter fun o => decide (o ∈ D0)).map vn) ++ [V.non])[0]? = some (optN (Bg.first D0 seen)) := by
        unfold Bg.first
        cases seen.filter fun o => decide (o ∈ D0) with
        | nil => rfl
        | cons a r => rfl
      exact ⟨l, _, _, _, rfl, rfl, SqL.of upd_same, atI_nat (j := 0) hv, q _ s3⟩
end
end BgT
set_option Elab.async false
set_option linter.all false
set_option maxRecDepth 100000
set_option maxHeartbeats 4000000
namespace BgT
open PySem PySem.Spec PyProof.Rows L2
/-! ### sum(lists, []) -/
abbrev LO (its : List Value) (n : Nat) : Obj := { cls := .type "list", data := .seq its.toArray n }
section
variable {prog : Program} {w : World} {A : Around} {R : Result → Shared → Prop} {I : Addr} {fp wr : List Addr} {n : Nat} {P : Nat → Value → Prop} {St : Nat → Heap → Prop}
theorem glue_loop (W : Walks prog w A.in1 I fp wr n P St) (h0 : Heap) (S : Addr) (hS : S ∉ fp) (hS0 : h0.objs.size ≤ S) (hw : ∀ i h, St i h → ∀ x ∈ wr, ∃ o, h.get? x = some o) (b : Nat → Addr) (L : Nat → List Value) (hv : ∀ i v, P i v → v = .ref (b i))
    (g0 : ∀ x o, h0.get? x = some o → x ∉ wr ∧ x ≠ S) (gb : ∀ j, j < n → ∃ mj, h0.get? (b j) = some (LO (L j) mj)) :
    ∀ (k i : Nat) (s : Shared) (c : Addr) (tot : List Value) (m mm : Nat), n - i = k → i ≤ n → St i s.heap → s.heap.get? S = some (LO [.ref c] mm) → s.heap.get? c = some (LO tot m) → c ≠ S → c ∉ wr → (∀ x o, h0.get? x = some o → s.heap.get? x = some o) →
      (tot ++ ((List.range n).drop i).flatMap L).length ≤ sizeLine →
      (∀ h' tk c' m', (∀ x o, h0.get? x = some o → h'.get? x = some o) → h'.get? c' = some (LO (tot ++ ((List.range n).drop i).flatMap L) m') → (c' = c ∨ h0.objs.size ≤ c') → R (.ok (.ret (.ref c'))) { s with heap := h', toks := tk }) →
      codeAny (model prog w) A (.builtin "sum.loop" ⟨[.ref I, .ref S, rawInt 2, rawInt 0], []⟩) R s := by
  have hSw : S ∉ wr := fun h => hS (W.sub _ h)
  intro k
  induction k with
  | zero =>
    intro i s c tot m mm hk hi hst gS gc ncS ncw k0 hz hR
    obtain rfl : i = n := by omega
    refine codeAny_builtin F.entry_sum_loop ?_
    rw [Around.under_plainId F.plain_sum_loop _]
    show wpAny _ A.in1 (seqItems? (.ref S) >>= _) _ _ s
    refine wpAny_bind (wpAny_seqItems gS rfl ?_)
    show wpAny _ A.in1 (tryCatch (pyNext (.ref I)) _ >>= _) _ _ s
    refine wpAny_bind (wpAny_tryCatch (W.done s _ _ hst fun h' tk hk' => ?_))
    have e : (List.range i).drop i = [] := List.drop_eq_nil_of_le (by simp)
    refine wpAny_pure (hR h' tk c m (fun x o h1 => hk' x o (g0 x o h1).1 (k0 x o h1)) ?_ (.inl rfl))
    rw [e, List.flatMap_nil, List.append_nil]
    exact hk' c _ ncw gc
  | succ k ih =>
    intro i s c tot m mm hk hi hst gS gc ncS ncw k0 hz hR
    have hlt : i < n := by omega
    have e : (List.range n).drop i = i :: (List.range n).drop (i + 1) := by
      rw [List.drop_eq_getElem_cons (by simpa using hlt)]
      simp
    rw [e, List.flatMap_cons, ← List.append_assoc] at hz hR
    refine codeAny_builtin F.entry_sum_loop ?_
    rw [Around.under_plainId F.plain_sum_loop _]
    show wpAny _ A.in1 (seqItems? (.ref S) >>= _) _ _ s
    refine wpAny_bind (wpAny_seqItems gS rfl ?_)
    show wpAny _ A.in1 (tryCatch (pyNext (.ref I)) _ >>= _) _ _ s
    refine wpAny_bind (wpAny_tryCatch (W.item i s _ _ hlt hst fun v h' tk hP hst' hk' => ?_))
    obtain rfl := hv i v hP
    obtain ⟨mi, gbi⟩ := gb i hlt
    have gS' := hk' S _ hSw gS
    have gc' := hk' c _ ncw gc
    have gbi' := hk' (b i) _ (g0 _ _ gbi).1 (k0 _ _ gbi)
    show wpAny _ A.in1 ((holding [Value.ref (b i)] (binaryOp .Add (.ref c) (.ref (b i)))).attempt >>= _) _ _ _
    refine wpAny_bind (wpAny_attempt (wpAny_holding (PySem.P.add_list gc' gbi' ?_ ?_)))
    rotate_left
    · rw [List.size_toArray, List.size_toArray, ← List.length_append]
      rw [List.length_append] at hz
      omega
    -- the sum so far, at a new place
    have hn1 : S ≠ h'.objs.size := Nat.ne_of_lt (Heap.lt_size gS')
    generalize hN : h'.push { cls := .type "list", data := .seq (tot.toArray ++ (L i).toArray) } = hp
    have gN : hp.get? h'.objs.size = some (LO (tot ++ L i) 0) := by
      rw [← hN, Heap.get?_push_size _ rfl]
      simp
    have old : ∀ x o, h'.get? x = some o → hp.get? x = some o := fun x o z => by rw [← hN]; exact Heap.get?_push_of_some _ z
    have gS2 := old _ _ gS'
    show wpAny _ A.in1 (updateSeq S (fun _ => #[Value.ref h'.objs.size]) >>= _) _ _ _
    refine wpAny_bind (wpAny_updateSeq gS2 rfl ?_)
    have gS3 := Heap.get?_update_self (Obj.mapSeq fun _ => #[Value.ref h'.objs.size]) gS2 rfl
    refine wpAny_bind (wpAny_letGo ?_)
    refine wpAny_bind (wpAny_updateSeq gS3 rfl ?_)
    have gS4 := Heap.get?_update_self (Obj.mapSeq fun _ => #[Value.ref h'.objs.size]) gS3 rfl
    have oth : ∀ x o, x ≠ S → h'.get? x = some o → ((hp.update S (Obj.mapSeq fun _ => #[Value.ref h'.objs.size])).update S (Obj.mapSeq fun _ => #[Value.ref h'.objs.size])).get? x = some o := fun x o hx z =>
      (Heap.get?_update_other _ _ (Ne.symm hx)).trans ((Heap.get?_update_other _ _ (Ne.symm hx)).trans (old x o z))
    have gN4 : ((hp.update S (Obj.mapSeq fun _ => #[Value.ref h'.objs.size])).update S (Obj.mapSeq fun _ => #[Value.ref h'.objs.size])).get? h'.objs.size = some (LO (tot ++ L i) 0) :=
      (Heap.get?_update_other _ _ hn1).trans ((Heap.get?_update_other _ _ hn1).trans gN)
    refine wpAny_pure ⟨plainId_quiet F.plain_sum_loop _, ih (i + 1) _ h'.objs.size (tot ++ L i) 0 _ (by omega) hlt (W.frame _ _ _ hst' fun x hx o z => oth x o (fun q => hS (q ▸ hx)) z) gS4 gN4 (Ne.symm hn1) (fun z => ?_) (fun x o z => oth x o (g0 x o z).2 (hk' x o (g0 x o z).1 (k0 x o z))) hz fun h2 tk2 c' m' a1 a2 a3 => ?_⟩
    · obtain ⟨o, q⟩ := hw (i + 1) h' hst' _ z
      exact Nat.lt_irrefl _ (Heap.lt_size q)
    · refine hR h2 tk2 c' m' a1 a2 (.inr ?_)
      rcases a3 with rfl | a3
      · exact Nat.le_of_lt (Nat.lt_of_le_of_lt hS0 (Heap.lt_size gS'))
      · exact a3
end
section
variable {prog : Program} {w : World} {A : Around} {E : Value → Shared → Prop} {s : Shared}
theorem args_sum2 (a b : Value) : argsOk "sum" ⟨[a, b], []⟩ := by unfold argsOk; kernel_rfl
theorem sum_glue {a z : Addr} {vs : Array Value} {mz : Nat} {Q : Value → Shared → Prop} (quiet : A.handled = none) (ha : s.heap.IsList a vs) (hz : s.heap.get? z = some (LO [] mz)) (b : Nat → Addr) (L : Nat → List Value)
    (hv : ∀ (i : Nat) (v : Value), vs[i]? = some v → v = .ref (b i)) (gb : ∀ j, j < vs.size → ∃ mj, s.heap.get? (b j) = some (LO (L j) mj)) (few : ((List.range vs.size).flatMap L).length ≤ sizeLine)
    (h : ∀ h' tk c' m', (∀ x o, s.heap.get? x = some o → h'.get? x = some o) → h'.get? c' = some (LO ((List.range vs.size).flatMap L) m') → (c' = z ∨ s.heap.objs.size ≤ c') → Q (.ref c') { s with heap := h', toks := tk }) :
    wpAny (model prog w) A (call (.builtin "sum") [.ref a, .ref z]) Q E s := by
  refine call_function_tree F.kind_sum F.plain_sum F.entry_sum (args_sum2 _ _) ?_
  unfold Builtin.«sum»
  simp only [List.length_cons, List.length_nil]
  rw [if_neg (by decide)]
  refine wpAny_bind (wpAny_of_eq (show Builtin.Builtins.bindParams "sum" ["start"] 0 ⟨[Value.ref z], []⟩ = pure [some (Value.ref z)] from rfl) ?_)
  have lta : a < s.heap.objs.size := by obtain ⟨_, e, _⟩ := ha; exact Heap.lt_size e
  refine wpAny_bind (wpAny_pyIter_list ha ?_)
  generalize hI : s.heap.push { cls := .type "list_iterator", data := .fields #[.ref a, .int 0 0] } = h1
  have old1 : ∀ x o, s.heap.get? x = some o → h1.get? x = some o := fun x o q => by rw [← hI]; exact Heap.get?_push_of_some _ q
  have it1 : h1.IsListIter s.heap.objs.size a 0 := by rw [← hI]; exact ⟨_, Heap.get?_push_size _ rfl, rfl, rfl⟩
  have sz1' : h1.objs.size = s.heap.objs.size + 1 := by rw [← hI, Heap.size_push]
  refine wpAny_bind (wpAny_pure ?_)
  have tz : ∀ tk, Shared.TypeIs { s with heap := h1, toks := tk } (.ref z) "list" := fun tk => ⟨_, old1 _ _ hz, rfl⟩
  simp only [List.forIn_cons, List.forIn_nil]
  refine wpAny_bind (wpAny_bind (wpAny_bind (wpAny_isInstance (T := "list") (b := false) (tz _) F.sub_list_str ?_)))
  simp only [Bool.false_eq_true, if_false]
  refine wpAny_pure (wpAny_bind (wpAny_bind (wpAny_isInstance (T := "list") (b := false) (tz _) F.sub_list_bytes ?_)))
  simp only [Bool.false_eq_true, if_false]
  refine wpAny_pure (wpAny_bind (wpAny_bind (wpAny_isInstance (T := "list") (b := false) (tz _) F.sub_list_bytearray ?_)))
  simp only [Bool.false_eq_true, if_false]
  refine wpAny_pure (wpAny_pure ?_)
  refine wpAny_bind (wpAny_newObj_type ?_)
  have nIa : a ≠ s.heap.objs.size := Nat.ne_of_lt lta
  have W := Walks.list (prog := prog) (w := w) (A := A.in1) (by simp [quiet]) s.heap.objs.size a nIa vs
  generalize h2e : h1.push { cls := .type "list", data := .seq [Value.ref z].toArray } = h2
  have old2 : ∀ x o, h1.get? x = some o → h2.get? x = some o := fun x o q => by rw [← h2e]; exact Heap.get?_push_of_some _ q
  have gS : h2.get? h1.objs.size = some (LO [Value.ref z] 0) := by rw [← h2e]; exact Heap.get?_push_size _ rfl
  have nS : h1.objs.size ∉ [s.heap.objs.size, a] := by
    rw [sz1']
    intro q
    rcases List.mem_cons.mp q with q | q
    · exact absurd q (Nat.ne_of_gt (Nat.lt_succ_self _))
    · exact absurd (List.mem_singleton.mp q) (Nat.ne_of_gt (Nat.lt_succ_of_lt lta))
  have g0 : ∀ x o, s.heap.get? x = some o → x ∉ [s.heap.objs.size] ∧ x ≠ h1.objs.size := fun x o q => by
    have lt := Heap.lt_size q
    refine ⟨fun e => Nat.ne_of_lt lt (List.mem_singleton.mp e), ?_⟩
    rw [sz1']
    exact Nat.ne_of_lt (Nat.lt_succ_of_lt lt)
  refine wpAny_pure ⟨plainId_quiet F.plain_sum_loop _, glue_loop W s.heap h1.objs.size nS (by rw [sz1']; exact Nat.le_succ _) (fun i hh st x hx => ?_) b L hv g0 gb (vs.size - 0) 0 _ z [] mz 0 rfl (Nat.zero_le _) ⟨it1.at fun o q => old2 _ o q, ?_⟩ gS (old2 _ _ (old1 _ _ hz)) (g0 _ _ hz).2 (g0 _ _ hz).1 (fun x o q => old2 _ _ (old1 _ _ q)) (by simpa using few) fun h' tk c' m' k1 k2 k3 => ?_⟩
  · obtain rfl := List.mem_singleton.mp hx
    obtain ⟨o, q, _⟩ := st.1
    exact ⟨o, q⟩
  · obtain ⟨o, q, q2⟩ := ha
    exact ⟨o, old2 _ _ (old1 _ _ q), q2⟩
  · exact h h' tk c' m' k1 (by simpa using k2) k3
end
theorem vals_flat : ∀ (W : List (List V)) (L : Nat → List Value) (off : Nat), (∀ (j : Nat) (D : List V), W[j]? = some D → Vals D (L (off + j))) → Vals W.flatten ((List.range' off W.length).flatMap L)
  | [], _, _, _ => .nil
  | D :: W, L, off, h => by
    rw [List.length_cons, List.range'_succ, List.flatMap_cons, List.flatten_cons]
    exact (h 0 D rfl).append (vals_flat W L (off + 1) fun j E e => by
      have := h (j + 1) E (by simpa using e)
      rwa [show off + 1 + j = off + (j + 1) from by omega])
section
variable {X : Cx}
/-- sum(lists, []) -/
theorem cr_glue (hc : X.calm = true) : CallR X (.builtin "sum") fun vs H Q => ∃ (a z : Addr) (us : List V) (W : List (List V)), vs = [V.ref a, V.ref z] ∧ H a = some (.lst us) ∧ H z = some (.lst []) ∧ us.length = W.length ∧
    (∀ (i : Nat) (D : List V), W[i]? = some D → ∃ b, us[i]? = some (V.ref b) ∧ H b = some (.lst D)) ∧ W.flatten.length ≤ sizeLine ∧ ∀ H' p, Same H H' → H' p = some (.lst W.flatten) → Q (.ref p) H' := by
  intro pins s σ H vs us Q I r h
  obtain ⟨a, z, xs, W, rfl, ha, hz, hlen, hW, hsz, q⟩ := h
  obtain ⟨_, its, n, r1, hl1, ga⟩ := I.lstM ha
  obtain ⟨_, itz, nz, r2, hl2, gz⟩ := I.lstM hz
  have ez : itz = [] := List.eq_nil_of_length_eq_zero (by rw [← hl2]; rfl)
  subst ez
  have key : ∀ j, ∃ p : Addr × List Value × Nat, j < W.length → ∃ D, W[j]? = some D ∧ xs[j]? = some (V.ref p.1) ∧ Vals D p.2.1 ∧ s.heap.get? p.1 = some (LO p.2.1 p.2.2) := fun j => by
    by_cases hj : j < W.length
    · obtain ⟨b, h1, h2⟩ := hW j _ (List.getElem?_eq_getElem hj)
      obtain ⟨_, itb, nb, r3, _, gb⟩ := I.lstM h2
      exact ⟨(b, itb, nb), fun _ => ⟨_, List.getElem?_eq_getElem hj, h1, r3, gb⟩⟩
    · exact ⟨(0, [], 0), fun h => absurd h hj⟩
  obtain ⟨f, hf⟩ : ∃ f : Nat → Addr × List Value × Nat, ∀ j, j < W.length → ∃ D, W[j]? = some D ∧ xs[j]? = some (V.ref (f j).1) ∧ Vals D (f j).2.1 ∧ s.heap.get? (f j).1 = some (LO (f j).2.1 (f j).2.2) := ⟨fun j => Classical.choose (key j), fun j => Classical.choose_spec (key j)⟩
  have hsz1 : its.toArray.size = W.length := by rw [List.size_toArray, ← hl1, hlen]
  have hvf : Vals W.flatten ((List.range W.length).flatMap fun j => (f j).2.1) := by
    rw [List.range_eq_range']
    refine vals_flat W _ 0 fun j D e => ?_
    obtain ⟨D', e1, _, r3, _⟩ := hf j (List.getElem?_eq_some_iff.mp e).1
    rw [e] at e1
    cases e1
    rwa [Nat.zero_add]
  cases r with
  | cons ra rt =>
    cases ra
    cases rt with
    | cons rz rn =>
      cases rz
      cases rn
      refine sum_glue (I.ok.hd hc) ⟨_, ga, rfl, n, rfl⟩ gz (fun j => (f j).1) (fun j => (f j).2.1) (fun i v e => ?_) (fun j hj => ?_) (by rw [hsz1, ← hvf.length]; exact hsz) fun h' tk c' m' k1 k2 k3 => ?_
      · have hi : i < W.length := by
          rw [← hsz1]
          exact (Array.getElem?_eq_some_iff.mp e).1
        obtain ⟨D, _, e2, _, _⟩ := hf i hi
        obtain ⟨u, e3, ru⟩ := r1.get e2
        have e4 : its[i]? = some v := by rw [← Array.getElem?_toList] at e; exact e
        rw [e3] at e4
        cases e4
        exact ru
      · obtain ⟨D, _, _, _, g⟩ := hf j (by rw [← hsz1]; exact hj)
        exact ⟨_, g⟩
      · rw [hsz1] at k2
        rcases k3 with rfl | k3
        · have e := (k1 _ _ gz).symm.trans k2
          have e2 : ((List.range W.length).flatMap fun j => (f j).2.1) = [] := by
            have e3 := congrArg (fun o : Option Obj => o.bind fun o => match o.data with | .seq a _ => some a.toList | _ => none) e
            simpa using e3.symm
          have e4 : W.flatten = [] := List.eq_nil_of_length_eq_zero (by rw [hvf.length, e2]; rfl)
          exact ⟨.ref _, H, I.kept k1, rfl, q H _ (Same.refl H) (by rw [e4]; exact hz)⟩
        · exact ⟨.ref c', _, I.laid (o := .lst W.flatten) k1 k3 ⟨hsz, _, m', hvf, k2⟩, rfl, q _ c' (same_upd (I.hok.fresh k3)) upd_same⟩
end
end BgT
set_option Elab.async false
set_option linter.all false
set_option maxRecDepth 100000
set_option maxHeartbeats 4000000
namespace BgT
open PySem PySem.Spec PyProof.Rows L2
theorem merge_dV (f : Nat → V) : ∀ n, mergeK [] (dV n f) = dV n f
  | 0 => rfl
  | n + 1 => by
    have e : dV (n + 1) f = dV n f ++ [(Sum.inl (n : Int), f n)] := by simp [dV, List.range_succ]
    have ih := merge_dV f n
    unfold mergeK at ih ⊢
    rw [e, List.foldl_append, ih, List.foldl_cons, List.foldl_nil]
    have := dV_put f n
    rw [e] at this
    exact this
section
variable {P : Program} {w : World} {K : PySem.W.Frag} {mg : Str → Option Value} {base : Heap}
theorem cells_at {n i : Nat} {v : V} (h : (cellsV n)[i]? = some v) : i < n ∧ v = vn i := by
  obtain ⟨y, hy, rfl⟩ := map_at h
  have hi : i < n := by
    have := (List.getElem?_eq_some_iff.mp hy).1
    simpa using this
  rw [List.getElem?_range hi] at hy
  exact ⟨hi, by cases hy; rfl⟩
theorem cells_len {n : Nat} : (cellsV n).length = n := by simp [cellsV]
theorem blkOk_nest {N : List Str} {sc sc' scope : Scope} {own : List (Str × Nat)} (e : sc = sc') (h : blkC N sc' scope own = true) : BlkOk N sc scope own := by subst e; exact blkOk_by h
def scWhole : Scope := match (defBody s_law_parts)[1]? with
  | some (Stmt.Assign _ (.ListComp _ _ sc _) _) => { sc with names := sc.names.map fun p => if p.2 == .free then (p.1, .cell) else p }
  | _ => defScope s_law_parts
theorem call_tuple_ofK {X : Cx} {K : PySem.W.Frag} (h : X.K = K := by rfl) : CallR X (.type "tuple") (fun xs H Q => ∃ p ys, xs = [V.ref p] ∧ ((SqL K H p ys ∧ ∀ l, H l = none → Q (.ref l) (upd H l (.tup ys))) ∨ (SqT K H p ys ∧ Q (.ref p) H))) := by subst h; exact call_tuple_of
theorem call_list_ofK {X : Cx} {K : PySem.W.Frag} (h : X.K = K := by rfl) : CallR X (.type "list") (fun xs H Q => ∃ p ys, xs = [V.ref p] ∧ (SqL K H p ys ∨ SqT K H p ys) ∧ ∀ l, H l = none → Q (.ref l) (upd H l (.lst ys))) := by subst h; exact call_list_of
/-- pairs laid for dict() -/
def PairsAt (H : Hp) (ps : List Addr) (f : Nat → V) : Prop := ∀ (i : Nat) (p : Addr), ps[i]? = some p → H p = some (.tup [vn i, f i])
theorem pairs_of {K : PySem.W.Frag} {H : Hp} {f : Nat → V} : ∀ (ps : List Addr) (off : Nat), (∀ (i : Nat) (p : Addr), ps[i]? = some p → H p = some (.tup [vn (off + i), f (off + i)])) → Paired (fun p kv => SqT K H p [kV kv.1, kv.2]) ps ((List.range' off ps.length).map fun (c : Nat) => ((Sum.inl (c : Int) : Key), f c))
  | [], _, _ => .nil
  | p :: ps, off, h => by
    rw [List.length_cons, List.range'_succ, List.map_cons]
    refine .cons (SqT.of (h 0 p rfl)) (pairs_of ps (off + 1) fun i q e => ?_)
    have := h (i + 1) q (by simpa using e)
    rwa [show off + 1 + i = off + (i + 1) from by omega]
theorem pairs_dV {K : PySem.W.Frag} {H : Hp} {f : Nat → V} {ps : List Addr} (h : PairsAt H ps f) : Paired (fun p kv => SqT K H p [kV kv.1, kv.2]) ps (dV ps.length f) := by
  have := pairs_of (K := K) (H := H) (f := f) ps 0 fun i p e => by rw [Nat.zero_add]; exact h i p e
  rwa [← List.range_eq_range'] at this
def LsAt (H : Hp) (L : Addr) (ls : List V) (W : List (List Nat)) : Prop := ls.length = W.length ∧ ∀ (i : Nat) (D : List Nat), W[i]? = some D → ∃ b, ls[i]? = some (.ref b) ∧ H b = some (.lst (D.map vn)) ∧ b ≠ L
theorem LsAt.snoc {H H' : Hp} {L b : Addr} {ls : List V} {W : List (List Nat)} {D : List Nat} (h : LsAt H L ls W) (k : ∀ a o, a ≠ L → H a = some o → H' a = some o) (hb : H' b = some (.lst (D.map vn))) (nb : b ≠ L) : LsAt H' L (ls ++ [.ref b]) (W ++ [D]) := by
  refine ⟨by simp [h.1], fun i E e => ?_⟩
  by_cases hi : i < W.length
  · rw [List.getElem?_append_left hi] at e
    obtain ⟨c, h1, h2, h3⟩ := h.2 i E e
    exact ⟨c, by rw [List.getElem?_append_left (by rw [h.1]; exact hi)]; exact h1, k _ _ h3 h2, h3⟩
  · have hl : i = W.length := by
      have := (List.getElem?_eq_some_iff.mp e).1
      simp at this
      omega
    subst hl
    rw [List.getElem?_append_right (Nat.le_refl _)] at e
    simp at e
    subst e
    exact ⟨b, by rw [List.getElem?_append_right (by rw [h.1]; exact Nat.le_refl _), h.1]; simp, hb, nb⟩
theorem sc_law_parts : FnScope ["_law_rows_here", "_law_some", "_law_known", "_law_whole", "_law_found", "_law_rest", "_law_ready", "_law_one", "_law_part", "_law_other"] ["_law_rows_here", "_law_some"] (defScope s_law_parts) := ⟨rfl, rfl, rfl, by decide +kernel, rfl, by decide +kernel, by decide +kernel⟩
theorem bd_law_parts {K : PySem.W.Frag} {mg : Str → Option Value} (T : Tx K mg) : Binds K (fdOf K (He.ga K "_law_parts")) ["_law_rows_here", "_law_some"] [] := T.F_law_parts.bindsN (fun _ _ _ _ _ _ us hl => match us, hl with | [_, _], _ => rfl)
def sp_law_parts : Sp := fun vs H Q _ => ∃ (wa sa : Addr) (ws : List V) (rows : List Row), vs = [.ref wa, .ref sa] ∧ H wa = some (.lst ws) ∧ TripsAt H ws rows ∧ RowsOk rows ∧ H sa = some (.lst (cellsV rows.length)) ∧
  ∀ H' l us, Same H H' → H' l = some (.lst us) → CsAt H' us (Bg.comps (sysOf rows)) → Q (.ref l) H'
theorem ok_law_parts (T : Tx K mg) : FO P w K mg base 2 (He.ga K "_law_parts") ["_law_rows_here", "_law_some"] sp_law_parts := by
  refine T.F_law_parts.ok sc_law_parts (fun vs H Q E h => ?_) (fun cdv A outer s H vs Q E hr h => ?_)
  · obtain ⟨wa, sa, ws, rows, rfl, _⟩ := h; rfl
  · obtain ⟨wa, sa, ws, rows, rfl, hw, htr, hok, hsa, q⟩ := h
    refine ⟨_, PSs.nox (pss_cons (ps_set (i := 2) sc_law_parts.nd rfl (Or.inr rfl) (pe_callTy (call_dictP rfl) (by rfl) T.b_dict (by decide +kernel) (pa_cons (pe_lc (own := [("_law_one", 7)]) (g := gName 7) rfl sc_law_parts.nd (pi_list (pv 1)) (blkOk_by (own := [("_law_one", 7)]) (N := ["_law_rows_here", "_law_some", "_law_known", "_law_whole", "_law_found", "_law_rest", "_law_ready", "_law_one", "_law_part", "_law_other"]) (sc := defScope s_law_parts) (by decide +kernel)) (fun _ _ _ _ _ => (pg_name (i := 7) sc_law_parts.nd rfl (by first | exact Or.inl rfl | exact Or.inr rfl))) (fun _ _ _ _ _ => pts_nil) (fun _ _ _ _ _ => (pe_tup (pa_cons (pv 7) (pa_cons (pe_call (ok_law_reached T) (hr.mono (by decide)) rfl T.g_law_reached T.F_law_reached.kp (bd_law_reached T) .nil pass0 (pa_cons (pv 0) (pa_cons (pv 7) (pa_cons (pv 1) pa_nil)))) pa_nil))))) pa_nil)))
 (pss_cons (ps_setLc (i := 3) (own := [("_law_one", 7)]) (g := gName 7) rfl sc_law_parts.nd rfl rfl (sw_true rfl rfl rfl (by decide +kernel)) (pi_list (pv 1)) (blkOk_by (own := [("_law_one", 7)]) (N := ["_law_rows_here", "_law_some", "_law_known", "_law_whole", "_law_found", "_law_rest", "_law_ready", "_law_one", "_law_part", "_law_other"]) (sc := defScope s_law_parts) (by decide +kernel)) (fun _ _ _ _ _ => (pg_name (i := 7) sc_law_parts.nd rfl (by first | exact Or.inl rfl | exact Or.inr rfl))) (fun _ _ _ _ _ => pts_nil) (fun _ _ _ _ _ => (pe_callTy (call_tuple_ofK (K := K)) (by rfl) T.b_tuple (by decide +kernel) (pa_cons (pe_lc (own := [("_law_other", 9)]) (g := gName 9) rfl sc_law_parts.nd (pi_listK (K := K) (pv 1)) (blkOk_nest (N := ["_law_rows_here", "_law_some", "_law_known", "_law_whole", "_law_found", "_law_rest", "_law_ready", "_law_one", "_law_part", "_law_other"]) (own := [("_law_other", 9)]) (sc' := scWhole) (by rfl) (by decide +kernel)) (fun _ _ _ _ _ => (pg_name (i := 9) sc_law_parts.nd rfl (by first | exact Or.inl rfl | exact Or.inr rfl))) (fun _ _ _ _ _ => pts_one (PW.pt (pw_and (pt_cmpR (op_in_seqK (K := K)) (pv 9) (pe_dget (hu_of hr) (pv 2) (pv 7) (fun _ _ => rfl)) (by rfl)) (pw_and1 (pt_cmpR (op_in_seqK (K := K)) (pv 7) (pe_dget (hu_of hr) (pv 2) (pv 9) (fun _ _ => rfl)) (by rfl)))))) (fun _ _ _ _ _ => (pv 9))) pa_nil))))
 (pss_cons (ps_setLc (i := 3) (own := [("_law_one", 7), ("_law_part", 8)]) (g := gTup K 2 (gCons (gName 7) (gCons (gName 8) gNil))) rfl sc_law_parts.nd rfl rfl (sw_true rfl rfl rfl (by decide +kernel)) (pi_zip (by rfl) T.b_zip (pa_cons (pv 1) (pa_cons (pv 3) pa_nil))) (blkOk_by (own := [("_law_one", 7), ("_law_part", 8)]) (N := ["_law_rows_here", "_law_some", "_law_known", "_law_whole", "_law_found", "_law_rest", "_law_ready", "_law_one", "_law_part", "_law_other"]) (sc := defScope s_law_parts) (by decide +kernel)) (fun _ _ _ _ _ => (pg_tup rfl (pgs_cons (pg_name (i := 7) sc_law_parts.nd rfl (by first | exact Or.inl rfl | exact Or.inr rfl)) (pgs_cons (pg_name (i := 8) sc_law_parts.nd rfl (by first | exact Or.inl rfl | exact Or.inr rfl)) pgs_nil)))) (fun _ _ _ _ _ => pts_one (pt_cmpR op_eq (pe_ix (ix_tupK (K := K)) (pv 8) pe_int (fun _ _ => rfl)) (pv 7) (nomark _))) (fun _ _ _ _ _ => (pv 8)))
 (pss_cons (ps_set (i := 4) sc_law_parts.nd rfl (Or.inl rfl) (pe_lst pa_nil))
 (pss_cons (ps_while PassesOwn.never (pt_cmpR (op_neNil hr.units) (pv 3) (pe_lst pa_nil) (nomark _))
 (pss_cons (ps_set (i := 5) sc_law_parts.nd rfl (Or.inr rfl) (pe_callB (cr_glue rfl) (by rfl) T.b_sum (by decide +kernel) (pa_cons (pe_lc (own := [("_law_part", 8)]) (g := gName 8) rfl sc_law_parts.nd (pi_list (pv 3)) (blkOk_by (own := [("_law_part", 8)]) (N := ["_law_rows_here", "_law_some", "_law_known", "_law_whole", "_law_found", "_law_rest", "_law_ready", "_law_one", "_law_part", "_law_other"]) (sc := defScope s_law_parts) (by decide +kernel)) (fun _ _ _ _ _ => (pg_name (i := 8) sc_law_parts.nd rfl (by first | exact Or.inl rfl | exact Or.inr rfl))) (fun _ _ _ _ _ => pts_nil) (fun _ _ _ _ _ => (pe_callTy (call_list_ofK (K := K)) (by rfl) T.b_list (by decide +kernel) (pa_cons (pv 8) pa_nil)))) (pa_cons (pe_lst pa_nil) pa_nil))))
 (pss_cons (ps_set (i := 6) sc_law_parts.nd rfl (Or.inr rfl) (pe_lc (own := [("_law_part", 8)]) (g := gName 8) rfl sc_law_parts.nd (pi_list (pv 3)) (blkOk_by (own := [("_law_part", 8)]) (N := ["_law_rows_here", "_law_some", "_law_known", "_law_whole", "_law_found", "_law_rest", "_law_ready", "_law_one", "_law_part", "_law_other"]) (sc := defScope s_law_parts) (by decide +kernel)) (fun _ _ _ _ _ => (pg_name (i := 8) sc_law_parts.nd rfl (by first | exact Or.inl rfl | exact Or.inr rfl))) (fun _ _ _ _ _ => pts_one (pt_not (pt_val (pe_call (ok_law_leads T) (hr.mono (by decide)) rfl T.g_law_leads T.F_law_leads.kp (bd_law_leads T) .nil pass0 (pa_cons (pv 0) (pa_cons (pv 8) (pa_cons (pv 5) pa_nil))))))) (fun _ _ _ _ _ => (pv 8))))
 (pss_cons (ps_expr (pe_bm PySem.F.plainAttrs_list PySem.F.slot_list_append PySem.F.type_list_append mt_append (pv 4) (pa_cons (pe_ix ix_list (pv 6) pe_int (fun _ _ => rfl)) pa_nil)))
 (pss_one (ps_setLc (i := 3) (own := [("_law_part", 8)]) (g := gName 8) rfl sc_law_parts.nd rfl rfl (sw_true rfl rfl rfl (by decide +kernel)) (pi_list (pv 3)) (blkOk_by (own := [("_law_part", 8)]) (N := ["_law_rows_here", "_law_some", "_law_known", "_law_whole", "_law_found", "_law_rest", "_law_ready", "_law_one", "_law_part", "_law_other"]) (sc := defScope s_law_parts) (by decide +kernel)) (fun _ _ _ _ _ => (pg_name (i := 8) sc_law_parts.nd rfl (by first | exact Or.inl rfl | exact Or.inr rfl))) (fun _ _ _ _ _ => pts_one (pt_cmpR (op_neDK (K := K) hr.units) (pv 8) (pe_ix (ix_listK (K := K)) (pv 6) pe_int (fun _ _ => rfl)) (nomark _))) (fun _ _ _ _ _ => (pv 8))))))))
 (pss_one (ps_ret (pv 4)))))))), ?_⟩
    have hle := hok.le
    -- known
    refine ⟨_, rfl, sa, rfl, ⟨_, SqL.of hsa⟩, fun D hD => ?_⟩
    refine walk_any (walk_list (K := K) (a := sa) (xs := cellsV rows.length)) (fun i H' => Same H H' ∧ ∃ (ps : List Addr) (f : Nat → Addr), H' D = some (.lst (ps.map V.ref)) ∧ ps.length = i ∧ PairsAt H' ps (fun c => .ref (f c)) ∧ ∀ c, c < i → ∃ xs : List Nat, H' (f c) = some (.lst (xs.map vn)) ∧ ∀ o, o ∈ xs ↔ Bg.Reach (sysOf rows) c o)
      ⟨same_upd hD, [], fun _ => 0, upd_same, rfl, fun i p h => by simp at h, fun c hc => absurd hc (Nat.not_lt_zero _)⟩ (fun i H' _ h => SqL.of (h.1 _ _ hsa)) ?_ ?_
    · rintro i x H1 H1' hi0 ⟨s1, ps, f, hd, hpl, hpa, hf⟩ ⟨rfl, hx⟩
      obtain ⟨hi, rfl⟩ := cells_at hx
      refine ⟨rfl, tyes ⟨_, rfl, _, rfl, _, rfl, _, rfl, wa, sa, ws, rows, i, rfl, s1 _ _ hw, htr.same s1, hok, s1 _ _ hsa, hi, fun H2 l xs s2 hl hl2 hxs => ⟨sz2, fun p hp => ?_⟩⟩⟩
      have hd2 := s2 _ _ hd
      have s3 : Same H2 (upd H2 p (.tup [vn i, .ref l])) := same_upd hp
      have hd3 := s3 _ _ hd2
      have hl3 := s3 _ _ hl2
      have hp3 : upd H2 p (.tup [vn i, .ref l]) p = some (.tup [vn i, .ref l]) := upd_same
      generalize upd H2 p (.tup [vn i, .ref l]) = H3 at s3 hd3 hl3 hp3
      have s13 := s2.trans s3
      have nDl : l ≠ D := Ne.symm (ne_of_none hd hl)
      refine ⟨_, hd3, small1000 (by rw [List.length_map]; omega), sameN (s1.trans s13) hD, ps ++ [p], fun c => if c = i then l else f c, by rw [upd_same]; simp, by simp [hpl], fun j q e => ?_, fun c hc => ?_⟩
      · by_cases hj : j < ps.length
        · rw [List.getElem?_append_left hj] at e
          have h1 := s13 _ _ (hpa j q e)
          rw [upd_ne (ne_of h1 hd3 (by simp)), h1]
          have : j ≠ i := by omega
          simp [this]
        · have hjl : j = ps.length := by
            have := (List.getElem?_eq_some_iff.mp e).1
            simp at this
            omega
          subst hjl
          rw [List.getElem?_append_right (Nat.le_refl _)] at e
          simp at e
          subst e
          rw [upd_ne (ne_of hp3 hd3 (by simp)), hp3, hpl]
          simp
      · by_cases h : c = i
        · subst h
          refine ⟨xs, ?_, hxs⟩
          show upd H3 D _ (if c = c then l else f c) = _
          rw [if_pos rfl, upd_ne nDl]
          exact hl3
        · obtain ⟨zs, h1, h2⟩ := hf c (by omega)
          have nfD : f c ≠ D := by
            intro e
            have h1' := s13 _ _ h1
            rw [e, hd3] at h1'
            cases zs with
            | nil => 
              have := HO.lst.inj (Option.some.inj h1')
              cases ps with
              | nil => simp at hpl; omega
              | cons a r => simp at this
            | cons z r =>
              have := HO.lst.inj (Option.some.inj h1')
              cases ps with
              | nil => simp at this
              | cons a r => simp at this
          refine ⟨zs, ?_, h2⟩
          show upd H3 D _ (if c = i then l else f c) = _
          rw [if_neg h, upd_ne nfD]
          exact s13 _ _ h1
    · rintro H1 ⟨s1, ps, f, hd, hpl, hpa, hf⟩
      rw [cells_len] at hpl hf
      refine ⟨D, ps, dV ps.length (fun c => .ref (f c)), rfl, SqL.of hd, pairs_dV hpa, fun dd hdd => ?_⟩
      rw [merge_dV, hpl]
      have hdd2 : upd H1 dd (.dK (dV rows.length fun c => .ref (f c))) dd = some (.dK (dV rows.length fun c => .ref (f c))) := upd_same
      have hf2 : ∀ c, c < rows.length → ∃ xs : List Nat, upd H1 dd (.dK (dV rows.length fun c => .ref (f c))) (f c) = some (.lst (xs.map vn)) ∧ ∀ o, o ∈ xs ↔ Bg.Reach (sysOf rows) c o := fun c hc => by
        obtain ⟨xs, h1, h2⟩ := hf c hc
        exact ⟨xs, by rw [upd_ne (ne_of_none h1 hdd)]; exact h1, h2⟩
      have s2 := s1.trans (same_upd hdd (o := .dK (dV rows.length fun c => .ref (f c))))
      generalize upd H1 dd (.dK (dV rows.length fun c => .ref (f c))) = H2 at hdd2 hf2 s2
      clear hf hpa hd hpl hdd s1
      -- whole
      have hsa2 := s2 _ _ hsa
      refine ⟨_, rfl, sa, rfl, ⟨_, SqL.of hsa2⟩, fun V0 hV => ?_⟩
      refine walk_any (walk_list (K := K) (a := sa) (xs := cellsV rows.length)) (fun i H' => Same H2 H' ∧ ∃ us, H' V0 = some (.lst us) ∧ CsAt H' us ((List.range i).map (Bg.partOf (sysOf rows))))
        ⟨same_upd hV, [], upd_same, .nil⟩ (fun i H' _ h => SqL.of (h.1 _ _ hsa2)) ?_ ?_
      · rintro y x H3 H3' hi0 ⟨s3, us, h3, hcs⟩ ⟨rfl, hx⟩
        obtain ⟨hi, rfl⟩ := cells_at hx
        have hsa3 := s3 _ _ hsa2
        refine ⟨rfl, tyes ⟨_, rfl, sa, rfl, ⟨_, SqL.of hsa3⟩, fun L hL => ?_⟩⟩
        refine walk_any (walk_list (K := K) (a := sa) (xs := cellsV rows.length)) (fun i H' => Same H3' H' ∧ H' L = some (.lst (((List.range i).filter fun o => Bg.rch (sysOf rows) y o && Bg.rch (sysOf rows) o y).map vn)))
          ⟨same_upd hL, upd_same⟩ (fun i H' _ h => SqL.of (h.1 _ _ hsa3)) ?_ ?_
        · rintro z x H4 H4' hj0 ⟨s4, h4⟩ ⟨rfl, hx⟩
          obtain ⟨hj, rfl⟩ := cells_at hx
          obtain ⟨xs, hx1, hx2⟩ := hf2 y hi
          obtain ⟨zs, hz1, hz2⟩ := hf2 z hj
          have s24 := s3.trans s4
          have hd4 := s24 _ _ hdd2
          have edy : valV (dV rows.length fun c => V.ref (f c)) (Sum.inl (y : Int) : Key) = some (.ref (f y)) := by rw [dV_val, if_pos hi]
          have edz : valV (dV rows.length fun c => V.ref (f c)) (Sum.inl (z : Int) : Key) = some (.ref (f z)) := by rw [dV_val, if_pos hj]
          have inx : decide (z ∈ xs) = Bg.rch (sysOf rows) y z := Bool.eq_iff_iff.mpr (by rw [Bg.rch_iff, decide_eq_true_iff]; exact hx2 z)
          have inz : decide (y ∈ zs) = Bg.rch (sysOf rows) z y := Bool.eq_iff_iff.mpr (by rw [Bg.rch_iff, decide_eq_true_iff]; exact hz2 y)
          refine ⟨rfl, _, rfl, _, rfl, _, rfl, dd, _, rfl, edy ▸ DGet.k (k := Sum.inl (y : Int)) hd4, _, _, rfl, .inl (SqL.of (s24 _ _ hx1)), rfl, flat_cells _, _, rfl, ?_⟩
          rw [show (if false = true then !inV (vn z) (xs.map vn) else inV (vn z) (xs.map vn)) = Bg.rch (sysOf rows) y z from by
            rw [← inx]; exact inV_cells z xs]
          have hlen : ((List.range z).filter fun o => Bg.rch (sysOf rows) y o && Bg.rch (sysOf rows) o y).length ≤ z := by
            have := List.length_filter_le (fun o => Bg.rch (sysOf rows) y o && Bg.rch (sysOf rows) o y) (List.range z)
            simpa using this
          cases e1 : Bg.rch (sysOf rows) y z with
          | true =>
            refine iteT ⟨_, rfl, _, rfl, _, rfl, dd, _, rfl, edz ▸ DGet.k (k := Sum.inl (z : Int)) hd4, _, _, rfl, .inl (SqL.of (s24 _ _ hz1)), rfl, flat_cells _, _, rfl, ?_⟩
            rw [show (if false = true then !inV (vn y) (zs.map vn) else inV (vn y) (zs.map vn)) = Bg.rch (sysOf rows) z y from by
              rw [← inz]; exact inV_cells y zs]
            cases e2 : Bg.rch (sysOf rows) z y with
            | true =>
              refine iteT ⟨_, rfl, _, h4, small1000 (by rw [List.length_map]; omega), sameN s4 hL, ?_⟩
              rw [upd_same, List.range_succ, List.filter_append, List.filter_cons, e1, e2]
              simp
            | false =>
              refine iteF ⟨s4, ?_⟩
              rw [h4, List.range_succ, List.filter_append, List.filter_cons, e1, e2]
              simp
          | false =>
            refine iteF ⟨s4, ?_⟩
            rw [h4, List.range_succ, List.filter_append, List.filter_cons, e1]
            simp
        · rintro H4 ⟨s4, h4⟩
          rw [cells_len] at h4
          have e4 : ((List.range rows.length).filter fun o => Bg.rch (sysOf rows) y o && Bg.rch (sysOf rows) o y) = Bg.partOf (sysOf rows) y := rfl
          rw [e4] at h4
          have hv4 := s4 _ _ h3
          refine ⟨L, _, rfl, .inl ⟨SqL.of h4, fun l hl => ?_⟩⟩
          have nVl : V0 ≠ l := ne_of_none hv4 hl
          have s5 : Same H3' (upd H4 l (.tup ((Bg.partOf (sysOf rows) y).map vn))) := sameN s4 (s4.free hl)
          refine ⟨us, by rw [upd_ne nVl]; exact hv4, small1000 (by rw [hcs.len, List.length_map, List.length_range]; omega), sameN (s3.trans s5) hV, _, upd_same, ?_⟩
          rw [List.range_succ, List.map_append]
          exact ((hcs.same s5).upd (by rw [upd_ne nVl]; exact hv4)).snoc (by rw [upd_ne (Ne.symm nVl)]; exact upd_same)
      · rintro H3 ⟨s3, us, h3, hcs⟩
        rw [cells_len] at hcs
        have hsa3 := s3 _ _ hsa2
        have hul : us.length = rows.length := by rw [hcs.len, List.length_map, List.length_range]
        -- those by their least
        refine ⟨_, rfl, _, rfl, sa, V0, _, _, rfl, SqL.of hsa3, SqL.of h3, fun N hN => ?_⟩
        refine walk_any (walk_zip (K := K) (a := sa) (b := V0) (xs := cellsV rows.length) (ys := us) (n := rows.length) (by rw [cells_len, hul]; simp)) (fun i H' => Same H3 H' ∧ ∃ vs, H' N = some (.lst vs) ∧ CsAt H' vs (((List.range i).filter fun c => decide ((Bg.partOf (sysOf rows) c).head? = some c)).map (Bg.partOf (sysOf rows))))
          ⟨same_upd hN, [], upd_same, .nil⟩ (fun i H' _ h => ⟨SqL.of (h.1 _ _ hsa3), SqL.of (h.1 _ _ h3)⟩) ?_ ?_
        · rintro y x H4 H5 hi0 ⟨s4, vs, h4, hcs4⟩ ⟨T', x1, x2, rfl, hT, rfl, e1, e2⟩
          obtain ⟨hi, rfl⟩ := cells_at e1
          obtain ⟨a, E0, rfl, hE, ha⟩ := hcs.get (show us[y]? = some x2 from e2)
          have hE' : E0 = Bg.partOf (sysOf rows) y := by
            rw [List.getElem?_map, List.getElem?_range hi] at hE
            cases hE; rfl
          subst hE'
          have ha4 := s4 _ _ ha
          have s5 : Same H4 (upd H4 T' (.tup [vn y, .ref a])) := same_upd hT
          have h5 := s5 _ _ h4
          have ha5 := s5 _ _ ha4
          have hT5 : upd H4 T' (.tup [vn y, .ref a]) T' = some (.tup [vn y, .ref a]) := upd_same
          generalize upd H4 T' (.tup [vn y, .ref a]) = H5 at s5 h5 ha5 hT5
          obtain ⟨m, r, hm⟩ : ∃ m r, Bg.partOf (sysOf rows) y = m :: r := by
            cases e : Bg.partOf (sysOf rows) y with
            | nil => have z := Bg.part_self (S := sysOf rows) (c := y) hi; rw [e] at z; simp at z
            | cons m r => exact ⟨m, r, rfl⟩
          have filt : ((List.range (y + 1)).filter fun c => decide ((Bg.partOf (sysOf rows) c).head? = some c)) =
              ((List.range y).filter fun c => decide ((Bg.partOf (sysOf rows) c).head? = some c)) ++ if m = y then [y] else [] := by
            rw [List.range_succ, List.filter_append, List.filter_cons, hm]
            by_cases h : m = y <;> simp [h]
          refine ⟨_, _, rfl, SqT.of hT5, rfl, _, _, rfl, _, _, rfl, rfl, rfl, _, rfl, a, _, _, vn m, rfl, rfl, SqT.of ha5, atI_nat (j := 0) (by rw [hm]; rfl), _, rfl, rfl, _, rfl, ?_⟩
          have hvl : vs.length ≤ y := by
            rw [hcs4.len, List.length_map]
            have := List.length_filter_le (fun c => decide ((Bg.partOf (sysOf rows) c).head? = some c)) (List.range y)
            simpa using this
          by_cases h : m = y
          · rw [decide_eq_true (by rw [h])]
            refine iteT ⟨_, rfl, vs, h5, small1000 (by omega), sameN (s4.trans s5) hN, _, upd_same, ?_⟩
            rw [filt, if_pos h, List.map_append]
            exact ((hcs4.same s5).upd h5).snoc (by rw [upd_ne (ne_of ha5 h5 (by simp))]; exact ha5)
          · rw [decide_eq_false (fun e => h (by have := V.int.inj e; omega))]
            refine iteF ⟨s4.trans s5, vs, h5, ?_⟩
            rw [filt, if_neg h, List.append_nil]
            exact hcs4.same s5
        · rintro H4 ⟨s4, vs, h4, hcs4⟩
          have hcs4 : CsAt H4 vs (Bg.whole (sysOf rows)) := hcs4
          have s04 := (s2.trans s3).trans s4
          clear hcs hul h3 hsa3 hsa2 hf2 hdd2
          refine ⟨Nat.zero_le _, fun fo hfo => ?_⟩
          refine while_ne (fun σ H' => ∃ (na fo : Addr) (us gs : List V) (W G : List (List Nat)) (l r : Option V), σ = [some (.ref wa), some (.ref sa), some (.ref dd), some (.ref na), some (.ref fo), l, r, none, none, none] ∧ Same H H' ∧ H fo = none ∧ H' na = some (.lst us) ∧ CsAt H' us W ∧
              H' fo = some (.lst gs) ∧ CsAt H' gs G ∧ (∃ f, W.length ≤ f ∧ Bg.comps (sysOf rows) = G ++ Bg.order (sysOf rows) f W) ∧ (∀ D ∈ W, D ∈ Bg.whole (sysOf rows)) ∧ W.Nodup ∧ na ≠ fo ∧ W.length + G.length ≤ rows.length)
            (fun (σ : L2.St) (H' : Hp) => match σ[3]? with
              | some (some (V.ref a)) => (match H' a with | some (.lst xs) => xs.length | _ => 0)
              | _ => 0)
            ⟨N, fo, vs, [], Bg.whole (sysOf rows), [], _, _, rfl, sameN s04 (s04.free hfo), s04.free hfo, by rw [upd_ne (ne_of_none h4 hfo)]; exact h4, hcs4.same (same_upd hfo), upd_same, .nil,
              ⟨_, Nat.le_refl _, rfl⟩, fun D hD => hD, Bg.whole_nodup, ne_of_none h4 hfo, whole_len (sysOf rows)⟩ ?_
          clear hfo hcs4 h4 s4 s04
          rintro σ H1 ⟨na, fo, us, gs, W, G, l, r, rfl, s1, hf0, h1, hW, h2, hG, ⟨fu, hfu, hcomp⟩, hwh, hnd, nwf, hlen⟩
          have hpd : DpAll K H1 us (W.map fun D => .tuple (D.map pdC)) := dpAll_tups vn pdC dp_C hW
          refine ⟨na, us, _, 1, rfl, h1, hpd, ?_, by decide, fun p hp nap => ⟨?_, fun hne => ?_, fun he => ?_⟩⟩
          · intro d hd
            obtain ⟨D, _, rfl⟩ := List.mem_map.mp hd
            exact Shal.tup (shal_cells D)
          · exact dpAll_tups vn pdC dp_C (hW.same (same_upd hp))
          · have hneW : W ≠ [] := by
              rintro rfl
              have := hW.len
              simp at this
              exact hne this
            obtain ⟨D0, r0, hrd⟩ := Bg.rdy_some hwh hneW
            obtain ⟨fu, rfl⟩ : ∃ f', fu = f' + 1 := by
              cases fu with
              | zero => cases W with
                | nil => exact absurd rfl hneW
                | cons _ _ => simp at hfu
              | succ f => exact ⟨f, rfl⟩
            have hD0 := (Bg.rdy_cons hrd).1
            have hDlt : ∀ D ∈ W, ∀ x ∈ D, x < rows.length := fun D hD x hx => Bg.whole_lt (hwh D hD) hx
            have hDlen : ∀ D ∈ W, D.length ≤ rows.length := fun D hD => asc_len (Bg.whole_asc (hwh D hD)) (hDlt D hD)
            have hp0 : H p = none := s1.free hp
            have s1' : Same H (upd H1 p (.lst [])) := sameN s1 hp0
            have h1' : upd H1 p (.lst []) na = some (.lst us) := by rw [upd_ne nap]; exact h1
            have h2' : upd H1 p (.lst []) fo = some (.lst gs) := by rw [upd_ne (ne_of_none h2 hp)]; exact h2
            have hW' := hW.same (same_upd hp (o := .lst []))
            have hG' := hG.same (same_upd hp (o := .lst []))
            generalize hH2 : upd H1 p (.lst []) = H2 at s1' h1' h2' hW' hG'
            have hul : us.length ≤ 24 := by rw [hW'.len]; omega
            -- rest
            refine ⟨_, rfl, na, rfl, ⟨_, SqL.of h1'⟩, fun L hL => ?_⟩
            refine walk_any (walk_list (K := K) (a := na) (xs := us)) (fun i H' => Same H2 H' ∧ ∃ ls, H' L = some (.lst ls) ∧ LsAt H' L ls (W.take i)) ⟨same_upd hL, [], upd_same, by simp, fun i D h => by simp at h⟩ (fun i H' _ h => SqL.of (h.1 _ _ h1')) ?_ ?_
            · rintro i x H3 H3' hi ⟨s3, ls, h3, hls⟩ ⟨rfl, hx⟩
              obtain ⟨a, D, rfl, hD, ha⟩ := hW'.get hx
              have ha3 := s3 _ _ ha
              have hll := hls.1
              rw [List.length_take] at hll
              refine ⟨rfl, tyes ⟨_, rfl, a, _, rfl, .inr (SqT.of ha3), fun l hl => ?_⟩⟩
              have nLl : L ≠ l := ne_of_none h3 hl
              refine ⟨ls, by rw [upd_ne nLl]; exact h3, small1000 (by omega), sameN (s3.trans (same_upd hl)) hL, _, upd_same, ?_⟩
              rw [take_snoc hD]
              exact hls.snoc (fun z o hz h => by rw [upd_ne hz, upd_ne (ne_of_none h hl)]; exact h) (by rw [upd_ne (Ne.symm nLl)]; exact upd_same) (Ne.symm nLl)
            · rintro H3 ⟨s3, ls, h3, hls⟩
              rw [hW'.len, List.take_length] at hls
              have hfl : W.flatten.length ≤ 24 * 24 := by
                have e1 : W.flatten.length ≤ rows.length * W.length := flat_len hDlen
                exact Nat.le_trans e1 (Nat.mul_le_mul hle (by omega))
              have emap : (W.map (·.map vn)).flatten = W.flatten.map vn := by rw [List.map_flatten]
              refine ⟨sz0, fun z hz => ⟨L, z, ls, W.map (·.map vn), rfl, by rw [upd_ne (ne_of_none h3 hz)]; exact h3, upd_same, by rw [List.length_map]; exact hls.1, fun i D e => ?_, Nat.le_of_lt (small1000 (by rw [emap, List.length_map]; omega)), fun H4 rl s4 h4r => ?_⟩⟩
              · obtain ⟨D', e1, rfl⟩ := map_at e
                obtain ⟨b, q1, q2, _⟩ := hls.2 i D' e1
                exact ⟨b, q1, by rw [upd_ne (ne_of_none q2 hz)]; exact q2⟩
              rw [emap] at h4r
              have s24 : Same H2 H4 := (s3.trans (same_upd hz)).trans s4
              clear hls h3 s3 hL hz s4
              -- ready
              have h1w := s24 _ _ h1'
              have hW4 := hW'.same s24
              refine ⟨_, rfl, na, rfl, ⟨_, SqL.of h1w⟩, fun R hR => ?_⟩
              refine walk_any (walk_list (K := K) (a := na) (xs := us)) (fun i H' => Same H4 H' ∧ ∃ rs, H' R = some (.lst rs) ∧ rs.length ≤ i ∧ CsAt H' rs ((W.take i).filter fun D => !Bg.leads (sysOf rows) D W.flatten))
                ⟨same_upd hR, [], upd_same, Nat.le_refl _, .nil⟩ (fun i H' _ h => SqL.of (h.1 _ _ h1w)) ?_ ?_
              · rintro i x H5 H5' hi ⟨s5, rs, h5, hl5, hc5⟩ ⟨rfl, hx⟩
                obtain ⟨a, D, rfl, hD, ha⟩ := hW4.get hx
                have hDm := List.mem_of_getElem? hD
                have s05 := (s1'.trans s24).trans s5
                refine ⟨rfl, _, rfl, _, rfl, _, rfl, wa, a, rl, ws, rows, D, W.flatten, rfl, s05 _ _ hw, htr.same s05, hok, s5 _ _ ha, s5 _ _ h4r, hDlt D hDm, fun H6 s6 => ⟨_, rfl, ?_⟩⟩
                have h6 := s6 _ _ h5
                cases e : Bg.leads (sysOf rows) D W.flatten with
                | true =>
                  refine iteF ⟨s5.trans s6, rs, h6, by omega, ?_⟩
                  rw [List.take_add_one, hD, List.filter_append]
                  simpa [e] using hc5.same s6
                | false =>
                  refine iteT ⟨_, rfl, rs, h6, small1000 (by omega), sameN (s5.trans s6) hR, _, upd_same, by simp; omega, ?_⟩
                  rw [List.take_add_one, hD, List.filter_append]
                  have := ((hc5.same s6).upd (o := .lst (rs ++ [.ref a])) h6).snoc (a := a) (D := D) (by rw [upd_ne (ne_of (s6 _ _ (s5 _ _ ha)) h6 (by simp))]; exact s6 _ _ (s5 _ _ ha))
                  simpa [e] using this
              · rintro H5 ⟨s5, rs, h5, hl5, hc5⟩
                rw [hW4.len, List.take_length] at hc5
                have hc5' : CsAt H5 rs (D0 :: r0) := by
                  have : CsAt H5 rs (Bg.rdy (sysOf rows) W) := hc5
                  rwa [hrd] at this
                obtain ⟨d0, hd0, hd0h⟩ := hc5'.at_ (i := 0) rfl
                have s25 := s24.trans s5
                have h2f := s25 _ _ h2'
                have hgl : gs.length ≤ 24 := by rw [hG.len]; omega
                refine ⟨_, rfl, .inl ⟨rfl, _, SqL.of h2f⟩, _, rfl, R, _, _, .ref d0, rfl, rfl, SqL.of h5, atI_nat (j := 0) hd0, fo, _, _, rfl, rfl, h2f, small1000 (by omega), ?_⟩
                have hG5 := hG'.same s25
                have hG6 : CsAt (upd H5 fo (.lst (gs ++ [.ref d0]))) (gs ++ [.ref d0]) (G ++ [D0]) := (hG5.upd h2f).snoc (by rw [upd_ne (ne_of hd0h h2f (by simp))]; exact hd0h)
                have hW6 : CsAt (upd H5 fo (.lst (gs ++ [.ref d0]))) us W := ((hW'.same s25).upd h2f)
                have s6 : Same H (upd H5 fo (.lst (gs ++ [.ref d0]))) := sameN (s1'.trans s25) hf0
                have h6w : upd H5 fo (.lst (gs ++ [.ref d0])) na = some (.lst us) := by rw [upd_ne nwf]; exact s25 _ _ h1'
                have hfr : fo ≠ R := by
                  intro e
                  subst e
                  rw [s24 _ _ h2'] at hR
                  cases hR
                have h6r : upd H5 fo (.lst (gs ++ [.ref d0])) R = some (.lst rs) := by rw [upd_ne (Ne.symm hfr)]; exact h5
                have h6d : upd H5 fo (.lst (gs ++ [.ref d0])) d0 = some (.tup (D0.map vn)) := by rw [upd_ne (ne_of hd0h h2f (by simp))]; exact hd0h
                have h6f : upd H5 fo (.lst (gs ++ [.ref d0])) fo = some (.lst (gs ++ [.ref d0])) := upd_same
                generalize upd H5 fo (.lst (gs ++ [.ref d0])) = H6 at hG6 hW6 s6 h6w h6r h6d h6f
                -- the others
                refine ⟨_, rfl, na, rfl, ⟨_, SqL.of h6w⟩, fun N hN => ?_⟩
                refine walk_any (walk_list (K := K) (a := na) (xs := us)) (fun i H' => Same H6 H' ∧ ∃ ns, H' N = some (.lst ns) ∧ ns.length ≤ i ∧ CsAt H' ns ((W.take i).filter fun D => decide (D ≠ D0)))
                  ⟨same_upd hN, [], upd_same, Nat.le_refl _, .nil⟩ (fun i H' _ h => SqL.of (h.1 _ _ h6w)) ?_ ?_
                · rintro i x H7 H7' hi ⟨s7, ns, h7, hl7, hc7⟩ ⟨rfl, hx⟩
                  obtain ⟨a, D, rfl, hD, ha⟩ := hW6.get hx
                  have ha7 := s7 _ _ ha
                  refine ⟨rfl, _, rfl, _, rfl, R, _, _, .ref d0, rfl, rfl, SqL.of (s7 _ _ h6r), atI_nat (j := 0) hd0, ?_⟩
                  refine ⟨.tuple (D.map pdC), .tuple (D0.map pdC), .tup (SqT.of ha7) (dpAll_cells D), .tup (SqT.of (s7 _ _ h6d)) (dpAll_cells D0), (Shal.tup (shal_cells D)).ok (by decide), (Shal.tup (shal_cells D0)).ok (by decide), _, rfl, ?_⟩
                  rw [show PyData.eqv (.tuple (D.map pdC)) (.tuple (D0.map pdC)) = decide (D = D0) from eqv_tup pdC eqv_pdC D D0]
                  by_cases e : D = D0
                  · rw [decide_eq_true e]
                    refine iteF ⟨s7, ns, h7, by omega, ?_⟩
                    rw [List.take_add_one, hD, List.filter_append]
                    simpa [e] using hc7
                  · rw [decide_eq_false e]
                    refine iteT ⟨_, rfl, ns, h7, small1000 (by omega), sameN s7 hN, _, upd_same, by simp; omega, ?_⟩
                    rw [List.take_add_one, hD, List.filter_append]
                    have := (hc7.upd (o := .lst (ns ++ [.ref a])) h7).snoc (a := a) (D := D) (by rw [upd_ne (ne_of ha7 h7 (by simp))]; exact ha7)
                    simpa [e] using this
                · rintro H7 ⟨s7, ns, h7, hl7, hc7⟩
                  rw [hW6.len, List.take_length] at hc7
                  have hlt : (W.filter fun D => decide (D ≠ D0)).length < W.length := by
                    have := (Bg.filter_ne_perm hnd hD0).length_eq
                    simp only [List.length_cons] at this
                    omega
                  have nNf : N ≠ fo := by
                    intro e
                    subst e
                    rw [h6f] at hN
                    cases hN
                  refine ⟨⟨N, fo, ns, _, _, _, _, _, rfl, s6.trans s7, hf0, h7, hc7, s7 _ _ h6f, hG6.same s7, ⟨fu, by omega, ?_⟩, fun D hD => hwh D (List.mem_filter.mp hD).1, hnd.filter _, nNf, ?_⟩, ?_⟩
                  · rw [hcomp]
                    simp only [Bg.order, hrd, List.append_assoc, List.singleton_append]
                  · simp only [List.length_append, List.length_cons, List.length_nil]
                    omega
                  · show (match H7 N with | some (.lst xs) => xs.length | _ => 0) < (match H1 na with | some (.lst xs) => xs.length | _ => 0)
                    rw [h7, h1]
                    show ns.length < us.length
                    rw [hc7.len, hW'.len]
                    exact hlt
          · subst he
            have eW : W = [] := by
              have := hW.len
              cases W with
              | nil => rfl
              | cons _ _ => simp at this
            subst eW
            have eo : Bg.order (sysOf rows) fu [] = [] := by
              cases fu with
              | zero => rfl
              | succ f => simp [Bg.order, Bg.rdy]
            rw [eo, List.append_nil] at hcomp
            have h2p : upd H1 p (.lst []) fo = some (.lst gs) := by rw [upd_ne (ne_of_none h2 hp)]; exact h2
            refine ⟨_, rfl, q _ fo gs (sameN s1 (s1.free hp)) h2p ?_⟩
            rw [hcomp]
            exact hG.same (same_upd hp)
end
end BgT
set_option Elab.async false
set_option linter.all false
set_option maxRecDepth 100000
set_option maxHeartbeats 4000000
namespace BgT
open PySem PySem.Spec PyProof.Rows L2
/-! ### all orders -/
def ext1 (n : Nat) (row : List Nat) : List (List Nat) := ((List.range n).filter fun c => !decide (c ∈ row)).map fun c => row ++ [c]
def lev (n : Nat) : Nat → List (List Nat)
  | 0 => [[]]
  | k + 1 => (lev n k).flatMap (ext1 n)
def ords (n : Nat) : Nat → List (List Nat)
  | 0 => [[]]
  | k + 1 => ords n k ++ lev n (k + 1)
theorem lev_len (n : Nat) : ∀ k, (lev n k).length ≤ n ^ k
  | 0 => by simp [lev]
  | k + 1 => by
    have ih := lev_len n k
    have h1 : ∀ row, (ext1 n row).length ≤ n := fun row => by
      unfold ext1
      rw [List.length_map]
      have := List.length_filter_le (fun c => !decide (c ∈ row)) (List.range n)
      simpa using this
    have h2 : ∀ L : List (List Nat), (L.flatMap (ext1 n)).length ≤ n * L.length := fun L => by
      induction L with
      | nil => simp
      | cons a L ih2 =>
        rw [List.flatMap_cons, List.length_append, List.length_cons, Nat.mul_succ]
        have := h1 a
        omega
    have h3 := h2 (lev n k)
    show ((lev n k).flatMap (ext1 n)).length ≤ n ^ k * n
    have h4 : n * (lev n k).length ≤ n * n ^ k := Nat.mul_le_mul_left n ih
    rw [Nat.mul_comm (n ^ k) n]
    omega
theorem mem_lev {n : Nat} : ∀ (k : Nat) (row : List Nat), row ∈ lev n k ↔ row.Nodup ∧ (∀ x ∈ row, x < n) ∧ row.length = k
  | 0, row => by
    simp only [lev, List.mem_singleton]
    constructor
    · rintro rfl; simp
    · rintro ⟨_, _, h⟩; exact List.eq_nil_of_length_eq_zero h
  | k + 1, row => by
    simp only [lev, List.mem_flatMap, ext1, List.mem_map, List.mem_filter, List.mem_range]
    constructor
    · rintro ⟨r, hr, c, ⟨hc, hcr⟩, rfl⟩
      obtain ⟨h1, h2, h3⟩ := (mem_lev k r).mp hr
      have hcr : c ∉ r := by simpa using hcr
      refine ⟨?_, fun x hx => ?_, by simp [h3]⟩
      · rw [List.nodup_append]
        exact ⟨h1, by simp, fun a ha b hb e => by simp at hb; subst hb; subst e; exact hcr ha⟩
      · rcases List.mem_append.mp hx with hx | hx
        · exact h2 x hx
        · simp at hx; subst hx; exact hc
    · rintro ⟨h1, h2, h3⟩
      rcases List.eq_nil_or_concat row with e | ⟨r, c, e⟩
      · subst e; simp at h3
      · have e : row = r ++ [c] := by rw [e]; simp
        subst e
        rw [List.nodup_append] at h1
        refine ⟨r, (mem_lev k r).mpr ⟨h1.1, fun x hx => h2 x (by simp [hx]), by simpa using h3⟩, c, ⟨h2 c (by simp), ?_⟩, rfl⟩
        have : c ∉ r := fun h => h1.2.2 c h c (by simp) rfl
        simp [this]
theorem mem_ords {n : Nat} : ∀ (k : Nat) (row : List Nat), row ∈ ords n k ↔ row.Nodup ∧ (∀ x ∈ row, x < n) ∧ row.length ≤ k
  | 0, row => by
    simp only [ords, List.mem_singleton]
    constructor
    · rintro rfl; simp
    · rintro ⟨_, _, h⟩; exact List.eq_nil_of_length_eq_zero (by omega)
  | k + 1, row => by
    rw [ords, List.mem_append, mem_ords k, mem_lev (k + 1)]
    constructor
    · rintro (⟨h1, h2, h3⟩ | ⟨h1, h2, h3⟩)
      · exact ⟨h1, h2, by omega⟩
      · exact ⟨h1, h2, by omega⟩
    · rintro ⟨h1, h2, h3⟩
      by_cases h : row.length ≤ k
      · exact .inl ⟨h1, h2, h⟩
      · exact .inr ⟨h1, h2, by omega⟩
theorem CsAt.append {H : Hp} {a b : List V} {A B : List (List Nat)} (h : CsAt H a A) (k : CsAt H b B) : CsAt H (a ++ b) (A ++ B) := by
  have h1 := h.len
  have k1 := k.len
  refine ⟨by simp [h1, k1], fun i d e => ?_⟩
  rw [List.map_append] at e
  by_cases hi : i < A.length
  · rw [List.getElem?_append_left (by rw [List.length_map]; exact hi)] at e
    obtain ⟨p, q1, q2⟩ := h.2 i d e
    exact ⟨p, by rw [List.getElem?_append_left (by rw [h1]; exact hi)]; exact q1, q2⟩
  · rw [List.getElem?_append_right (by rw [List.length_map]; omega), List.length_map] at e
    obtain ⟨p, q1, q2⟩ := k.2 (i - A.length) d e
    exact ⟨p, by rw [List.getElem?_append_right (by rw [h1]; omega), h1]; exact q1, q2⟩
theorem CsAt.keepT {H H' : Hp} {a : List V} {A : List (List Nat)} (h : CsAt H a A) (k : ∀ p ys, H p = some (.tup ys) → H' p = some (.tup ys)) : CsAt H' a A :=
  ⟨h.1, fun i d e => let ⟨p, q1, q2⟩ := h.2 i d e; ⟨p, q1, k _ _ q2⟩⟩
/-- a list of lists of tuples -/
def LsR (H : Hp) (L : Addr) (ls : List V) (E : List (List (List Nat))) : Prop := ls.length = E.length ∧ ∀ (i : Nat) (X : List (List Nat)), E[i]? = some X → ∃ b vs, ls[i]? = some (.ref b) ∧ H b = some (.lst vs) ∧ CsAt H vs X ∧ b ≠ L
theorem LsR.snoc {H H' : Hp} {L b : Addr} {ls vs : List V} {E : List (List (List Nat))} {X : List (List Nat)} (h : LsR H L ls E) (k : ∀ a o, a ≠ L → H a = some o → H' a = some o) (hL : ∃ ys, H L = some (.lst ys)) (hb : H' b = some (.lst vs)) (hc : CsAt H' vs X) (nb : b ≠ L) : LsR H' L (ls ++ [.ref b]) (E ++ [X]) := by
  obtain ⟨yl, hL⟩ := hL
  refine ⟨by simp [h.1], fun i Y e => ?_⟩
  by_cases hi : i < E.length
  · rw [List.getElem?_append_left hi] at e
    obtain ⟨c, ws, h1, h2, h3, h4⟩ := h.2 i Y e
    exact ⟨c, ws, by rw [List.getElem?_append_left (by rw [h.1]; exact hi)]; exact h1, k _ _ h4 h2, h3.keepT fun p ys q => k _ _ (ne_of q hL (by simp)) q, h4⟩
  · have hl : i = E.length := by
      have := (List.getElem?_eq_some_iff.mp e).1
      simp at this
      omega
    subst hl
    rw [List.getElem?_append_right (Nat.le_refl _)] at e
    simp at e
    subst e
    exact ⟨b, vs, by rw [List.getElem?_append_right (by rw [h.1]; exact Nat.le_refl _), h.1]; simp, hb, hc, nb⟩
theorem LsR.glue {H : Hp} {L : Addr} : ∀ {E : List (List (List Nat))} {ls : List V}, LsR H L ls E → ∃ W : List (List V), ls.length = W.length ∧ (∀ (i : Nat) (D : List V), W[i]? = some D → ∃ b, ls[i]? = some (.ref b) ∧ H b = some (.lst D)) ∧ CsAt H W.flatten E.flatten
  | [], ls, h => ⟨[], h.1, fun i D e => by simp at e, .nil⟩
  | X :: E, [], h => by have := h.1; simp at this
  | X :: E, l :: ls, h => by
    obtain ⟨b, vs, h1, h2, h3, _⟩ := h.2 0 X rfl
    obtain ⟨W, w1, w2, w3⟩ := LsR.glue (E := E) (ls := ls) ⟨by have := h.1; simpa using this, fun i Y e => by
      obtain ⟨c, ws, q1, q2⟩ := h.2 (i + 1) Y (by simpa using e)
      exact ⟨c, ws, by simpa using q1, q2⟩⟩
    refine ⟨vs :: W, by simp [w1], fun i D e => ?_, by rw [List.flatten_cons, List.flatten_cons]; exact h3.append w3⟩
    cases i with
    | zero => simp at e; subst e; exact ⟨b, h1, h2⟩
    | succ i =>
      obtain ⟨c, q1, q2⟩ := w2 i D (by simpa using e)
      exact ⟨c, by simpa using q1, q2⟩
def scLonger : Scope := match (defBody s_law_orders)[2]? with
  | some (Stmt.For _ _ ((Stmt.Assign _ (.Call _ (.ListComp _ _ sc _ :: _) _ _) _) :: _) _ _) => { sc with names := sc.names.map fun p => if p.2 == .free then (p.1, .cell) else p }
  | _ => defScope s_law_orders
section
variable {P : Program} {w : World} {K : PySem.W.Frag} {mg : Str → Option Value} {base : Heap}
theorem op_catAK {X : Cx} {K : PySem.W.Frag} (h : X.K = K := by rfl) : OpR X (binaryOp .Add) (rCatA K) := by subst h; exact op_catA
theorem ext1_take {n i : Nat} {row : List Nat} : ((List.range (i + 1)).filter fun c => !decide (c ∈ row)).map (fun c => row ++ [c]) = ((List.range i).filter fun c => !decide (c ∈ row)).map (fun c => row ++ [c]) ++ if i ∈ row then [] else [row ++ [i]] := by
  rw [List.range_succ, List.filter_append, List.filter_cons]
  by_cases h : i ∈ row <;> simp [h]
theorem sc_law_orders : FnScope ["_law_some", "_law_found", "_law_longer", "_law_turn", "_law_row", "_law_one"] ["_law_some"] (defScope s_law_orders) := ⟨rfl, rfl, rfl, by decide +kernel, rfl, by decide +kernel, by decide +kernel⟩
theorem bd_law_orders {K : PySem.W.Frag} {mg : Str → Option Value} (T : Tx K mg) : Binds K (fdOf K (He.ga K "_law_orders")) ["_law_some"] [] := T.F_law_orders.bindsN (fun _ _ _ _ _ _ us hl => match us, hl with | [_], _ => rfl)
def sp_law_orders : Sp := fun vs H Q _ => ∃ (sa : Addr) (n : Nat), vs = [.ref sa] ∧ H sa = some (.lst (cellsV n)) ∧ n ≤ 5 ∧ ∀ H' l us, Same H H' → H' l = some (.lst us) → CsAt H' us (ords n n) → Q (.ref l) H'
theorem ok_law_orders (T : Tx K mg) : FO P w K mg base 1 (He.ga K "_law_orders") ["_law_some"] sp_law_orders := by
  refine T.F_law_orders.ok sc_law_orders (fun vs H Q E h => ?_) (fun cdv A outer s H vs Q E hr h => ?_)
  · obtain ⟨sa, n, rfl, _⟩ := h; rfl
  · obtain ⟨sa, n, rfl, hsa, hn, q⟩ := h
    refine ⟨_, PSs.nox (pss_cons (ps_set (i := 1) sc_law_orders.nd rfl (Or.inl rfl) (pe_lst (pa_cons (pe_tup pa_nil) pa_nil)))
 (pss_cons (ps_set (i := 2) sc_law_orders.nd rfl (Or.inl rfl) (pe_lst (pa_cons (pe_tup pa_nil) pa_nil)))
 (pss_cons (ps_for PassesOwn.never rfl (pi_range1 rfl T.b_range (pa_cons (pe_callB call_len_seq (by rfl) T.b_len (by decide +kernel) (pa_cons (pv 0) pa_nil)) pa_nil)) (pg_name (i := 3) sc_law_orders.nd rfl (Or.inl rfl))
 (pss_cons (ps_set (i := 2) sc_law_orders.nd rfl (Or.inl rfl) (pe_callB (cr_glue rfl) (by rfl) T.b_sum (by decide +kernel) (pa_cons (pe_lc (own := [("_law_row", 4)]) (g := gName 4) rfl sc_law_orders.nd (pi_list (pv 2)) (blkOk_by (own := [("_law_row", 4)]) (N := ["_law_some", "_law_found", "_law_longer", "_law_turn", "_law_row", "_law_one"]) (sc := defScope s_law_orders) (by decide +kernel)) (fun _ _ _ _ _ => (pg_name (i := 4) sc_law_orders.nd rfl (by first | exact Or.inl rfl | exact Or.inr rfl))) (fun _ _ _ _ _ => pts_nil) (fun _ _ _ _ _ => (pe_lc (own := [("_law_one", 5)]) (g := gName 5) rfl sc_law_orders.nd (pi_listK (K := K) (pv 0)) (blkOk_nest (N := ["_law_some", "_law_found", "_law_longer", "_law_turn", "_law_row", "_law_one"]) (own := [("_law_one", 5)]) (sc' := scLonger) (by rfl) (by decide +kernel)) (fun _ _ _ _ _ => (pg_name (i := 5) sc_law_orders.nd rfl (by first | exact Or.inl rfl | exact Or.inr rfl))) (fun _ _ _ _ _ => pts_one (pt_cmpR (op_notIn_seqK (K := K)) (pv 5) (pv 4) (by rfl))) (fun _ _ _ _ _ => (pe_op (op_catAK (K := K)) (pv 4) (pe_tup (pa_cons (pv 5) pa_nil))))))) (pa_cons (pe_lst pa_nil) pa_nil))))
 (pss_one (ps_set (i := 1) sc_law_orders.nd rfl (Or.inl rfl) (pe_op op_cat (pv 1) (pv 2))))))
 (pss_one (ps_ret (pv 1)))))), ?_⟩
    have h5 : ∀ k, k ≤ 5 → (lev n k).length ≤ 3125 := fun k hk => by
      refine Nat.le_trans (lev_len n k) ?_
      have e1 : n ^ k ≤ 5 ^ k := Nat.pow_le_pow_left hn k
      have e2 : 5 ^ k ≤ 5 ^ 5 := Nat.pow_le_pow_right (by decide) hk
      exact Nat.le_trans e1 e2
    have h6 : ∀ k, k ≤ 5 → (ords n k).length ≤ 1 + 3125 * k := fun k => by
      induction k with
      | zero => intro _; simp [ords]
      | succ k ih =>
        intro hk
        have e1 := ih (by omega)
        have e2 := h5 (k + 1) hk
        rw [ords, List.length_append]
        omega
    have big : ∀ m, m ≤ 100000 → m ≤ sizeLine := fun m hm => by rw [sizeLine_eq]; omega
    refine ⟨sz0, fun e0 he0 => ⟨sz1, fun fo hfo => ⟨sz0, fun e1 he1 => ⟨sz1, fun lo hlo => ?_⟩⟩⟩⟩
    have a1 := same_upd hfo (o := .lst [V.ref e0])
    have a2 := same_upd he1 (o := .tup ([] : List V))
    have a3 := same_upd hlo (o := .lst [V.ref e1])
    have g1 := a3 _ _ (a2 _ _ (a1 _ _ (upd_same (H := H) (a := e0) (o := .tup []))))
    have g2 := a3 _ _ (a2 _ _ (upd_same (a := fo) (o := .lst [V.ref e0])))
    have g3 := a3 _ _ (upd_same (a := e1) (o := .tup ([] : List V)))
    have g4 := upd_same (H := upd (upd (upd H e0 (.tup [])) fo (.lst [.ref e0])) e1 (.tup [])) (a := lo) (o := .lst [V.ref e1])
    have s1 : Same H (upd (upd (upd (upd H e0 (.tup [])) fo (.lst [.ref e0])) e1 (.tup [])) lo (.lst [.ref e1])) := (((same_upd he0).trans a1).trans a2).trans a3
    generalize upd (upd (upd (upd H e0 (.tup [])) fo (.lst [.ref e0])) e1 (.tup [])) lo (.lst [.ref e1]) = H1 at g1 g2 g3 g4 s1
    clear a1 a2 a3 hlo he1 hfo he0
    have c0 : ∀ e, H1 e = some (.tup []) → CsAt H1 [.ref e] [[]] := fun e he => CsAt.snoc (us := []) (W := []) (D := []) .nil he
    refine ⟨_, rfl, sa, _, rfl, .inl (SqL.of (s1 _ _ hsa)), _, rfl, by rw [cells_len]; omega, by rw [cells_len]; omega, ?_⟩
    rw [cells_len, Int.toNat_natCast]
    refine for_it (walk_range (lo := 0) (n := n)) (fun i σ H' => ∃ fo lo us gs a, σ = [some (.ref sa), some (.ref fo), some (.ref lo), a, none, none] ∧ Same H H' ∧ H' fo = some (.lst gs) ∧ CsAt H' gs (ords n i) ∧ H' lo = some (.lst us) ∧ CsAt H' us (lev n i))
      ⟨fo, lo, _, _, _, rfl, s1, g2, c0 _ g1, g4, c0 _ g3⟩ (fun _ _ _ _ _ => trivial) ?_ ?_
    · clear g1 g2 g3 g4 s1 c0 fo lo e0 e1 H1
      rintro k x σ H1 H1' hk ⟨fo, lo, us, gs, a, rfl, s1, hfo, hgs, hlo, hus⟩ ⟨rfl, rfl⟩
      have hk5 : k ≤ 5 := by omega
      have hul := hus.len
      have hl5 := h5 k hk5
      refine ⟨_, rfl, lo, rfl, ⟨_, SqL.of hlo⟩, fun L hL => ?_⟩
      refine walk_any (walk_list (K := K) (a := lo) (xs := us)) (fun i H' => Same H1' H' ∧ ∃ ls, H' L = some (.lst ls) ∧ LsR H' L ls (((lev n k).take i).map (ext1 n))) ⟨same_upd hL, [], upd_same, by simp, fun i X h => by simp at h⟩ (fun i H' _ h => SqL.of (h.1 _ _ hlo)) ?_ ?_
      · rintro i x H2 H2' hi ⟨s2, ls, h2, hls⟩ ⟨rfl, hx⟩
        obtain ⟨ra, row, rfl, hrow, hra⟩ := hus.get hx
        have hra2 := s2 _ _ hra
        have hrl : row.length = k := ((mem_lev k row).mp (List.mem_of_getElem? hrow)).2.2
        have hll := hls.1
        rw [List.length_map, List.length_take] at hll
        have hsa2 := s2 _ _ (s1 _ _ hsa)
        refine ⟨rfl, tyes ⟨_, rfl, sa, rfl, ⟨_, SqL.of hsa2⟩, fun M hM => ?_⟩⟩
        refine walk_any (walk_list (K := K) (a := sa) (xs := cellsV n)) (fun j H' => Same H2' H' ∧ ∃ vs, H' M = some (.lst vs) ∧ vs.length ≤ j ∧ CsAt H' vs (((List.range j).filter fun c => !decide (c ∈ row)).map fun c => row ++ [c])) ⟨same_upd hM, [], upd_same, Nat.le_refl _, .nil⟩ (fun i H' _ h => SqL.of (h.1 _ _ hsa2)) ?_ ?_
        · rintro j y H3 H3' hj ⟨s3, vs, h3, hvl, hvs⟩ ⟨rfl, hy⟩
          obtain ⟨hjn, rfl⟩ := cells_at hy
          refine ⟨rfl, _, rfl, _, rfl, ra, _, rfl, .inr (SqT.of (s3 _ _ hra2)), rfl, flat_cells _, _, rfl, ?_⟩
          rw [show (if true = true then !inV (vn j) (row.map vn) else inV (vn j) (row.map vn)) = !decide (j ∈ row) from by
            show (!inV (vn j) (row.map vn)) = _
            rw [inV_cells]]
          by_cases hjr : j ∈ row
          · rw [decide_eq_true hjr]
            refine iteF ⟨s3, vs, h3, by omega, ?_⟩
            rw [ext1_take (n := n), if_pos hjr, List.append_nil]
            exact hvs
          · rw [decide_eq_false hjr]
            refine iteT ⟨_, rfl, _, rfl, sz1, fun o ho => ?_⟩
            have s4 : Same H3' (upd H3' o (.tup [vn j])) := same_upd ho
            have h4 := s4 _ _ h3
            have ho4 : upd H3' o (.tup [vn j]) o = some (.tup [vn j]) := upd_same
            have hra4 := s4 _ _ (s3 _ _ hra2)
            generalize upd H3' o (.tup [vn j]) = H4 at s4 h4 ho4 hra4
            have fin : ∀ (H5 : Hp) (p : Addr), Same H4 H5 → H5 p = some (.tup ((row ++ [j]).map vn)) → ∃ acc, H5 M = some (.lst acc) ∧ acc.length < sizeLine ∧ Same H2' (upd H5 M (.lst (acc ++ [V.ref p]))) ∧ ∃ vs, upd H5 M (.lst (acc ++ [V.ref p])) M = some (.lst vs) ∧ vs.length ≤ j + 1 ∧ CsAt (upd H5 M (.lst (acc ++ [V.ref p]))) vs (((List.range (j + 1)).filter fun c => !decide (c ∈ row)).map fun c => row ++ [c]) := fun H5 p s5 hp => by
              have h5' := s5 _ _ h4
              refine ⟨vs, h5', small1000 (by omega), sameN ((s3.trans s4).trans s5) hM, _, upd_same, by simp; omega, ?_⟩
              rw [ext1_take (n := n), if_neg hjr]
              exact (((hvs.same s4).same s5).upd h5').snoc (by rw [upd_ne (ne_of hp h5' (by simp))]; exact hp)
            refine ⟨ra, o, _, _, rfl, rfl, SqT.of hra4, SqT.of ho4, big _ (by rw [List.length_map]; simp; omega), fun he => ?_, (fun _ he => by cases he), fun _ _ p hp => ?_⟩
            · have : row = [] := by simpa using he
              exact fin H4 o (Same.refl _) (by rw [this]; exact ho4)
            · exact fin _ p (same_upd hp) (by rw [upd_same]; simp)
        · rintro H3 ⟨s3, vs, h3, hvl, hvs⟩
          rw [cells_len] at hvs hvl
          have h3L := s3 _ _ h2
          have nML : M ≠ L := Ne.symm (ne_of_none h2 hM)
          refine ⟨ls, h3L, Nat.lt_of_lt_of_le (Nat.lt_succ_of_le (Nat.le_refl _)) (big _ (by omega)), sameN (s2.trans s3) hL, _, upd_same, ?_⟩
          rw [take_snoc hrow, List.map_append]
          have hls3 : LsR H3 L ls (((lev n k).take i).map (ext1 n)) := ⟨hls.1, fun i X e => by
            obtain ⟨b, ws, q1, q2, q3, q4⟩ := hls.2 i X e
            exact ⟨b, ws, q1, s3 _ _ q2, q3.same s3, q4⟩⟩
          exact hls3.snoc (fun z o hz h => by rw [upd_ne hz]; exact h) ⟨_, h3L⟩ (by rw [upd_ne nML]; exact h3) (hvs.upd h3L) nML
      · rintro H2 ⟨s2, ls, h2, hls⟩
        rw [hul, List.take_length] at hls
        obtain ⟨W, w1, w2, w3⟩ := hls.glue
        have w3 : CsAt H2 W.flatten (lev n (k + 1)) := by
          have e : ((lev n k).map (ext1 n)).flatten = lev n (k + 1) := by rw [lev, List.flatMap_def]
          rwa [e] at w3
        have hl6 := h5 (k + 1) (by omega)
        have hwl := w3.len
        refine ⟨sz0, fun z hz => ⟨L, z, ls, W, rfl, by rw [upd_ne (ne_of_none h2 hz)]; exact h2, upd_same, w1, fun i D e => ?_, big _ (by omega), fun H3 nl s3 hnl => ?_⟩⟩
        · obtain ⟨b, q1, q2⟩ := w2 i D e
          exact ⟨b, q1, by rw [upd_ne (ne_of_none q2 hz)]; exact q2⟩
        have s13 := (s2.trans (same_upd hz (o := .lst []))).trans s3
        have w3' := (w3.same (same_upd hz (o := .lst []))).same s3
        have hg6 := h6 k hk5
        have hgl := hgs.len
        refine ⟨_, rfl, _, rfl, fo, nl, _, _, rfl, rfl, s13 _ _ hfo, hnl, big _ (by omega), fun no hno => ?_⟩
        refine ⟨no, nl, _, _, _, rfl, (s1.trans s13).trans (same_upd hno), upd_same, ?_, by rw [upd_ne (ne_of_none hnl hno)]; exact hnl, w3'.same (same_upd hno)⟩
        exact CsAt.append ((hgs.same s13).same (same_upd hno)) (w3'.same (same_upd hno))
    · rintro σ H2 ⟨fo, lo, us, gs, a, rfl, s1, hfo, hgs, -, -⟩
      exact ⟨_, rfl, q _ fo gs s1 hfo hgs⟩
end
end BgT
set_option Elab.async false
set_option linter.all false
set_option maxRecDepth 100000
set_option maxHeartbeats 4000000
namespace BgT
open PySem PySem.Spec PyProof.Rows L2
/-! ### zip(a list, a tuple) -/
/-- the list at a and the tuple at b as they stand at each turn -/
def ItzM (K : PySem.W.Frag) (a b : Addr) : It :=
  ⟨fun i H => ∃ (xs ys : List V) (x y : V), SqL K H a xs ∧ SqT K H b ys ∧ xs[i]? = some x ∧ ys[i]? = some y,
    fun i H v H' => ∃ T x y, v = .ref T ∧ H T = none ∧ H' = upd H T (.tup [x, y]) ∧ (∀ xs, SqL K H a xs → xs[i]? = some x) ∧ (∀ ys, SqT K H b ys → ys[i]? = some y),
    fun i H => ∃ xs ys : List V, SqL K H a xs ∧ SqT K H b ys ∧ i ≤ xs.length ∧ i ≤ ys.length ∧ (i = xs.length ∨ i = ys.length)⟩
structure FarM (z TI TO i1 i2 a b : Addr) : Prop where
  S : ZipSep2 z TI TO i1 i2 [i1, a] [i2, b]
  na : a ≠ i1
  nb : b ≠ i2
def StM (z TI TO i1 i2 a b : Addr) (i : Nat) (h : Heap) : Prop := IsZip h z TI TO .none ∧ IsTupOf2 h TI (.ref i1) (.ref i2) ∧ (∃ x y, IsTupOf2 h TO x y) ∧ h.IsListIter i1 a i ∧ h.IsTupleIter i2 b i
theorem five {P : Addr → Prop} {z t o p q : Addr} (h1 : P z) (h2 : P t) (h3 : P o) (h4 : P p) (h5 : P q) : ∀ c ∈ [z, t, o, p, q], P c := fun c hc => by
  simp only [List.mem_cons, List.not_mem_nil, or_false] at hc
  rcases hc with rfl | rfl | rfl | rfl | rfl <;> assumption
theorem turn_zipM {P : Program} {w : World} {K : PySem.W.Frag} {tl : List Expr} {kk : Nat} {tpos : Pos} {a b z TI TO i1 i2 : Addr} (D : FarM z TI TO i1 i2 a b) :
    Turn P w K (.Tuple tl kk tpos) (ItzM K a b) [z, TI, TO, i1, i2] z (StM z TI TO i1 i2 a b) where
  mem := List.mem_cons_self ..
  obj := fun i h st => by
    obtain ⟨hz, hI, ⟨x, y, hO⟩, ⟨o1, e1, _, d1⟩, ⟨o2, e2, _, d2⟩⟩ := st
    exact five ⟨_, hz, fun v => nofun⟩ ⟨_, hI, fun v => nofun⟩ ⟨_, hO, fun v => nofun⟩ ⟨o1, e1, fun v hv => by rw [d1] at hv; cases hv⟩ ⟨o2, e2, fun v hv => by rw [d2] at hv; cases hv⟩
  keep := fun i h h' st k => by
    obtain ⟨hz, hI, ⟨x, y, hO⟩, g1, g2⟩ := st
    exact ⟨k z (by simp) _ hz, k TI (by simp) _ hI, ⟨x, y, k TO (by simp) _ hO⟩, g1.at (fun o => k i1 (by simp) o), g2.at (fun o => k i2 (by simp) o)⟩
  item := by
    rintro X rfl rfl rfl hc i pins s σ H E I hf ⟨hz, hI, ⟨x0, y0, hO⟩, g1, g2⟩ ⟨xs, ys, x, y, hqx, hqy, hx, hy⟩
    obtain ⟨us, rv, pa, _⟩ := I.list hqx
    obtain ⟨ws, rw', pb, _⟩ := I.tuple hqy
    obtain ⟨u, hu, ru⟩ := rv.get hx
    obtain ⟨u2, hu2, ru2⟩ := rw'.get hy
    have lx : i < us.length := (List.getElem?_eq_some_iff.1 hu).1
    have ly : i < ws.length := (List.getElem?_eq_some_iff.1 hu2).1
    have hh := I.ok.hd hc
    have zl : z < s.heap.objs.size := Heap.lt_size hz
    refine wpAny_pyNext_zipD2_item D.S (Draws.list (A := X.A.in1) hh i1 a D.na us.toArray) (Draws.tuple (A := X.A.in1) hh i2 b D.nb ws.toArray) hz hI hO ⟨g1, pa.isList⟩ ⟨g2, pb⟩ (by simpa using lx) (by simpa using ly) fun v1 v2 h' tk p1 p2 z1 O1 s1 s2 hT _ hk => ?_
    obtain rfl : u = v1 := by
      have p1' : us.toArray[i]? = some v1 := p1
      rw [List.getElem?_toArray, hu] at p1'
      exact Option.some.inj p1'
    obtain rfl : u2 = v2 := by
      have p2' : ws.toArray[i]? = some v2 := p2
      rw [List.getElem?_toArray, hu2] at p2'
      exact Option.some.inj p2'
    refine ⟨_, rfl, wpAny_letOwnedTupleGo_zip (s := { s with heap := h', toks := tk }) z1 fun h2 z2 sb => ?_⟩
    have hT2 : h2.get? s.heap.objs.size = some { cls := .type "tuple", data := .seq #[u, u2] } := (sb.2 _ (Nat.ne_of_gt zl)).trans hT
    have made : ObjOk X.prog X.w (upd H s.heap.objs.size (.tup [x, y])) h2 s.heap.objs.size (.tup [x, y]) :=
      ⟨by show 2 ≤ sizeLine; decide, [u, u2], .cons ru (.cons ru2 .nil), ⟨_, hT2, rfl, _, rfl⟩⟩
    have J := I.turnedNew (t' := tk) (ch := [z, TI, TO, i1, i2]) (fun c o hb q => by
      simp only [List.mem_cons, List.not_mem_nil, or_false, not_or] at hb
      exact (sb.2 c hb.1).trans (hk c o hb.1 hb.2.2.1 hb.2.2.2.1 hb.2.2.2.2 q)) hf (Nat.le_refl _) made
    have nx : ∀ c o, c ≠ z → c ≠ TO → c ≠ i1 → c ≠ i2 → s.heap.get? c = some o → h2.get? c = some o := fun c o c1 c2 c3 c4 e => (sb.2 c c1).trans (hk c o c1 c2 c3 c4 e)
    refine ⟨.ref s.heap.objs.size, _, J, rfl, ⟨_, x, y, rfl, I.hok.fresh (Nat.le_refl _), rfl, fun l hl => by rw [I.list_inj hl hqx]; exact hx, fun l hl => by rw [I.tuple_inj hl hqy]; exact hy⟩, ⟨z2, ?_, ⟨u, u2, (sb.2 _ D.S.TOz).trans O1⟩, ?_, ?_⟩, fun c hcm => ?_⟩
    · exact nx _ _ D.S.TIz D.S.TITO D.S.TIi1 D.S.TIi2 hI
    · exact s1.1.at fun o q => (sb.2 _ (Ne.symm D.S.zi1)).trans q
    · exact s2.1.at fun o q => (sb.2 _ (Ne.symm D.S.zi2)).trans q
    · have lt : c < s.heap.objs.size := by
        obtain ⟨o1, e1, _⟩ := g1
        obtain ⟨o2, e2, _⟩ := g2
        exact five (P := (· < s.heap.objs.size)) zl (Heap.lt_size hI) (Heap.lt_size hO) (Heap.lt_size e1) (Heap.lt_size e2) c hcm
      rw [upd_ne (Nat.ne_of_lt lt)]
      exact (hf c hcm).1
  done := by
    rintro X rfl rfl rfl hc i pins s σ H E I hf ⟨hz, hI, ⟨x0, y0, hO⟩, g1, g2⟩ ⟨xs, ys, hqx, hqy, lx, ly, he⟩
    obtain ⟨us, rv, pa, _⟩ := I.list hqx
    obtain ⟨ws, rw', pb, _⟩ := I.tuple hqy
    have e1 := rv.length
    have e2 := rw'.length
    have hh := I.ok.hd hc
    refine wpAny_pyNext_zipD2_end D.S (Draws.list (A := X.A.in1) hh i1 a D.na us.toArray) (Draws.tuple (A := X.A.in1) hh i2 b D.nb ws.toArray) hz hI hO ⟨g1, pa.isList⟩ ⟨g2, pb⟩ (by simp; omega) (by simp; omega) (by simp; omega) fun h' tk hk => ⟨rfl, ?_⟩
    exact I.turnedL (t' := tk) (ch := [z, TI, TO, i1, i2]) (fun c o hb q => by
      simp only [List.mem_cons, List.not_mem_nil, or_false, not_or] at hb
      exact hk c o hb.1 hb.2.2.1 hb.2.2.2.1 hb.2.2.2.2 q) hf
  self := fun A i s Q E st h => wpAny_pyIter_zip st.1 h

theorem two {P : Addr → Prop} {p q : Addr} (h1 : ¬ P p) (h2 : ¬ P q) (c : Addr) (hc : P c) : c ∉ [p, q] := fun m => by
  simp only [List.mem_cons, List.not_mem_nil, or_false] at m
  rcases m with rfl | rfl
  · exact h1 hc
  · exact h2 hc
theorem farM (n a b : Nat) (la : a < n) (lb : b < n) : FarM (n + 4) (n + 2) (n + 3) n (n + 1) a b := by
  have f : ∀ {x y : Nat}, x < y → y ≠ x := fun h => Nat.ne_of_gt h
  have g : ∀ {x y : Nat}, x < y → x ≠ y := fun h => Nat.ne_of_lt h
  refine ⟨⟨g ?_, g ?_, g ?_, f ?_, List.mem_cons_self .., two (P := fun c => n + 3 < c) ?_ ?_ _ ?_, two (P := fun c => n + 2 < c) ?_ ?_ _ ?_, f ?_, List.mem_cons_self .., two (P := fun c => n + 3 < c) ?_ ?_ _ ?_, two (P := fun c => n + 2 < c) ?_ ?_ _ ?_, two (P := fun c => n = c) ?_ ?_ _ rfl, two (P := fun c => n + 1 = c) ?_ ?_ _ rfl⟩, g la, g ?_⟩ <;> omega
def iZipM (K : PySem.W.Frag) (ta : TA) : TI := fun σ H R => ta σ H fun vs H1 => ∃ a b xs ys, vs = [.ref a, .ref b] ∧ SqL K H1 a xs ∧ SqT K H1 b ys ∧ R (ItzM K a b) H1
theorem pi_zipM {X : Cx} {e e2 : Expr} {ta : TA} {p pos tpos : Pos} {tl : List Expr} {kk : Nat} (hg : Gl X "zip") (hm : X.mg "zip" = none) (ha : PA X [e, e2] ta)
    (hs : starEach [e, e2] X.env = (false, eval e X.env) :: starEach [e2] X.env := by rfl) (hpl : (backTo pos (starEach [e2] X.env)).any (·.1) = false := by rfl) :
    PI X (.Tuple tl kk tpos) (.Call (.Name "zip" p) [e, e2] [] pos) (iZipM X.K ta) := by
  refine ⟨fun pins s σ H R I h => Call_ (ld_blt I hg hm PyProof.Rows.boot_zip (PyProof.Rows.callWith_type1 (thn (ha.run pos pins s σ H _ I h) ?_) hs hpl))⟩
  rintro us s1 ⟨vs, H1, I1, r1, a, b, xs, ys, rfl, hqx, hqy, q⟩
  cases r1 with
  | cons r rr =>
    cases rr with
    | cons r' rr =>
      cases rr
      cases r
      cases r'
      obtain ⟨ws, _, pa, _⟩ := I1.list hqx
      obtain ⟨zs, _, pb, _⟩ := I1.tuple hqy
      have la : a < s1.heap.objs.size := pa.lt
      have lb : b < s1.heap.objs.size := by
        obtain ⟨ob, hob, _⟩ := id pb
        exact Heap.lt_size hob
      have D := farM s1.heap.objs.size a b la lb
      refine zip_begins2 (begins_list a ws.toArray) (begins_tuple b zs.toArray) pa.isList pb fun h' hz hI hO o1 o2 _ hk => wpAny_pyIter_zip hz ?_
      refine ⟨s1.heap.objs.size + 4, [s1.heap.objs.size + 4, s1.heap.objs.size + 2, s1.heap.objs.size + 3, s1.heap.objs.size, s1.heap.objs.size + 1], _, _, H1, rfl, I1.kept (t' := s1.toks) hk, turn_zipM D, ⟨hz, hI, ⟨_, _, hO⟩, ⟨_, o1, rfl, rfl⟩, ⟨_, o2, rfl, rfl⟩⟩, ?_, q⟩
      have fr : ∀ k, FpOk _ pins H1 (s1.heap.objs.size + k) := fun k => I1.fpOk (Nat.le_add_right _ _) (I1.hok.fresh (Nat.le_add_right _ _))
      exact five (fr 4) (fr 2) (fr 3) (fr 0) (fr 1)
/-- turns of zip(a list, a tuple) with an invariant -/
theorem walk_zipM {K : PySem.W.Frag} {a b : Addr} {xs ys : List V} {g : TG} {tb : TS} {D : Ends} {σ : L2.St} {H : Hp} (hl : xs.length = ys.length) (Pv : Nat → L2.St → Hp → Prop) (h0 : Pv 0 σ H) (hq : ∀ i σ H, Pv i σ H → SqL K H a xs ∧ SqT K H b ys)
    (hs : ∀ (i : Nat) (x y : V) (T : Addr) (σ : L2.St) (H : Hp), xs[i]? = some x → ys[i]? = some y → Pv i σ H → H T = none → g (.ref T) σ (upd H T (.tup [x, y])) fun σ2 H2 => tb { D with nx := Pv (i + 1), ct := Pv (i + 1), bk := D.nx } σ2 H2) (hd : ∀ σ H, Pv xs.length σ H → D.nx σ H) :
    ∃ W : Nat → Nat → L2.St → Hp → Prop, (∃ m, W 0 m σ H) ∧ ∀ i m σ H, W i m σ H →
      ((ItzM K a b).stop i H ∧ D.nx σ H) ∨ ((ItzM K a b).go i H ∧ ∃ N : L2.St → Hp → Prop, (∀ σ' H', N σ' H' → ∃ m', m' < m ∧ W (i + 1) m' σ' H') ∧ ∀ v H', (ItzM K a b).yld i H v H' → g v σ H' fun σ2 H2 => tb { D with nx := N, ct := N, bk := D.nx } σ2 H2) := by
  refine ⟨fun i m σ H => m = xs.length - i ∧ i ≤ xs.length ∧ Pv i σ H, ⟨xs.length, rfl, Nat.zero_le _, h0⟩, ?_⟩
  rintro i m σ H ⟨rfl, hi, p⟩
  obtain ⟨qx, qy⟩ := hq i σ H p
  rcases Nat.lt_or_ge i xs.length with lt | ge
  · have lt2 : i < ys.length := hl ▸ lt
    refine .inr ⟨⟨xs, ys, xs[i], ys[i], qx, qy, List.getElem?_eq_getElem lt, List.getElem?_eq_getElem lt2⟩, Pv (i + 1), fun σ' H' p' => ⟨xs.length - (i + 1), by omega, rfl, lt, p'⟩, ?_⟩
    rintro v H' ⟨T, x', y', rfl, hT, rfl, f1, f2⟩
    exact hs i x' y' T σ H (f1 xs qx) (f2 ys qy) p hT
  · obtain rfl : i = xs.length := Nat.le_antisymm hi ge
    exact .inl ⟨⟨xs, ys, qx, qy, Nat.le_refl _, by omega, .inl rfl⟩, hd σ H p⟩
end BgT
set_option Elab.async false
set_option linter.all false
set_option maxRecDepth 100000
set_option maxHeartbeats 4000000
namespace BgT
open PySem PySem.Spec PyProof.Rows L2
section
variable {P : Program} {w : World} {K : PySem.W.Frag} {mg : Str → Option Value} {base : Heap}
/-! ### _law_again -/
theorem sc_law_again : FnScope ["_law_pen_here", "_law_rows_here", "_law_lots", "_law_chosen", "_law_found", "_law_part", "_law_one", "_law_open_ones", "_law_other", "_law_k"] ["_law_pen_here", "_law_rows_here", "_law_lots", "_law_chosen"] (defScope s_law_again) := ⟨rfl, rfl, rfl, by decide +kernel, rfl, by decide +kernel, by decide +kernel⟩
theorem bd_law_again {K : PySem.W.Frag} {mg : Str → Option Value} (T : Tx K mg) : Binds K (fdOf K (He.ga K "_law_again")) ["_law_pen_here", "_law_rows_here", "_law_lots", "_law_chosen"] [] := T.F_law_again.bindsN (fun _ _ _ _ _ _ us hl => match us, hl with | [_, _, _, _], _ => rfl)
def sp_law_again : Sp := fun vs H Q _ => ∃ (p q la ca : Addr) (r : V) (ns : List Int) (t : Nat) (us : List V) (W : List (List Nat)) (es : List (Option Nat)), vs = [.ref p, r, .ref la, .ref ca] ∧ Pen H p q ns t ∧ la ≠ p ∧ H la = some (.lst us) ∧ CsAt H us W ∧ H ca = some (.tup (es.map optN)) ∧ es.length = W.length ∧ W.length ≤ 24 ∧ (∀ D ∈ W, D.length ≤ 24) ∧ t ≤ 400000 ∧
  ∀ H' l (qs : List Nat) t', KeepX p H H' → H l = none → Pen H' p q ns t' → t' ≤ t + 72 → H' l = some (.lst (qs.map vn)) → qs.length ≤ 72 → Bg.AG W es W.length qs → Q (.ref l) H'
theorem ok_law_again (T : Tx K mg) : FO P w K mg base 2 (He.ga K "_law_again") ["_law_pen_here", "_law_rows_here", "_law_lots", "_law_chosen"] sp_law_again := by
  refine T.F_law_again.ok sc_law_again (fun vs H Q E h => ?_) (fun cdv A outer s H vs Q E hr h => ?_)
  · obtain ⟨p, q, la, ca, r, ns, t, us, W, es, rfl, _⟩ := h; rfl
  · obtain ⟨p, q, la, ca, r, ns, t, us, W, es, rfl, hP, nla, hla, hcs, hca, hel, hW, hD, ht, qq⟩ := h
    refine ⟨_, PSs.nox (pss_cons (ps_set (i := 4) sc_law_again.nd rfl (Or.inl rfl) (pe_lst pa_nil))
 (pss_cons (ps_for PassesOwn.never rfl (pi_zipM (by rfl) T.b_zip (pa_cons (pv 2) (pa_cons (pv 3) pa_nil))) (pg_tup rfl (pgs_cons (pg_name (i := 5) sc_law_again.nd rfl (Or.inl rfl)) (pgs_cons (pg_name (i := 6) sc_law_again.nd rfl (Or.inl rfl)) pgs_nil)))
 (pss_one (ps_if (pt_cmpR op_notN (pv 6) pe_non (nomark _))
 (pss_cons (ps_expr (pe_bm PySem.F.plainAttrs_list PySem.F.slot_list_append PySem.F.type_list_append mt_append (pv 4) (pa_cons (pv 6) pa_nil)))
 (pss_cons (ps_set (i := 7) sc_law_again.nd rfl (Or.inr rfl) (pe_op op_cat (pe_lc (own := [("_law_other", 8)]) (g := gName 8) rfl sc_law_again.nd (pi_list (pv 4)) (blkOk_by (own := [("_law_other", 8)]) (N := ["_law_pen_here", "_law_rows_here", "_law_lots", "_law_chosen", "_law_found", "_law_part", "_law_one", "_law_open_ones", "_law_other", "_law_k"]) (sc := defScope s_law_again) (by decide +kernel)) (fun _ _ _ _ _ => (pg_name (i := 8) sc_law_again.nd rfl (by first | exact Or.inl rfl | exact Or.inr rfl))) (fun _ _ _ _ _ => pts_nil) (fun _ _ _ _ _ => (pv 8))) (pe_callTy call_list_of (by rfl) T.b_list (by decide +kernel) (pa_cons (pv 5) pa_nil))))
 (pss_one (ps_expr (pe_bm PySem.F.plainAttrs_list PySem.F.slot_list_extend PySem.F.type_list_extend mt_extend (pv 4) (pa_cons (pe_lc (own := [("_law_k", 9)]) (g := gName 9) rfl sc_law_again.nd (pi_range1 rfl T.b_range (pa_cons (pe_call (ok_law_pick T) (hr.mono (by decide)) rfl T.g_law_pick T.F_law_pick.kp (bd_law_pick T) .nil pass0 (pa_cons (pv 0) (pa_cons pe_int pa_nil))) pa_nil)) (blkOk_by (own := [("_law_k", 9)]) (N := ["_law_pen_here", "_law_rows_here", "_law_lots", "_law_chosen", "_law_found", "_law_part", "_law_one", "_law_open_ones", "_law_other", "_law_k"]) (sc := defScope s_law_again) (by decide +kernel)) (fun _ _ _ _ _ => (pg_name (i := 9) sc_law_again.nd rfl (by first | exact Or.inl rfl | exact Or.inr rfl))) (fun _ _ _ _ _ => pts_nil) (fun _ _ _ _ _ => (pe_ix (ix_listK (K := K)) (pv 7) (pe_call (ok_law_pick T) (hr.mono (by decide)) rfl T.g_law_pick T.F_law_pick.kp (bd_law_pick T) .nil pass0 (pa_cons (pv 0) (pa_cons (pe_callB (call_len_seqK (K := K)) (by rfl) T.b_len (by decide +kernel) (pa_cons (pv 7) pa_nil)) pa_nil))) (fun _ _ => rfl)))) pa_nil))))))
 pss_nil)))
 (pss_one (ps_ret (pv 4))))), ?_⟩
    refine ⟨sz0, fun f hf => ?_⟩
    obtain ⟨nfp, nfq⟩ := hP.freshP hf
    refine ⟨_, rfl, _, rfl, la, ca, us, es.map optN, rfl, SqL.of (by rw [upd_ne (ne_of_none hla hf)]; exact hla), SqT.of (by rw [upd_ne (ne_of_none hca hf)]; exact hca), ?_⟩
    refine walk_zipM (K := K) (a := la) (b := ca) (xs := us) (ys := es.map optN) (by rw [List.length_map, hel, hcs.len]) (fun i σ H' => ∃ (qs : List Nat) (t' : Nat) (a b c : Option V), σ = [some (.ref p), some r, some (.ref la), some (.ref ca), some (.ref f), a, b, c, none, none] ∧ KeepX p H H' ∧ Pen H' p q ns t' ∧ t' ≤ t + 3 * i ∧ H' f = some (.lst (qs.map vn)) ∧ qs.length ≤ 3 * i ∧ Bg.AG W es i qs)
      ⟨[], t, _, _, _, rfl, KeepX.refl.new hf, hP.new hf, by omega, upd_same, by simp, .zero⟩ ?_ ?_ ?_
    · rintro i σ H1 ⟨qs, t1, a, b, c, rfl, k1, P1, ht1, h1, hql, ag⟩
      exact ⟨SqL.of (k1 _ _ nla hla), SqT.of (k1.tup hP.lst.choose_spec hca)⟩
    · rintro i x y T0 σ H1 hx hy ⟨qs, t1, a, b, c, rfl, k1, P1, ht1, h1, hql, ag⟩ hT0
      obtain ⟨o, ho, rfl⟩ : ∃ o, es[i]? = some o ∧ y = optN o := by
        rw [List.getElem?_map] at hy
        cases h : es[i]? with
        | none => rw [h] at hy; cases hy
        | some o => rw [h] at hy; cases hy; exact ⟨o, rfl, rfl⟩
      have hil : i < W.length := by rw [← hel]; exact (List.getElem?_eq_some_iff.mp ho).1
      have hDi : W[i]? = some W[i] := List.getElem?_eq_getElem hil
      have hDl := hD _ (List.getElem_mem hil)
      generalize W[i] = D0 at hDi hDl
      obtain ⟨pa, hpe, hpa⟩ := hcs.at_ hDi
      obtain rfl : x = .ref pa := by rw [hpe] at hx; exact (Option.some.inj hx).symm
      refine ⟨_, _, rfl, SqT.of upd_same, rfl, _, _, rfl, _, _, rfl, rfl, ?_⟩
      have k2 := k1.new (k1.freeP P1 hT0) (o := .tup [V.ref pa, optN o])
      have P2 := P1.new hT0 (o := .tup [V.ref pa, optN o])
      have h2 : upd H1 T0 (.tup [V.ref pa, optN o]) f = some (.lst (qs.map vn)) := by rw [upd_ne (ne_of_none h1 hT0)]; exact h1
      generalize upd H1 T0 (.tup [V.ref pa, optN o]) = H2 at k2 P2 h2
      obtain ⟨pl, hpl⟩ := hP.lst
      have hpa2 := k2.tup hpl hpa
      refine ⟨_, rfl, rfl, _, rfl, ?_⟩
      cases o with
      | none =>
        rw [show (!decide (optN none = V.non)) = false from rfl]
        exact iteF ⟨qs, t1, _, _, _, rfl, k2, P2, by omega, h2, by omega, ag.skip ho⟩
      | some e =>
        rw [show (!decide (optN (some e) = V.non)) = true from rfl]
        refine iteT ⟨_, rfl, .inl ⟨rfl, _, SqL.of h2⟩, _, rfl, f, _, _, rfl, rfl, h2, small1000 (by rw [List.length_map]; omega), ?_⟩
        have k3 : KeepX p H (upd H2 f (.lst (qs.map vn ++ [vn e]))) := fun a o na ea => by rw [upd_ne (ne_of_none ea hf)]; exact k2 a o na ea
        have P3 := P2.other nfp nfq (o := .lst (qs.map vn ++ [vn e]))
        have h3 : upd H2 f (.lst (qs.map vn ++ [vn e])) f = some (.lst ((qs ++ [e]).map vn)) := by rw [upd_same, List.map_append]; rfl
        have hpa3 := k3.tup hpl hpa
        show tSeq _ _ _ _ (upd H2 f (.lst (qs.map vn ++ [vn e])))
        generalize upd H2 f (.lst (qs.map vn ++ [vn e])) = H3 at k3 P3 h3 hpa3
        refine ⟨_, rfl, f, rfl, ⟨_, SqL.of h3⟩, fun D hDn => ?_⟩
        refine walk_any (walk_list (K := K) (a := f) (xs := (qs ++ [e]).map vn)) (fun j H' => Same H3 H' ∧ H' D = some (.lst (((qs ++ [e]).take j).map vn))) ⟨same_upd hDn, upd_same⟩ (fun i H' _ h => SqL.of (h.1 _ _ h3)) ?_ ?_
        · rintro j y H4 H4' hj ⟨s4, h4⟩ ⟨rfl, hy⟩
          obtain ⟨z, hz, rfl⟩ := map_at hy
          have hjl := (List.getElem?_eq_some_iff.mp hz).1
          have hql2 : (qs ++ [e]).length ≤ 3 * i + 1 := by simp; omega
          refine ⟨rfl, tyes ⟨_, rfl, _, h4, small1000 (by rw [List.length_map, List.length_take]; omega), sameN s4 hDn, ?_⟩⟩
          rw [upd_same, take_snoc hz]
          simp
        · rintro H4 ⟨s4, h4⟩
          rw [List.length_map, List.take_length] at h4
          refine ⟨_, rfl, pa, _, rfl, .inr (SqT.of (s4 _ _ hpa3)), fun l hl => ?_⟩
          have s5 := s4.trans (same_upd hl (o := .lst (D0.map vn)))
          refine ⟨D, l, _, _, rfl, rfl, (by rw [upd_ne (ne_of_none h4 hl)]; exact h4), upd_same, Nat.le_of_lt (small1000 (by simp only [List.length_map, List.length_append, List.length_cons, List.length_nil]; omega)), fun m hm => ?_⟩
          rw [← List.map_append]
          have s6 := s5.trans (same_upd hm (o := .lst (((qs ++ [e]) ++ D0).map vn)))
          have h6 : upd (upd H4 l (.lst (D0.map vn))) m (.lst (((qs ++ [e]) ++ D0).map vn)) m = some (.lst (((qs ++ [e]) ++ D0).map vn)) := upd_same
          generalize hO : (qs ++ [e]) ++ D0 = O at s6 h6
          have hOl : O.length = qs.length + 1 + D0.length := by rw [← hO]; simp; omega
          generalize upd (upd H4 l (.lst (D0.map vn))) m (.lst (O.map vn)) = H5 at s6 h6
          have P5 := P3.same s6
          have k5 := k3.trans (KeepX.of s6)
          have h5 := s6 _ _ h3
          obtain ⟨nmp, nmq⟩ : m ≠ p ∧ m ≠ q := (P3.same s5).freshP hm
          refine ⟨_, rfl, .inl ⟨rfl, _, SqL.of h5⟩, ?_⟩
          refine ⟨_, rfl, p, q, ns, t1, 3, rfl, P5, by omega, by omega, by omega, fun H6 n t6 k6 P6 ht6 hn3 => ⟨n, rfl, by omega, by omega, fun M hM => ?_⟩⟩
          have h66 := k6 _ _ nmp h6
          have h65 := k6 _ _ nfp h5
          refine walk_any (walk_range (lo := 0) (n := n)) (fun j H' => ∃ (t' : Nat) (os : List Nat), KeepX p H6 H' ∧ Pen H' p q ns t' ∧ t' ≤ t6 + j ∧ H' M = some (.lst (os.map vn)) ∧ os.length = j ∧ ∀ o ∈ os, o ∈ O)
            ⟨t6, [], KeepX.refl.new hM, P6.new hM, by omega, upd_same, rfl, by simp⟩ (fun _ _ _ _ => trivial) ?_ ?_
          · rintro j y H7 H7' hj ⟨t7, os, k7, P7, ht7, h7, hol, hos⟩ ⟨rfl, rfl⟩
            have h76 := k7 _ _ nmp h66
            obtain ⟨nMp, nMq⟩ : M ≠ p ∧ M ≠ q := P6.freshP hM
            refine ⟨rfl, tyes ⟨_, rfl, _, rfl, _, rfl, m, _, rfl, .inl (SqL.of h76), ?_⟩⟩
            refine ⟨p, q, ns, t7, O.length, by rw [List.length_map]; rfl, P7, by omega, by omega, by omega, fun H8 z t8 k8 P8 ht8 hz => ?_⟩
            have hzo : O[z]? = some O[z] := List.getElem?_eq_getElem hz
            refine ⟨m, _, _, _, rfl, rfl, SqL.of (k8 _ _ nmp h76), atI_nat (by rw [List.getElem?_map, hzo]; rfl), ?_⟩
            have h8 := k8 _ _ nMp h7
            refine ⟨_, h8, small1000 (by rw [List.length_map]; omega), t8, os ++ [O[z]], fun a o na ea => ?_, P8.other nMp nMq, by omega, by rw [upd_same, List.map_append]; rfl, by simp [hol], fun o hoo => ?_⟩
            · rw [upd_ne (ne_of_none ea hM)]
              exact k8 a o na (k7 a o na ea)
            · rcases List.mem_append.mp hoo with hoo | hoo
              · exact hos o hoo
              · rw [List.mem_singleton.mp hoo]; exact List.getElem_mem hz
          · rintro H7 ⟨t7, os, k7, P7, ht7, h7, hol, hos⟩
            have h75 := k7 _ _ nfp h65
            refine ⟨f, M, _, _, rfl, rfl, h75, h7, Nat.le_of_lt (small1000 (by simp only [List.length_map, List.length_append, List.length_cons, List.length_nil]; omega)), ?_⟩
            rw [← List.map_append]
            have kk := (k5.trans k6).trans k7
            refine ⟨(qs ++ [e]) ++ os, t7, _, _, _, rfl, fun a o na ea => ?_, P7.other nfp nfq, by omega, upd_same, by simp; omega, ?_⟩
            · rw [upd_ne (ne_of_none ea hf)]
              exact kk a o na ea
            · rw [List.append_assoc]
              refine ag.enter hDi ho fun o hoo => ?_
              have := hos o hoo
              rw [← hO] at this
              simp only [List.mem_append, List.mem_singleton] at this
              rcases this with (h | h) | h
              · exact .inl h
              · exact .inr (.inl h)
              · exact .inr (.inr h)
    · rintro σ H1 ⟨qs, t1, a, b, c, rfl, k1, P1, ht1, h1, hql, ag⟩
      rw [hcs.len] at ht1 hql ag
      exact ⟨_, rfl, qq H1 f qs t1 k1 hf P1 (by omega) h1 (by omega) ag⟩
end
end BgT
set_option Elab.async false
set_option linter.all false
set_option maxRecDepth 100000
set_option maxHeartbeats 4000000
namespace BgT
open PySem PySem.Spec PyProof.Rows L2 GenW
/-! ### a generator's object, whether a delegator has slept over it or not -/
def GenAt (h : Heap) (a : Addr) (g : Nat) : Prop :=
  ∃ o nm qn, h.get? a = some o ∧ o.cls = .type "generator" ∧ o.data = .fields #[.int g 0, nm, qn] ∧ (o.slots = #[] ∨ o.slots = #[some (rawInt 0)])
theorem GenAt.of {h : Heap} {a : Addr} {g : Nat} (x : h.IsGen a g) : GenAt h a g := let ⟨o, nm, qn, h1, h2, h3, h4⟩ := x; ⟨o, nm, qn, h1, h2, h3, .inl h4⟩
theorem GenAt.at {h h' : Heap} {a : Addr} {g : Nat} (x : GenAt h a g) (k : ∀ o, h.get? a = some o → h'.get? a = some o) : GenAt h' a g := let ⟨o, nm, qn, h1, h2⟩ := x; ⟨o, nm, qn, k o h1, h2⟩
theorem GenAt.typeIs {s : Shared} {a : Addr} {g : Nat} (x : GenAt s.heap a g) : s.TypeIs (.ref a) "generator" := let ⟨o, _, _, ho, hc, _⟩ := x; ⟨o, ho, hc⟩
theorem num_gen {M : Model} {A : Around} {E : Value → Shared → Prop} {s : Shared} {a : Addr} {g : Nat} {Q : Nat → Shared → Prop} (hg : GenAt s.heap a g) (h : Q g s) : wpAny M A (Builtin.Generator.genNumber (.ref a)) Q E s := by
  obtain ⟨o, nm, qn, ho, _, hd, hsl⟩ := hg
  unfold Builtin.Generator.genNumber
  refine wpAny_bind (wpAny_load ho ?_)
  rcases hsl with hsl | hsl
  · rw [hsl, hd]
    show wpAny M A (pure ((g : Int).toNat)) Q E s
    rw [Int.toNat_natCast]; exact wpAny_pure h
  · rw [hsl, hd]
    show wpAny M A (pure ((g : Int).toNat)) Q E s
    rw [Int.toNat_natCast]; exact wpAny_pure h
section
variable {P : Program} {w : World} {A : Around} {E : Value → Shared → Prop} {s : Shared}
/-- one turn of a generator that raises nothing of its own -/
theorem wake_gen {a : Addr} {g n : Nat} {gs : GenState} {F : Nat → Shared → Shared → Prop} {Y : Protocol} {Q : Option Value → Shared → Prop} (hh : A.handled = none)
    (hl : s.heap.NoLimit) (hroom : A.depth < recursionLimit) (hg : GenAt s.heap a g) (hgs : s.gens[g]? = some gs)
    (hgo : gs.Goes (model P w) A.in1 (fun n s₀ r s₁ => r = .ok (.ret .none) ∧ F n s₀ s₁) Y n (.send .none) (s.setGen g .running))
    (hY : ∀ v s₁ gs', gs'.bare = true → Y (n - 1) (s.setGen g .running) v s₁ (fun r' s'' => match n with
        | 0 => False
        | m + 1 => gs'.Goes (model P w) A.in1 (fun n s₀ r s₁ => r = .ok (.ret .none) ∧ F n s₀ s₁) Y m r' s'') → Q (some v) (s₁.setGen g gs'))
    (hP : ∀ s₁, F n (s.setGen g .running) s₁ → ∀ e h', StopX e h' → (∀ b o, s₁.heap.get? b = some o → h'.get? b = some o) → E e { s₁.setGen g .finished with heap := h' }) :
    wpAny (model P w) A (callSpecial? (.ref a) "__next__") Q E s := by
  refine wpAny_callSpecial?_slot (name := Str.ofString "__next__") hg.typeIs slot_gen_next
    (wpAny_call_entry slot_gen_next hg.typeIs entry_gen_next ?_ (args_gen_next _))
  show wpAny _ A.in1 (Builtin.Generator.genWake (.ref a) (.send .none)) _ _ s
  unfold Builtin.Generator.genWake
  refine wpAny_bind (wpAny_holding (num_gen hg (wpAny_bind (wpAny_genState hgs ?_))))
  cases gs with
  | running => exact hgo.elim
  | finished => exact hgo.elim
  | _ =>
    refine wpAny_bind (wpAny_roomToWake hl hroom ?_)
    show wpAny _ A.in1 (.resume g (.send .none) [] _) _ _ s
    refine wpAny_resumeQ hgs hgo (fun x s₁ hx => ?_) (fun v s₁ gs' hb hv => wpAny_pure ⟨v, rfl, hY v s₁ gs' hb hv⟩)
    obtain ⟨hr, hp⟩ := hx
    have hres : End.result (.ret x) = .returned .none := by rw [hr]; rfl
    first | rw [hres] | simp only [hres]
    show wpAny _ A.in1 (newExc (.type "StopIteration") [] >>= _) _ _ _
    refine wpAny_bind ?_
    simp only [newExc, newTuple]
    refine wpAny_bind (wpAny_newObj_type ?_ (by size_fits))
    refine wpAny_bind (m := firstArgMember _ _) (wpAny_of_eq (a := Value.none) (by first | rfl | (simp only [firstArgMember]; rfl)) ?_)
    refine wpAny_newObj_type ?_ (by size_fits)
    simp only [raiseNew]
    refine wpAny_bind (wpAny_bind (wpAny_handled ?_))
    first | rw [show A.in1.handled = none from hh] | rw [hh]
    refine wpAny_throw (hP s₁ hp _ _ ⟨_, _, _, rfl, Heap.get?_push_size _ rfl, rfl, rfl, rfl⟩ fun b o hb => Heap.get?_push_of_some _ (Heap.get?_push_of_some _ hb))
end
end BgT
set_option Elab.async false
set_option linter.all false
set_option maxRecDepth 100000
set_option maxHeartbeats 4000000
namespace BgT
open PySem PySem.Spec PyProof.Rows L2 GenW
/-! ### readings that touch nothing but the counter of tokens -/
/-- e is x, and nothing has moved -/
def Calm (X : Cx) (e : Expr) (t : L2.St → Hp → V → Prop) : Prop := ∀ (pins : List (Addr × Obj)) (s : Shared) (σ : L2.St) (H : Hp) (x : V) (Q : Value → Shared → Prop) (E : Value → Shared → Prop), Inv X pins σ H s → t σ H x →
  (∀ v tk, RelV x v → Q v { s with toks := tk }) → wpAny (model X.prog X.w) X.A (eval e X.env) Q E s
section
variable {X : Cx}
theorem cm_var (i : Nat) {x : Str} {pos : Pos} (hN : X.N[i]? = some x := by rfl) (hv : Vis X.env.scope x := by first | exact Or.inl rfl | exact Or.inr (Or.inl rfl) | exact Or.inr (Or.inr rfl)) (hd : (x == ("__debug__" : Str)) = false := by decide) (hcd : (x == ("__classdict__" : Str)) = false := by decide) :
    Calm X (.Name x pos) (fun σ _ v => σ[i]? = some (some v)) := by
  intro pins s σ H v Q E I e h
  obtain ⟨m, hn, hl⟩ := I.loc
  obtain ⟨u, r, l⟩ := hl i x v hN e hv
  have fin : Q u s := h u s.toks r
  rcases l with ⟨hk, hm⟩ | ⟨hk, c, hc, hcell⟩
  · exact wpAny_Name (wpAny_loadName_local I.ok.kind hk hn hm fin) hd
  · rcases hk with hk | hk
    · exact wpAny_Name (wpAny_loadName_cell I.ok.kind hk hc hcell fin) hd
    · exact wpAny_Name (wpAny_loadName_free I.ok.kind hk hc hcell fin hcd) hd
theorem cm_int {i : Int} {j pos} : Calm X (.Constant (.int i) j pos) (fun _ _ v => v = .int i) := by
  rintro pins s σ H v Q E I rfl h
  exact wpAny_Constant_int (h _ _ ⟨_, rfl⟩)
theorem cm_str {z : Str} {j pos} : Calm X (.Constant (.str z) j pos) (fun _ _ v => v = .str z) := by
  rintro pins s σ H v Q E I rfl h
  exact Calls.Constant_str (h _ _ ⟨_, rfl⟩)
theorem cm_fld {e : Expr} {f : Str} {pos : Pos} {t : L2.St → Hp → V → Prop} (he : Calm X e t) (hb : attributeBase e f X.env (eval e X.env) = eval e X.env) :
    Calm X (.Attribute e f pos) (fun σ H v => ∃ a C dx fs, t σ H (.ref a) ∧ H a = some (.ins C dx fs) ∧ Cls X.K C ∧ NoAttr X.K C f ∧ fs.lookup f = some v) := by
  rintro pins s σ H v Q E I ⟨a, C, dx, fs, ht, ea, c, n, l⟩ h
  refine attr_of hb (he pins s σ H _ _ _ I ht fun u tk ru => ?_)
  obtain rfl : u = Value.ref a := ru
  have I1 : Inv X pins σ H { s with toks := tk } := I.tok _
  obtain ⟨mA, O, r, _, _, _⟩ := ins_get I1.hok ea
  obtain ⟨u, hu, ru⟩ := RelO.some_of (v := v) (o := mA f) (by rw [← l]; exact r f)
  exact get_map I1.kIn O (c.get f) c.hd n hu (handed_of ru) (h u _ ru)
/-- e[i] of a tuple -/
theorem cm_ix {a b : Expr} {pos : Pos} {t : L2.St → Hp → V → Prop} {i : Nat} (ha : Calm X a t) (hb : Calm X b (fun _ _ v => v = .int i)) (hs : PlainIx b) :
    Calm X (.Subscript a b pos) (fun σ H v => ∃ p xs, t σ H (.ref p) ∧ SqT X.K H p xs ∧ xs[i]? = some v) := by
  rintro pins s σ H z Q E I ⟨p, xs, ht, hq, he⟩ h
  refine Subscript_ (ha pins s σ H _ _ _ I ht fun v tk rv => ?_)
  obtain rfl : v = Value.ref p := rv
  have I1 : Inv X pins σ H { s with toks := tk } := I.tok _
  refine hb pins _ σ H _ _ _ I1 rfl fun u tk2 ru => ?_
  obtain ⟨t2, rfl⟩ := ru
  have I2 : Inv X pins σ H { s with toks := tk2 } := I.tok _
  obtain ⟨its, r, pl, hz⟩ := I2.tuple hq
  obtain ⟨j, h1, h2, h3, h4, h5⟩ := atI_get (atI_nat he)
  obtain ⟨w, ew, rw'⟩ := r.get h2
  have hl := r.length
  have hn := line63
  have fin : Q w { s with toks := tk2 } := h w tk2 rw'
  exact subscriptTail_builtinR (x := w) pl.typeIs slot_tuple_getitem.lookup
    (getItem_tuple (j := j) (Q := fun r s' => r = w ∧ Q r s') pl (by omega) (by omega) (by rw [List.size_toArray, ← hl]; exact h1) (by simpa using ew) ⟨rfl, fin⟩) (hs _ _)
end
end BgT
set_option Elab.async false
set_option linter.all false
set_option maxRecDepth 100000
set_option maxHeartbeats 4000000
namespace BgT
open PySem PySem.Spec PyProof.Rows L2 GenW
section
variable {X : Cx}
/-- e == a text, as a test -/
theorem cm_eqS {a : Expr} {z : Str} {j p pos : Pos} {t : L2.St → Hp → V → Prop} {k} (ha : Calm X a t) (pins : List (Addr × Obj)) (s : Shared) (σ : L2.St) (H : Hp) (y : Str) (Q : Bool → Shared → Prop) (E : Value → Shared → Prop) (I : Inv X pins σ H s) (hy : t σ H (.str y))
    (h : ∀ tk, Q (decide (V.str y = V.str z)) { s with toks := tk }) : wpAny (model X.prog X.w) X.A (isTrue (.Compare a [.Eq] [.Constant (.str z) k p] pos) X.env (eval (.Compare a [.Eq] [.Constant (.str z) k p] pos) X.env)) Q E s := by
  refine wpAny_isTrue_Compare1 (ha pins s σ H _ _ _ I hy fun v tk rv => ?_) (by rfl)
  obtain ⟨t1, rfl⟩ := rv
  have I1 : Inv X pins σ H { s with toks := tk } := I.tok _
  refine (cm_str (X := X)) pins _ σ H _ _ _ I1 rfl fun u tk2 ru => ?_
  obtain ⟨t2, rfl⟩ := ru
  refine eq_str (wpAny_truthy_bool ?_)
  rw [← dec_str]
  exact h tk2
end
section
variable {P : Program} {w : World} {A : Around} {E : Value → Shared → Prop} {s : Shared}
theorem lst_item {it l : Addr} {i : Nat} {us : Array Value} {x : Value} {Q : Option Value → Shared → Prop} (hit : s.heap.IsListIter it l i) (hl : s.heap.IsList l us) (hx : us[i]? = some x)
    (hQ : ∀ h', h'.IsListIter it l (i + 1) → Heap.SameBut it s.heap h' → Q (some x) { s with heap := h' }) : wpAny (model P w) A (callSpecial? (.ref it) "__next__") Q E s := by
  obtain ⟨o, ho, hc, hd⟩ := id hit
  obtain ⟨ol, hol, _, nl, hdl⟩ := hl
  refine wpAny_callSpecial?_slot (name := Str.ofString "__next__") hit.typeIs slot_listiter_next (wpAny_call_entry slot_listiter_next hit.typeIs entry_listiter_next ?_ (args_listiter_next _))
  show wpAny _ _ (field (.ref it) 0 >>= _) _ _ s
  refine wpAny_bind (wpAny_field ho hd (x := .ref l) rfl ?_)
  show wpAny _ _ (if (Value.ref l == Value.none) = true then _ else _) _ _ s
  rw [if_neg (show ¬ ((Value.ref l == Value.none) = true) from Bool.false_ne_true)]
  show wpAny _ _ (field (.ref it) 1 >>= _) _ _ s
  refine wpAny_bind (wpAny_field ho hd (x := .int i 0) rfl ?_)
  show wpAny _ _ (seqItems? (.ref l) >>= _) _ _ s
  refine wpAny_bind (wpAny_seqItems hol hdl ?_)
  simp only [Int.toNat_natCast, hx]
  refine wpAny_bind (wpAny_setField ho hd (by simp) (wpAny_pure ⟨x, rfl, hQ _ ⟨_, Heap.get?_update_self _ ho (Obj.isFreed_of_fields (Obj.data_mapFields hd _)), (Obj.cls_mapFields ..).trans hc, ?_⟩ (Heap.SameBut.update ..)⟩))
  rw [Obj.data_mapFields hd]; simp [rawInt]
theorem lst_end {it l : Addr} {i : Nat} {us : Array Value} {Q : Option Value → Shared → Prop} (hh : A.handled = none) (hit : s.heap.IsListIter it l i) (hl : s.heap.IsList l us) (hx : us[i]? = none)
    (hE : ∀ e h', StopX e h' → Heap.ExtBut it s.heap h' → E e { s with heap := h' }) : wpAny (model P w) A (callSpecial? (.ref it) "__next__") Q E s := by
  obtain ⟨o, ho, hc, hd⟩ := id hit
  obtain ⟨ol, hol, _, nl, hdl⟩ := hl
  refine wpAny_callSpecial?_slot (name := Str.ofString "__next__") hit.typeIs slot_listiter_next (wpAny_call_entry slot_listiter_next hit.typeIs entry_listiter_next ?_ (args_listiter_next _))
  show wpAny _ _ (field (.ref it) 0 >>= _) _ _ s
  refine wpAny_bind (wpAny_field ho hd (x := .ref l) rfl ?_)
  show wpAny _ _ (if (Value.ref l == Value.none) = true then _ else _) _ _ s
  rw [if_neg (show ¬ ((Value.ref l == Value.none) = true) from Bool.false_ne_true)]
  show wpAny _ _ (field (.ref it) 1 >>= _) _ _ s
  refine wpAny_bind (wpAny_field ho hd (x := .int i 0) rfl ?_)
  show wpAny _ _ (seqItems? (.ref l) >>= _) _ _ s
  refine wpAny_bind (wpAny_seqItems hol hdl ?_)
  simp only [Int.toNat_natCast, hx]
  refine wpAny_bind (wpAny_rule (wpAny_bind (wpAny_setField ho hd (by simp) ?_)))
  show wpAny _ _ (newExc (.type "StopIteration") [] >>= _) _ _ _
  refine wpAny_bind ?_
  simp only [newExc, newTuple]
  refine wpAny_bind (wpAny_newObj_type ?_ (by size_fits))
  refine wpAny_bind (m := firstArgMember _ _) (wpAny_of_eq (a := Value.none) (by first | rfl | (simp only [firstArgMember]; rfl)) ?_)
  refine wpAny_newObj_type ?_ (by size_fits)
  simp only [raiseNew]
  refine wpAny_bind (wpAny_handled ?_)
  first | rw [show A.in1.handled = none from hh] | rw [hh]
  exact wpAny_bind (wpAny_pure (wpAny_throw (hE _ _ ⟨_, _, _, rfl, Heap.get?_push_size _ rfl, rfl, rfl, rfl⟩ (((Heap.SameBut.update ..).extBut.push _).push _))))
end
/-! ### yield from a list, in raw states -/
/-- while it sleeps: only B's objects have changed -/
structure KeepB (B : List Addr) (s s2 : Shared) : Prop where
  os : s2.os = s.os
  bare : AllBare s2.gens
  keep : ∀ b o, b ∉ B → s.heap.get? b = some o → s2.heap.get? b = some o
/-- while it runs: only its own iterator has changed -/
structure ChgI (lo : Addr) (B : List Addr) (it : Addr) (s₀ s : Shared) : Prop where
  lo : lo ≤ it
  nb : it ∉ B
  os : s.os = s₀.os
  bare : AllBare s.gens
  gens : s.gens = s₀.gens
  keep : ∀ b o, b ≠ it → s₀.heap.get? b = some o → s.heap.get? b = some o
def YE (lo : Addr) (B : List Addr) (vs : List Value) : Protocol := fun n s₀ v s kap => vs[vs.length - 1 - n]? = some v ∧ (∃ it, ChgI lo B it s₀ s) ∧ ∀ s2, KeepB B s s2 → kap (.send .none) s2
def FE (lo : Addr) (B : List Addr) : Nat → Shared → Shared → Prop := fun n s₀ s => n = 0 ∧ ∃ it, ChgI lo B it s₀ s
theorem close_lst : typeLookup (.type "list_iterator") "close" = pure none := by rw [typeLookup_type, builtinLookup_eq_fast]; kernel_rfl
theorem seg_yfl {X : Cx} {A : Around} {R : GenEnd} {fs : List Frame} {it L : Addr} {vs : List Value} {lo : Addr} {B : List Addr} (hLB : L ∉ B) (hLi : L ≠ it)
    (ho : (A.over (.builtin "proto.yield_from" ⟨[.ref it, .bool false, .none], []⟩) fs).handled = none) (hsp : splitAtGen fs = none) (hgd : fs.any Frame.guarded = false)
    (hend : ∀ (s₀ s : Shared), ChgI lo B it s₀ s → Seg (model X.prog X.w) A R (YE lo B vs) 0 s₀ (.builtin "proto.yield_from" ⟨[.ref it, .bool false, .none], []⟩) (.pure (.done (.ret .none))) fs s) :
    ∀ (r j : Nat) (s₀ s : Shared), j + r = vs.length → ChgI lo B it s₀ s → s.heap.IsListIter it L j → s.heap.IsList L vs.toArray →
      Seg (model X.prog X.w) A R (YE lo B vs) r s₀ (.builtin "proto.yield_from" ⟨[.ref it, .bool false, .none], []⟩) ((model X.prog X.w).den (.builtin "proto.yield_from" ⟨[.ref it, .bool false, .none], []⟩)) fs s := by
  intro r
  induction r with
  | zero =>
    intro j s₀ s hj C hit hl
    have hnone : vs.toArray[j]? = none := by
      have : vs[j]? = none := List.getElem?_eq_none_iff.mpr (by omega)
      simpa using this
    rw [den_yf]
    unfold Builtin.«proto.yield_from»
    try dsimp only
    refine seg_bind (wpAny_pure ?_)
    try dsimp only
    refine seg_bind (wpAny_attempt (wpAny_holding ?_))
    rw [if_neg Bool.false_ne_true, if_pos (show (Value.none == Value.none) = true from rfl)]
    refine wpAny_bind (wpAny_rule (wpAny_bind ?_))
    refine lst_end ho hit hl hnone fun e h' hS hk => ?_
    obtain ⟨a, o, us, rfl, hoa, hcls, hdat, h5⟩ := hS
    try dsimp only
    refine seg_bind (wpAny_endsTurn hoa hcls ?_)
    try dsimp only
    rw [if_pos rfl]
    first
      | refine seg_bind (wpAny_rule ?_)
      | (rw [if_neg Bool.false_ne_true]; refine seg_bind (wpAny_rule ?_))
      | (rw [if_neg Bool.false_ne_true]; refine seg_bind (wpAny_pure ?_); refine seg_bind (wpAny_rule ?_))
    refine seg_bind (wpAny_field hoa hdat h5 ?_)
    exact hend s₀ _ ⟨C.lo, C.nb, C.os, C.bare, C.gens, fun b o hb e => hk b o hb (C.keep b o hb e)⟩
  | succ r ih =>
    intro j s₀ s hj C hit hl
    have hjl : j < vs.length := by omega
    have hx : vs[j]? = some vs[j] := List.getElem?_eq_getElem hjl
    generalize vs[j] = x at hx
    rw [den_yf]
    unfold Builtin.«proto.yield_from»
    try dsimp only
    refine seg_bind (wpAny_pure ?_)
    try dsimp only
    refine seg_bind (wpAny_attempt (wpAny_holding ?_))
    rw [if_neg Bool.false_ne_true, if_pos (show (Value.none == Value.none) = true from rfl)]
    refine wpAny_bind (wpAny_rule (wpAny_bind ?_))
    refine lst_item hit hl (x := x) (by simpa using hx) fun h' hit' hs => ?_
    have C' : ChgI lo B it s₀ { s with heap := h' } := ⟨C.lo, C.nb, C.os, C.bare, C.gens, fun b o hb e => hs.extBut b o hb (C.keep b o hb e)⟩
    have hl' : h'.IsList L vs.toArray := hl.extBut hs.extBut hLi
    obtain ⟨oi, hoi, hoc, hod⟩ := id hit'
    refine wpAny_pure ?_
    try dsimp only
    refine seg_bind (wpAny_typeOf (T := "list_iterator") ⟨oi, hoi, hoc⟩ ?_)
    try dsimp only
    first
      | (refine seg_bind (wpAny_of_eq close_lst ?_); refine seg_bind (wpAny_pure ?_))
      | refine seg_bind (wpAny_bind (wpAny_of_eq close_lst (wpAny_pure ?_)))
      | refine seg_bind (wpAny_of_eq close_lst ?_)
    try dsimp only
    refine seg_bind (wpAny_sleptOver hoi hoc (by decide) ?_)
    refine seg_yield hsp rfl hgd ?_
    refine ⟨by rw [show vs.length - 1 - r = j by omega]; exact hx, ⟨it, C'⟩, fun s2 k => ?_⟩
    have hit2 : s2.heap.IsListIter it L (j + 1) := hit'.at fun o e => k.keep it o C.nb e
    have hl2 : s2.heap.IsList L vs.toArray := hl'.at fun o e => k.keep L o hLB e
    obtain ⟨oj, hoj, hojc, _⟩ := id hit2
    show Seg _ _ _ _ r s2 _ (Builtin.Generator.sleptOver (.ref it) false >>= fun _ => _) fs s2
    refine seg_bind (wpAny_sleptOver hoj hojc (by decide) ?_)
    try dsimp only
    refine seg_bind (wpAny_pure ?_)
    exact seg_again (plainId_quiet plain_yf _) (ih (j + 1) s2 s2 (by omega) ⟨C.lo, C.nb, rfl, k.bare, rfl, fun _ _ _ e => e⟩ hit2 hl2)
end BgT
set_option Elab.async false
set_option linter.all false
set_option maxRecDepth 100000
set_option maxHeartbeats 4000000
namespace BgT
open PySem PySem.Spec PyProof.Rows L2 GenW
abbrev RE (lo : Addr) (B : List Addr) : GenEnd := fun n s₀ r s₁ => r = .ok (.ret .none) ∧ FE lo B n s₀ s₁
/-- a def whose body is: yield from a list -/
theorem seg_yfBody {X : Cx} {A : Around} {e : Expr} {yp pos : Pos} {t : L2.St → Hp → V → Prop} (he : Calm X e t) (hA : A.deeper X.env = X.A) (hc : X.A.handled = none) {pins : List (Addr × Obj)} {σ : L2.St} {H : Hp} {s : Shared} (I : Inv X pins σ H s) {L : Addr} {vs : List Value} {B : List Addr} {lo : Addr}
    (hL : t σ H (.ref L)) (hl : s.heap.IsList L vs.toArray) (hlo : lo ≤ s.heap.objs.size) (hB : ∀ b ∈ B, b < s.heap.objs.size) (hLB : L ∉ B) (hi : interactive X.env = false := by rfl) :
    Seg (model X.prog X.w) A (RE lo B) (YE lo B vs) vs.length s (.func [.Expr (.YieldFrom e yp) pos] X.env) ((model X.prog X.w).den (.func [.Expr (.YieldFrom e yp) pos] X.env)) [] s := by
  refine seg_func ?_
  refine seg_execs_cons ?_
  rw [exec_Expr X.env _ pos hi rfl]
  refine seg_at (p' := pos) (k := fun _ => ((eval e X.env >>= fun v => (standAt yp >>= fun _ => yieldFrom X.env v)) >>= fun x => dropValue (.YieldFrom e yp) pos x).wrap _ _ id id) ?_
  refine segw_bind2 ?_
  rw [over_func, hA]
  refine he pins s σ H _ _ _ I hL fun v tk rv => ?_
  obtain rfl : v = Value.ref L := rv
  have hl1 : Heap.IsList ({ s with toks := tk } : Shared).heap L vs.toArray := hl
  obtain ⟨ol, hol, hoc, _⟩ := id hl1
  refine seg_at ?_
  show Seg _ _ _ _ _ _ _ ((yieldFrom X.env (.ref L)).wrap (fun b => (dropValue (.YieldFrom e yp) pos b).wrap _ _ id id) _ id id) _ _
  unfold yieldFrom
  refine seg_bind_wrap (wpAny_typeOf (T := "list") ⟨ol, hol, hoc⟩ ?_)
  rw [if_neg (show ¬ ((Value.type "list" == Value.type "coroutine") = true) from by decide)]
  refine seg_bind_wrap (wpAny_holding ?_)
  refine wpAny_pyIter_list hl1 ?_
  refine seg_call fun p => ?_
  have hLi : L ≠ s.heap.objs.size := Nat.ne_of_lt (Heap.lt_size hol)
  refine seg_yfl (X := X) (it := s.heap.objs.size) (lo := lo) (B := B) (vs := vs) hLB hLi ?_ rfl rfl (fun s₀ s' C => ?_) vs.length 0 s _ (by omega)
    ⟨hlo, fun hb => absurd (hB _ hb) (Nat.lt_irrefl _), rfl, I.bare, rfl, fun b o _ eb => Heap.get?_push_of_some _ eb⟩ ⟨_, Heap.get?_push_size _ rfl, rfl, rfl⟩ (Heap.IsList.push hl1 _)
  · show (A.over (.func [.Expr (.YieldFrom e yp) pos] X.env) []).handled = none
    rw [over_func, hA]; exact hc
  · refine seg_leaf (.ok (.ret .none)) ?_
    exact seg_end (.ok (.ret .none)) ⟨rfl, rfl, s.heap.objs.size, C⟩
/-- ready: i of vs are out -/
structure EvR (P : Program) (w : World) (A : Around) (a : Addr) (g : Nat) (lo : Addr) (B : List Addr) (vs : List Value) (i : Nat) (s : Shared) : Prop where
  gen : GenAt s.heap a g
  st : ∃ gs, s.gens[g]? = some gs ∧ gs.Goes (model P w) A.in1 (RE lo B) (YE lo B vs) (vs.length - i) (.send .none) (s.setGen g .running)
/-- what a turn changes -/
structure ChgE (lo : Addr) (B : List Addr) (it : Addr) (s₀ s : Shared) : Prop where
  lo : lo ≤ it
  nb : it ∉ B
  os : s.os = s₀.os
  bare : AllBare s.gens
  keep : ∀ b o, b ≠ it → s₀.heap.get? b = some o → s.heap.get? b = some o
theorem ev_step {P : Program} {w : World} {A : Around} {a : Addr} {g : Nat} {lo : Addr} {B : List Addr} {vs : List Value} {i : Nat} {s : Shared} {E : Value → Shared → Prop} {Q : Option Value → Shared → Prop} (hh : A.handled = none) (hroom : A.depth < recursionLimit) (hl : s.heap.NoLimit) (ha : a ∉ B) (hlo : a < lo) (hle : i ≤ vs.length)
    (hR : EvR P w A a g lo B vs i s)
    (h1 : ∀ v s' it, vs[i]? = some v → ChgE lo B it s s' → (∀ s2, KeepB B s' s2 → s2.gens = s'.gens → EvR P w A a g lo B vs (i + 1) s2) → Q (some v) s')
    (h2 : ∀ s' it, i = vs.length → ChgE lo B it s s' → Q none s') : wpAny (model P w) A (pyNext (.ref a)) Q E s := by
  obtain ⟨hg, gs, hgs, hgo⟩ := hR
  have hgl : g < s.gens.size := (Array.getElem?_eq_some_iff.mp hgs).1
  unfold pyNext
  refine wpAny_bind (wpAny_attempt (wake_gen hh hl hroom hg hgs hgo (fun v s₁ gs' hb hv => ?_) (fun s₁ hF e h' hS hk => ?_)))
  · obtain ⟨hv1, ⟨it, C⟩, hk⟩ := hv
    have hai : a ≠ it := Nat.ne_of_lt (Nat.lt_of_lt_of_le hlo C.lo)
    cases hn : vs.length - i with
    | zero =>
      rw [hn] at hk
      exact (hk s₁ ⟨rfl, C.bare, fun _ _ _ e => e⟩).elim
    | succ m =>
      rw [hn] at hk hv1
      have hi : vs.length - 1 - (m + 1 - 1) = i := by omega
      rw [hi] at hv1
      refine wpAny_pure (h1 v _ it hv1 ⟨C.lo, C.nb, C.os, allBare_setGen C.bare hb, C.keep⟩ fun s2 k hg2 => ⟨?_, gs', ?_, ?_⟩)
      · exact hg.at fun o e => k.keep a o ha (C.keep a o hai e)
      · rw [hg2]
        refine setGen_at ?_
        have e : s₁.gens.size = s.gens.size := by rw [C.gens, setGen_size]
        rw [e]; exact hgl
      · rw [show vs.length - (i + 1) = m by omega]
        exact hk (s2.setGen g .running) ⟨k.os, allBare_setGen k.bare rfl, k.keep⟩
  · obtain ⟨h0, it, C⟩ := hF
    obtain ⟨x, o, us, rfl, hox, hcls, _⟩ := hS
    refine wpAny_bind (wpAny_isInstance (T := "StopIteration") (b := true) ⟨o, hox, hcls⟩ isSubtype_stop ?_)
    refine wpAny_pure (h2 _ it (by omega) ⟨C.lo, C.nb, C.os, allBare_setGen C.bare rfl, fun b o hb e => hk b o (C.keep b o hb e)⟩)
end BgT
set_option Elab.async false
set_option linter.all false
set_option maxRecDepth 100000
set_option maxHeartbeats 4000000
namespace BgT
open PySem PySem.Spec PyProof.Rows L2 GenW
/-- a generator that has not begun; its frame's context holds -/
def GMk (P : Program) (w : World) (K : PySem.W.Frag) (mg : Str → Option Value) (base : Heap) (N : List Str) (qual : Str) (scope : Scope) (body : List Stmt) (f : Addr) (outer : List Env) (H : Hp) (s : Shared) (vs : List V) (u : Value) (s' : Shared) : Prop :=
  ∃ (a g : Nat) (cdv : Value), u = .ref a ∧ s.heap.objs.size < a ∧ s'.heap.objs.size = a + 1 ∧ s'.heap.IsGen a g ∧ g = s.gens.size ∧ s'.gens = s.gens.push (.fresh (.func body (envOfC qual scope s.heap.objs.size f cdv))) ∧ s'.os = s.os ∧ AllBare s'.gens ∧
    (∀ b o, s.heap.get? b = some o → s'.heap.get? b = some o) ∧
    ∀ (A : Around), A.handled = none → A.frames = some outer → Inv (gcxOf P w K mg base N qual scope f cdv A outer s H (fun _ _ _ => False) []) [] (start N vs) H s'
theorem gmk_of {P : Program} {w : World} {K : PySem.W.Frag} {mg : Str → Option Value} {base : Heap} {x qual : Str} {params : Arguments} {body : List Stmt} {scope : Scope} {dvs : List V} {kws : List (Str × V)} {f : Addr} {fd : FuncData} {N ps : List Str} (F : FunD K x qual params body scope dvs kws f fd) (S : GScope N ps scope)
    {A : Around} {outer : List Env} {s : Shared} {H : Hp} {args : Args} {us : List Value} {vs : List V} (hroom : A.depth < recursionLimit) (e0 : Env0 P w K mg base A outer s H) (hb : BindsTo s fd args (ps.zip us)) (r : Vals vs us) (hl : vs.length = ps.length) :
    codeAny (model P w) A (.call (.ref f) args) (fun r s' => match r with | .ok (.ret u) => GMk P w K mg base N qual scope body f outer H s vs u s' | _ => False) s := by
  obtain ⟨oc, od, dV, kV, doc, pm, an, cdv, ct, osl, rfl, lk, hcd, _, _⟩ := F.ex
  have KX : K.In s.heap := e0.mod.kin.keeps fun b o e => (e0.bs b o e).1
  have lim : s.heap.NoLimit := e0.mod.nolimit.keeps fun b o e => (e0.bs b o e).1
  have hkind : ∀ y ∈ ps.zip us, scope.names.lookup y.1 = some .local ∨ (scope.names.lookup y.1 = some .cell ∧ ((cellsFrom (s.heap.objs.size + 1) scope.names []).lookup y.1).isSome = true) := by
    rintro ⟨n, v⟩ hy
    rcases S.par n (List.of_mem_zip hy).1 with q | q
    · exact .inl q
    · exact .inr ⟨q, PySem.W.cellsFrom_some _ _ _ (.inl q)⟩
  refine codeAny_call_generator hroom (KX _ _ lk) rfl S.co S.gen rfl (PySem.W.codeRec_of KX hcd) (hb _ _ _ _ (wpAny_newFunctionEnv_cells S.kind hkind fun env he s1 y => ?_))
  subst he
  obtain ⟨h1, tk, es1, hk1⟩ := y.done
  have kp1 : ∀ b o, s.heap.get? b = some o → s1.heap.get? b = some o := y.toInCall.keep
  have os1 : s1.os = s.os := by rw [es1]
  have gen1 : s1.gens = s.gens := by rw [es1]
  refine ⟨lim.keeps kp1, ?_⟩
  have bare2 : AllBare (s1.gens.push (.fresh (.func body (envOfC qual scope s.heap.objs.size f cdv)))) := AllBare.push (by rw [gen1]; exact e0.bare) rfl
  refine ⟨s1.heap.objs.size, s1.gens.size, cdv, rfl, y.toInCall.ns.lt, Heap.size_push .., ⟨_, _, _, Heap.get?_push_size _ rfl, rfl, rfl, rfl⟩, by rw [gen1], by rw [← gen1]; rfl, os1, bare2, fun b o e => Heap.get?_push_of_some _ (kp1 b o e), fun A' hh hfr => ?_⟩
  have e0w : Env0 P w K mg base A' outer s H := ⟨hfr, e0.mod, e0.bs, e0.bsz, e0.funs, e0.frf, e0.hok, e0.bare⟩
  have I1 : Inv (gcxOf P w K mg base N qual scope f cdv A' outer s H (fun _ _ _ => False) []) [] (start N vs) H s1 := inv_startG S hh e0w hl r y
  have kp2 : ∀ (go : Obj) b o, s1.heap.get? b = some o → (s1.heap.push go).get? b = some o := fun go b o e => Heap.get?_push_of_some _ e
  exact I1.call' (ch := []) rfl (Un.kept (kp2 _)) (I1.hok.kept (kp2 _)) bare2 fun b z => by simp at z
/-- o.m() of such a method -/
theorem gmk_meth {X : Cx} {f C : Addr} {x m qual : Str} {params : Arguments} {body : List Stmt} {scope : Scope} {N : List Str} {y : Str} {apos pos' : Pos} {o : Expr} {pl : Sem Bool} {t : L2.St → Hp → V → Prop} (ho : Calm X o t) (c : Cls X.K C) (hm : Meth X.K C m f) (F : FunD X.K x qual params body scope [] [] f (fdOf X.K f)) (S : GScope N [y] scope)
    (hb : Binds X.K (fdOf X.K f) [y] []) (hroom : X.A.depth < recursionLimit)
    (ht : eval (.Call (.Attribute o m apos) [] [] pos') X.env = (do
      let ov ← eval o X.env
      standAt apos.atName
      let (f, first) ← holding [ov] (getMethod ov m pl)
      callWith pos' f first (backTo pos' (starEach [] X.env)) (backToKw pos' (keywordEach [] X.env))))
    {pins : List (Addr × Obj)} {s : Shared} {σ : L2.St} {H : Hp} {E : Value → Shared → Prop} {a dx : Addr} {fs : List (Str × V)} (I : Inv X pins σ H s) (h1 : t σ H (.ref a)) (h2 : H a = some (.ins C dx fs)) (h3 : fs.lookup m = none) :
    wpAny (model X.prog X.w) X.A (eval (.Call (.Attribute o m apos) [] [] pos') X.env) (fun u s' => ∃ tk, GMk X.prog X.w X.K X.mg X.base N qual scope body f X.stack H { s with toks := tk } [.ref a] u s') E s := by
  refine PySem.W.methodCall_KW (pl := pl) (ho pins s σ H _ _ _ I h1 fun u tk ru => ?_) ht
  obtain rfl : u = Value.ref a := ru
  have I1 : Inv X pins σ H { s with toks := tk } := I.tok _
  refine getmeth_ok I1 h2 c hm h3 ?_
  refine PySem.W.callWith_K0 (first := [.ref a]) I1.kIn hm.kp ?_
  refine wpAny_call (codeAny_mono (gmk_of F S (us := [.ref a]) (vs := [.ref a]) hroom I1.env0 (hb _ [.ref a] I1.kIn rfl) (.cons rfl .nil) rfl) fun r s' hq => ?_)
  cases r with
  | error e => exact False.elim hq
  | ok fl =>
    cases fl with
    | ret u => exact ⟨tk, hq⟩
    | next => exact False.elim hq
    | brk => exact False.elim hq
    | cont => exact False.elim hq
end BgT
set_option Elab.async false
set_option linter.all false
set_option maxRecDepth 100000
set_option maxHeartbeats 4000000
namespace BgT
open PySem PySem.Spec PyProof.Rows L2 GenW
/-- a local name's store: the state as it is left -/
theorem store_raw {X : Cx} {M : Model} {A : Around} {E : Value → Shared → Prop} {pins : List (Addr × Obj)} {σ : L2.St} {H : Hp} {s : Shared} {i : Nat} {x : Str} {p : Pos} {v : V} {u : Value} {Q : Unit → Shared → Prop} (I : Inv X pins σ H s) (hN : X.N.Nodup) (hi : X.N[i]? = some x) (hk : X.env.kindOf x = some .local) (r : RelV v u)
    (h : ∀ h', Inv X pins (σ.set i (some v)) H { s with heap := h', toks := s.toks + 1 } → Heap.SameBut X.env.locals s.heap h' → Q () { s with heap := h', toks := s.toks + 1 }) : wpAny M A (assign (.Name x p) X.env u) Q E s := by
  obtain ⟨m, hn, hl⟩ := id I.loc
  have hiσ : i < σ.length := by rw [I.len]; exact (List.getElem?_eq_some_iff.mp hi).1
  have cne := I.cne
  obtain ⟨oL, _, _, hoL, _⟩ := id hn
  refine wpAny_assign_Name (wpAny_storeName_local hk hn (fun h' hn' hs => h h' ?_ hs) (by rw [I.ok.kind]; rfl))
  have old : ∀ {b : Addr} {o : Obj}, X.s_0.heap.get? b = some o → h'.get? b = s.heap.get? b := fun {b o} e => hs.2 b (Nat.ne_of_lt (Nat.lt_of_lt_of_le (Heap.lt_size e) I.ok.above))
  refine ⟨I.ok, I.os, I.bare, ⟨fun b o e n hb hx => (old e).trans (I.base.keep b o e n hb hx), fun b o e n hb hx => ?_, I.base.free, fun b o e hx => ?_, I.base.tups, I.base.frzs, I.base.tbls⟩, ⟨_, hn', fun j y v' e1 e2 e3 => ?_⟩, fun y c e => ?_, I.free, I.freeC, fun q hq => ?_, fun b ob e => ?_, by simpa using I.len⟩
  · obtain ⟨sl, e1⟩ := I.base.slot b o e n hb hx
    exact ⟨sl, (old e).trans e1⟩
  · obtain ⟨o', e1⟩ := I.base.there b o e hx
    exact ⟨o', (old e).trans e1⟩
  · rcases Nat.decEq j i with hj | hj
    · rw [List.getElem?_set_ne (Ne.symm hj)] at e2
      obtain ⟨u', r', q⟩ := hl j y v' e1 e2 e3
      have nyx : y ≠ x := fun e => hj (nodup_ix hN e1 (e ▸ hi))
      exact ⟨u', r', q.elim (fun ⟨k, e⟩ => .inl ⟨k, by simp [nyx, e]⟩) fun ⟨k, c, e, z⟩ => .inr ⟨k, c, e, z.sameBut hs (cne y c e)⟩⟩
    · subst hj
      rw [hi] at e1; cases e1
      rw [List.getElem?_set_self hiσ] at e2
      cases e2
      exact ⟨u, r, .inl ⟨hk, by simp⟩⟩
  · obtain ⟨w', z⟩ := I.cell y c e
    exact ⟨w', z.sameBut hs (cne y c e)⟩
  · obtain ⟨e, n, ne, nf, d⟩ := I.pin q hq
    exact ⟨(hs.2 q.1 ne).trans e, n, ne, nf, d⟩
  · refine (I.hok b ob e).stay (fun c w' hc q => (hs.2 c ?_).trans q) (fun _ q => q) fun _ _ q => q
    rintro rfl
    rcases hc with rfl | hc
    · rw [I.free] at e; cases e
    · rw [I.free] at hc; cases hc
/-- a new tracked object -/
theorem un_new {fs ex : List Addr} {H : Hp} {D : Addr} {ob : HO} {h h' : Heap} (k : ∀ b o, h.get? b = some o → h'.get? b = some o) (hD : H D = none) (hs : h.objs.size ≤ D) : Un fs ex H (upd H D ob) h h' where
  keep := fun b o e _ _ _ => k b o e
  slot := fun b o e _ _ _ => ⟨o.slots, k b o e⟩
  free := fun b o e n _ => by rw [upd_ne (Nat.ne_of_lt (Nat.lt_of_lt_of_le (Heap.lt_size e) hs))]; exact n
  there := fun b o e _ => ⟨o, k b o e⟩
  tups := fun b xs e => by rw [upd_ne (ne_of_none e hD)]; exact e
  frzs := fun b o u e => by rw [upd_ne (ne_of_none e hD)]; exact e
  tbls := fun b ps e => ⟨#[], by rw [upd_ne (ne_of_none e hD), e]; simp⟩
/-- its own iterator has turned -/
theorem un_it {fs : List Addr} {H : Hp} {it : Addr} {h h' : Heap} (k : ∀ b o, b ≠ it → h.get? b = some o → h'.get? b = some o) : Un fs [it] H H h h' where
  keep := fun b o e _ _ hx => k b o (fun z => hx (by simp [z])) e
  slot := fun b o e _ _ hx => ⟨o.slots, k b o (fun z => hx (by simp [z])) e⟩
  free := fun b o e n _ => n
  there := fun b o e hx => ⟨o, k b o (fun z => hx (by simp [z])) e⟩
  tups := fun b xs e => e
  frzs := fun b o u e => e
  tbls := fun b ps e => ⟨#[], by rw [e]; simp⟩
end BgT
set_option Elab.async false
set_option linter.all false
set_option maxRecDepth 100000
set_option maxHeartbeats 4000000
namespace BgT
open PySem PySem.Spec PyProof.Rows L2 GenW
theorem calls_snoc (xs : List (Bool × Nat)) (x : Bool × Nat) : Bg.calls (xs ++ [x]) = Bg.calls xs ++ (if x.1 = true then [x.2] else []) := by
  rw [Bg.calls_append]
  cases x with
  | mk b n => cases b <;> simp [Bg.calls]
theorem calls_len (xs : List (Bool × Nat)) : (Bg.calls xs).length ≤ xs.length := by
  unfold Bg.calls
  rw [List.length_map]
  exact List.length_filter_le _ _
/-- [ev[1] for ev in o.events() if ev[0] == "call"] -/
def tEv (K : PySem.W.Frag) (t : L2.St → Hp → V → Prop) (C : Addr) : TE := fun σ H Q => ∃ (mm dx L : Addr) (fs : List (Str × V)) (es : List V) (xs : List (Bool × Nat)), t σ H (.ref mm) ∧ H mm = some (.ins C dx fs) ∧ fs.lookup ("events" : Str) = none ∧ fs.lookup ("latest" : Str) = some (V.ref L) ∧ H L = some (.lst es) ∧ EvsAt H es xs ∧
  ∀ D, H D = none → Q (.ref D) (upd H D (.lst ((Bg.calls xs).map vn)))
theorem pe_lcEv {X : Cx} {o : Expr} {t : L2.St → Hp → V → Prop} {C f : Addr} {fx qual y ev : Str} {params : Arguments} {bsc scope : Scope} {N0 : List Str} {j : Nat} {a1 a2 a3 a4 a5 a6 a7 a8 a9 apos cpos pos yp ep q1 q2 : Pos} {k1 k2 k3} {pl : Sem Bool}
    (hc : X.A.handled = none) (hcalm : X.calm = true) (hN : X.N.Nodup) (ho : Calm X o t) (c : Cls X.K C) (hm : Meth X.K C "events" f) (hna : NoAttr X.K C "latest") (F : FunD X.K fx qual params [.Expr (.YieldFrom (.Attribute (.Name y q1) "latest" q2) yp) ep] bsc [] [] f (fdOf X.K f)) (S : GScope N0 [y] bsc) (hN0 : N0[0]? = some y)
    (hys : bsc.names.lookup y = some .local) (hyd : (y == ("__debug__" : Str)) = false) (hyc : (y == ("__classdict__" : Str)) = false)
    (hint : ∀ n cdv, interactive (envOfC qual bsc n f cdv) = false) (hb : Binds X.K (fdOf X.K f) [y] []) (hroom : Room 4 X.A) (hev : X.N[j]? = some ev) (hevd : (ev == ("__debug__" : Str)) = false) (hevc : (ev == ("__classdict__" : Str)) = false) (ok : BlkOk X.N X.env.scope scope [(ev, j)]) (hevl : (relS scope X.env.scope).names.lookup ev = some .local)
    (ht : eval (.Call (.Attribute o "events" apos) [] [] cpos) X.env = (do
      let ov ← eval o X.env
      standAt apos.atName
      let (f, first) ← holding [ov] (getMethod ov "events" pl)
      callWith cpos f first (backTo cpos (starEach [] X.env)) (backToKw cpos (keywordEach [] X.env)))) :
    PE X (.ListComp (.Subscript (.Name ev a1) (.Constant (.int 1) k1 a2) a3) [⟨.Name ev a4, .Call (.Attribute o "events" apos) [] [] cpos, [.Compare (.Subscript (.Name ev a5) (.Constant (.int 0) k2 a6) a7) [.Eq] [.Constant (.str "call") k3 a8] a9], 0⟩] scope pos) (tEv X.K t C) := by
  refine ⟨fun pins s σ H Q I h => ?_⟩
  obtain ⟨mm, dx, L, fs, es, xs, h1, h2, h3, h4, hL, hxs, q⟩ := h
  have hfree : ∀ z ∈ scope.names, z.2 = .free → ∃ c, X.env.cells.lookup z.1 = some c := fun z hz e => by
    rcases ok.free z hz e with k | k
    · exact I.ok.has _ (.inl k)
    · exact I.ok.has _ (.inr k)
  rw [eval_ListComp]
  refine wpAny_comprehension_free rfl (fun _ => rfl) (closure_ok hfree) ok.kind (fun z hz e => by rw [ok.uniq z hz, e]) (thn (gmk_meth ho c hm F S hb hroom.depth ht I h1 h2 h3) fun u s1 hG => ?_)
  obtain ⟨tk0, a, g, cdv, rfl, ha1, ha2, hgen, hg, hgens, hos, hbare, hkp, hInv⟩ := hG
  refine wpAny_pyIter_gen hgen ?_
  have I1 : Inv X pins σ H s1 := (I.tok (t := tk0)).call' (ch := []) hos (Un.kept hkp) (I.hok.kept hkp) hbare (fun b z => by simp at z)
  refine wpAny_newObj_type (newEnv_comp ?_) (by show 0 ≤ sizeLine; decide)
  generalize hD : s1.heap.objs.size = D
  have hDn : H D = none := I1.hok.fresh (Nat.le_of_eq hD)
  generalize hs3 : ({ s1 with heap := s1.heap.push { cls := .type "list", data := .seq ([] : List Value).toArray } } : Shared) = s3
  have I3 : Inv X pins σ (upd H D (.lst [])) s3 := by
    rw [← hs3]
    refine I1.laid (t' := s1.toks) (fun b o e => Heap.get?_push_of_some _ e) (Nat.le_of_eq hD) ⟨Nat.zero_le _, [], 0, .nil, ?_⟩
    rw [← hD]
    exact Heap.get?_push_size _ rfl
  have h3z : s3.heap.objs.size = D + 1 := by rw [← hs3, ← hD]; exact Heap.size_push ..
  have kq3 : ∀ b o, s1.heap.get? b = some o → s3.heap.get? b = some o := fun b o e => by rw [← hs3]; exact Heap.get?_push_of_some _ e
  have os3 : s3.os = s1.os := by rw [← hs3]
  have gens3 : s3.gens = s1.gens := by rw [← hs3]
  have I4 := block_start (fp := []) I3 ok hN (fun b hb => by simp at hb)
  show codeAny _ _ (.compStart _ 0 (.ref a) (.ref D) (compEnvC scope (cellsFrom (s3.heap.objs.size + 1) scope.names (cloFrom X.env.cells scope.names [])) s3.heap.objs.size X.env)) (compPost (model X.prog X.w) X.A X.xe none _ (.ref D) s3.heap.objs.size) { s3 with heap := pushCells (s3.heap.push { cls := .type "dict", data := .dict #[] }) scope.names }
  have hevk : Env.kindOf (compEnvC scope (cellsFrom (s3.heap.objs.size + 1) scope.names (cloFrom X.env.cells scope.names [])) s3.heap.objs.size X.env) ev = some .local := hevl
  generalize hce : compEnvC scope (cellsFrom (s3.heap.objs.size + 1) scope.names (cloFrom X.env.cells scope.names [])) s3.heap.objs.size X.env = ce at I4 hevk ⊢
  have cL : ce.locals = s3.heap.objs.size := by subst hce; rfl
  generalize hH3 : upd H D (.lst []) = H3 at I3 I4
  have k4 : ∀ b o, s3.heap.get? b = some o → (pushCells (s3.heap.push { cls := .type "dict", data := .dict #[] }) scope.names).get? b = some o := fun b o e => pushCells_keeps _ _ _ _ (Heap.get?_push_of_some _ e)
  have z4 : s3.heap.objs.size + 1 ≤ (pushCells (s3.heap.push { cls := .type "dict", data := .dict #[] }) scope.names).objs.size := by
    have := pushCells_size scope.names (s3.heap.push { cls := .type "dict", data := .dict #[] })
    rw [Heap.size_push] at this
    exact this
  generalize hs4 : ({ s3 with heap := pushCells (s3.heap.push { cls := .type "dict", data := .dict #[] }) scope.names } : Shared) = s4 at I4 ⊢
  have k4' : ∀ b o, s1.heap.get? b = some o → s4.heap.get? b = some o := fun b o e => by rw [← hs4]; exact k4 b o (kq3 b o e)
  have os4 : s4.os = s1.os := by rw [← hs4]; exact os3
  have gens4 : s4.gens = s1.gens := by rw [← hs4]; exact gens3
  have z4' : s3.heap.objs.size + 1 ≤ s4.heap.objs.size := by rw [← hs4]; exact z4
  -- the list of events
  have hH3D : H3 D = some (.lst []) := by rw [← hH3]; exact upd_same
  have up3 : ∀ {b u}, H b = some u → H3 b = some u := fun {b u} e => by rw [← hH3, upd_ne (ne_of_none e hDn)]; exact e
  have hL3 := up3 hL
  obtain ⟨hLz, us, nl, ru, hLo⟩ := I4.hok L _ hL3
  have hul := ru.length
  have hLD : L ≠ D := ne_of_none hL hDn
  have hLlt : L < s3.heap.objs.size := by
    obtain ⟨_, us', nl', _, hLo'⟩ := I3.hok L _ hL3
    exact Heap.lt_size hLo'
  have hLl : s4.heap.IsList L us.toArray := ⟨_, hLo, rfl, nl, rfl⟩
  generalize hB : [D, s3.heap.objs.size] = B
  generalize hlo : s4.heap.objs.size = lo
  have hLB : L ∉ B := by rw [← hB]; simp only [List.mem_cons, List.not_mem_nil, or_false, not_or]; exact ⟨hLD, Nat.ne_of_lt hLlt⟩
  have hBlt : ∀ b ∈ B, b < lo := by
    rw [← hB, ← hlo]
    intro b hb
    simp only [List.mem_cons, List.not_mem_nil, or_false] at hb
    rcases hb with rfl | rfl <;> omega
  have haD : a < D := by omega
  have haB : a ∉ B := by rw [← hB]; simp only [List.mem_cons, List.not_mem_nil, or_false, not_or]; constructor <;> omega
  have halo : a < lo := by omega
  have hgat : GenAt s4.heap a g := GenAt.of (hgen.keeps k4')
  have hgs : s4.gens[g]? = some (.fresh (.func [.Expr (.YieldFrom (.Attribute (.Name y q1) "latest" q2) yp) ep] (envOfC qual bsc s.heap.objs.size f cdv))) := by
    rw [gens4, hgens, hg]; exact Array.getElem?_push_size ..
  have R0 : EvR X.prog X.w X.A a g lo B us 0 s4 := by
    refine ⟨hgat, _, hgs, rfl, ?_⟩
    have G1 := hInv X.A.in1 hc I.ok.frames
    have bare4 : AllBare (s4.setGen g .running).gens := allBare_setGen I4.bare rfl
    have G2 := G1.call' (H' := H3) (s' := s4.setGen g .running) (ch := []) os4 (by rw [← hH3]; exact un_new k4' hDn (Nat.le_of_eq hD)) I4.hok bare4 (fun b z => by simp at z)
    exact seg_yfBody (X := gcxOf X.prog X.w X.K X.mg X.base N0 qual bsc f cdv X.A.in1 X.stack { s with toks := tk0 } H (fun _ _ _ => False) []) (cm_fld (cm_var 0 hN0 (.inl hys) hyd hyc) (by rfl)) rfl hc G2 (L := L)
      ⟨mm, C, dx, fs, by unfold L2.start; rfl, up3 h2, c, hna, h4⟩ hLl (Nat.le_of_eq hlo.symm) (fun b hb => by have := hBlt b hb; rw [← hlo] at this; exact this) hLB (hint _ _)
  have post : ∀ (s6 : Shared) (it : Addr) (σ5 : L2.St), Inv (X.blk s3 H3 scope ce []) [] σ5 (upd H D (.lst ((Bg.calls xs).map vn))) s6 → compPost (model X.prog X.w) X.A X.xe none (EP X pins σ Q) (.ref D) s3.heap.objs.size (.ok .next) s6 := by
    intro s6 it σ5 I6
    have I7 : Inv X pins σ (upd H D (.lst ((Bg.calls xs).map vn))) s6 := I3.call' (ch := []) I6.os I6.base I6.hok I6.bare (fun b z => by simp at z)
    have nC : (upd H D (.lst ((Bg.calls xs).map vn))) s3.heap.objs.size = none := by
      have z : (upd H D (.lst ((Bg.calls xs).map vn))) ce.locals = none := I6.free
      rw [cL] at z
      exact z
    obtain ⟨m, hn, _⟩ := I6.loc
    have hn : s6.heap.Ns ce.locals m := hn
    rw [cL] at hn
    refine ⟨m, hn, fun h'' sb => ?_⟩
    obtain ⟨f0, f1, f2, f3, f4, f5⟩ := I3.fpOk (Nat.le_refl _) nC
    exact ⟨.ref D, _, I7.turned (t' := s6.toks) (fun b o hb e => (sb.2 b hb).trans e) nC f1 f3 f4 f5, rfl, q D hDn⟩
  have loop : codeAny (model X.prog X.w) X.A (.compLoop (.ListComp (.Subscript (.Name ev a1) (.Constant (.int 1) k1 a2) a3) [⟨.Name ev a4, .Call (.Attribute o "events" apos) [] [] cpos, [.Compare (.Subscript (.Name ev a5) (.Constant (.int 0) k2 a6) a7) [.Eq] [.Constant (.str "call") k3 a8] a9], 0⟩] scope pos) 0 (.ref a) (.ref D) ce) (compPost (model X.prog X.w) X.A X.xe none (EP X pins σ Q) (.ref D) s3.heap.objs.size) s4 := by
    refine compLoop_any (fun n s' => ∃ i σ', n = us.length - i ∧ i ≤ us.length ∧ Inv (X.blk s3 H3 scope ce []) [] σ' (upd H D (.lst ((Bg.calls (xs.take i)).map vn))) s' ∧ EvR X.prog X.w X.A a g lo B us i s') ?_ us.length ⟨0, _, rfl, Nat.zero_le _, (show upd H D (.lst ((Bg.calls (xs.take 0)).map vn)) = H3 from hH3).symm.rec (motive := fun Z _ => Inv (X.blk s3 H3 scope ce []) [] _ Z s4) I4, R0⟩
    rintro n s5 ⟨i, σ5, rfl, hi, I5, R5⟩
    have hxl : es.length = xs.length := hxs.1
    generalize hHi : upd H D (.lst ((Bg.calls (xs.take i)).map vn)) = Hi at I5
    have noit : ∀ {it : Addr}, lo ≤ it → it ∉ B → Hi it = none := fun {it} h1 h2 => by
      have hd : it ≠ D := fun z => h2 (by rw [← hB, z]; simp)
      rw [← hHi, upd_ne hd]
      exact I1.hok.fresh (by omega)
    have turned : ∀ {s6 : Shared} {it : Addr}, ChgE lo B it s5 s6 → Inv (X.blk s3 H3 scope ce []) [] σ5 Hi s6 := fun {s6 it} C6 => by
      have n := noit C6.lo C6.nb
      refine I5.call' (ch := [it]) C6.os (un_it C6.keep) (fun b ob e => ?_) C6.bare (fun b hb => ?_)
      · refine (I5.hok b ob e).stay (fun c w' hc q => C6.keep c _ ?_ q) (fun _ q => q) fun _ _ q => q
        rintro rfl
        rcases hc with rfl | hc
        · rw [n] at e; cases e
        · rw [n] at hc; cases hc
      · obtain rfl := List.mem_singleton.mp hb
        refine ⟨.inr (show s3.heap.objs.size ≤ b from Nat.le_trans (show s3.heap.objs.size ≤ lo by omega) C6.lo), fun z => C6.nb ?_, fun x c e z => ?_, fun p hp => absurd (show p ∈ ([] : List (Addr × Obj)) ++ [] from hp) (by simp)⟩
        · have z : b = ce.locals := z
          rw [z, cL, ← hB]; simp
        · obtain ⟨v, hv⟩ := I4.cell x c e
          have := hv.lt
          rw [z] at this
          exact Nat.lt_irrefl _ (Nat.lt_of_lt_of_le this (Nat.le_trans (Nat.le_of_eq hlo) C6.lo))
    refine ev_step hc hroom.depth I5.nolimit haB halo hi R5 (fun v s6 it hv C6 hk6 => ?_) (fun s6 it hie C6 => ?_)
    · have I6 := turned C6
      have hil : i < us.length := (List.getElem?_eq_some_iff.mp hv).1
      have hxi : xs[i]? = some xs[i] := List.getElem?_eq_getElem (by omega)
      obtain ⟨x0, hx0, hev0⟩ := hxs.2 i _ hxi
      generalize xs[i] = bx at hxi hev0
      obtain ⟨p, nm, rest, rfl, hp, hnm⟩ := hev0
      obtain ⟨u, hu, rv⟩ := ru.get hx0
      obtain rfl : u = v := by rw [hv] at hu; exact (Option.some.inj hu).symm
      have hpi : Hi p = some (.tup (.str nm :: vn bx.2 :: rest)) := by rw [← hHi, upd_ne (ne_of_none hp hDn)]; exact hp
      show wpAny _ _ (pure ()) _ _ _
      refine wpAny_pure (store_raw I6 hN hev hevk rv fun h8 I8 sb8 => ?_)
      have cmv := cm_var (X := X.blk s3 H3 scope ce []) (pos := a5) j hev (.inl hevk) hevd hevc
      have cmw := cm_var (X := X.blk s3 H3 scope ce []) (pos := a1) j hev (.inl hevk) hevd hevc
      have jl : (σ5.set j (some (V.ref p)))[j]? = some (some (V.ref p)) := List.getElem?_set_self (by rw [I5.len]; exact (List.getElem?_eq_some_iff.mp hev).1)
      refine wpAny_tests_one (cm_eqS (j := a8) (cm_ix (i := 0) (pos := a7) cmv cm_int (fun _ _ => rfl)) [] _ _ _ nm _ _ I8 ⟨p, _, jl, SqT.of hpi, rfl⟩ fun tk => ?_)
      rw [hnm]
      -- a turn's end
      have fin : ∀ (s' : Shared) (H' : Hp), H' = upd H D (.lst ((Bg.calls (xs.take (i + 1))).map vn)) → Inv (X.blk s3 H3 scope ce []) [] (σ5.set j (some (V.ref p))) H' s' → s'.os = s6.os → s'.gens = s6.gens → (∀ b o, b ∉ B → s6.heap.get? b = some o → s'.heap.get? b = some o) →
          ∃ m, m < us.length - i ∧ ∃ i' σ', m = us.length - i' ∧ i' ≤ us.length ∧ Inv (X.blk s3 H3 scope ce []) [] σ' (upd H D (.lst ((Bg.calls (xs.take i')).map vn))) s' ∧ EvR X.prog X.w X.A a g lo B us i' s' := fun s' H' e I' os' g' k' => by
        subst e
        exact ⟨us.length - (i + 1), by omega, i + 1, _, rfl, hil, I', hk6 s' ⟨os', by rw [g']; exact C6.bare, k'⟩ g'⟩
      have hCB : s3.heap.objs.size ∈ B := by rw [← hB]; simp
      have hDB : D ∈ B := by rw [← hB]; simp
      have sb8' : Heap.SameBut s3.heap.objs.size s6.heap h8 := by rw [← cL]; exact sb8
      have nx := calls_snoc (xs.take i) bx
      rw [← take_snoc hxi] at nx
      cases hb1 : bx.1 with
      | false =>
        rw [hb1, if_neg Bool.false_ne_true, List.append_nil] at nx
        rw [if_neg Bool.false_ne_true]
        exact fin _ Hi (by rw [nx, hHi]) (I8.tok _) rfl rfl fun b o hb e => (sb8'.2 b (fun z => hb (z ▸ hCB))).trans e
      | true =>
        rw [hb1, if_pos rfl] at nx
        rw [if_pos rfl]
        refine cm_ix (i := 1) (pos := a3) cmw cm_int (fun _ _ => rfl) [] _ _ _ (vn bx.2) _ _ (I8.tok (t := tk)) ⟨p, _, jl, SqT.of hpi, rfl⟩ fun v2 tk2 rv2 => ?_
        have I9 : Inv (X.blk s3 H3 scope ce []) [] (σ5.set j (some (V.ref p))) Hi { s6 with heap := h8, toks := tk2 } := I8.tok _
        have hDi : Hi D = some (.lst ((Bg.calls (xs.take i)).map vn)) := by rw [← hHi]; exact upd_same
        obtain ⟨hz', its, n, ri, eD⟩ := I9.hok D _ hDi
        have hl := ri.length
        have hcl := calls_len (xs.take i)
        rw [List.length_take] at hcl
        have hz1 : ((Bg.calls (xs.take i)).map vn).length < sizeLine := by rw [List.length_map]; omega
        refine append_at (hsz := by rw [List.size_toArray]; omega) eD fun h' sb ho' => ?_
        have I10 := I9.write (t' := tk2) (o := .lst ((Bg.calls (xs.take i)).map vn ++ [vn bx.2])) (by rw [hDi]; trivial) (.inl rfl) (fun b u hb q => (sb.2 b hb).trans q) ⟨_, ho'⟩ ⟨by rw [List.length_append]; exact hz1, its ++ [v2], n + 1, ri.append (.cons rv2 .nil), by rw [ho']; simp⟩
        refine fin _ _ ?_ I10 rfl rfl fun b o hb e => (sb.2 b (fun z => hb (z ▸ hDB))).trans ((sb8'.2 b (fun z => hb (z ▸ hCB))).trans e)
        rw [nx, ← hHi, upd_upd, List.map_append]
        rfl
    · have I6 := turned C6
      have e : xs.take i = xs := by rw [List.take_of_length_le (by omega)]
      rw [← hHi, e] at I6
      exact post s6 it σ5 I6
  exact codeAny_compStart_list loop (wpAny_pyIter_gen (s := s4) (hgen.keeps k4') loop)
end BgT
set_option Elab.async false
set_option linter.all false
set_option maxRecDepth 100000
set_option maxHeartbeats 4000000
namespace BgT
open PySem PySem.Spec PyProof.Rows L2
/-! ### a loop over a list or a tuple -/
def iLT (K : PySem.W.Frag) (tl : TE) : TI := fun σ H R => tl σ H fun x H1 => ∃ a, x = .ref a ∧ (((∃ xs, SqL K H1 a xs) ∧ R (Itl K a) H1) ∨ ((∃ xs, SqT K H1 a xs) ∧ R (Itt K a) H1))
theorem pi_lt {X : Cx} {tg l : Expr} {tl : TE} (hl : PE X l tl) : PI X tg l (iLT X.K tl) := by
  refine ⟨fun pins s σ H R I h => thn (hl.run pins s σ H _ I h) ?_⟩
  rintro v s1 ⟨x, H1, I1, r1, a, rfl, q1⟩
  cases r1
  have fr : ∀ b ∈ [s1.heap.objs.size], FpOk X pins H1 b := fun b hb => by
    obtain rfl := List.mem_singleton.mp hb
    exact I1.fpOk (Nat.le_refl _) (I1.hok.fresh (Nat.le_refl _))
  rcases q1 with ⟨⟨xs, hq⟩, q⟩ | ⟨⟨xs, hq⟩, q⟩
  · obtain ⟨_, _, p, _⟩ := I1.list hq
    exact wpAny_pyIter_list p.isList ⟨_, _, _, _, H1, rfl, I1.kept (t' := s1.toks) (fun b o e => Heap.get?_push_of_some _ e), turn_list a _, ⟨_, Heap.get?_push_size _ rfl, rfl, rfl⟩, fr, q⟩
  · obtain ⟨its, _, p, _⟩ := I1.tuple hq
    exact wpAny_pyIter_tuple (show s1.heap.IsTuple a its.toArray from p) ⟨_, _, _, _, H1, rfl, I1.kept (t' := s1.toks) (fun b o e => Heap.get?_push_of_some _ e), turn_tuple a _, ⟨_, Heap.get?_push_size _ rfl, rfl, rfl⟩, fr, q⟩
section
variable {P : Program} {w : World} {K : PySem.W.Frag} {mg : Str → Option Value} {base : Heap}
theorem sc_KeepAll_events : GScope ["self"] ["self"] (defScope s_KeepAll_events) := ⟨rfl, rfl, rfl, by decide +kernel, rfl, by decide +kernel, by decide +kernel⟩
theorem bd_KeepAll_events (T : Tx K mg) : Binds K (fdOf K (He.ma K (He.ga K "KeepAll") "events")) ["self"] [] := T.F_KeepAll_events.bindsN (fun _ _ _ _ _ _ us hl => match us, hl with | [_], _ => rfl)
/-! ### _law_played -/
theorem ask_some {S : Bg.Sys} {T : Bg.Tab} {c : Nat} : (Bg.ask S T c).2.2 ≠ [] := by
  cases h : T c with
  | some v => rw [Bg.ask_stored h]; simp
  | none =>
    obtain ⟨r, hr⟩ := Bg.ask_free (S := S) h
    intro e
    rw [e] at hr
    cases hr
theorem sc_law_played : FnScope ["_law_rows_here", "_law_lots", "_law_web_here", "_law_quests", "_law_memo", "_law_seen", "_law_spot", "_law_answer", "_law_event", "_law_part"] ["_law_rows_here", "_law_lots", "_law_web_here", "_law_quests"] (defScope s_law_played) := ⟨rfl, rfl, rfl, by decide +kernel, rfl, by decide +kernel, by decide +kernel⟩
theorem bd_law_played {K : PySem.W.Frag} {mg : Str → Option Value} (T : Tx K mg) : Binds K (fdOf K (He.ga K "_law_played")) ["_law_rows_here", "_law_lots", "_law_web_here", "_law_quests"] [] := T.F_law_played.bindsN (fun _ _ _ _ _ _ us hl => match us, hl with | [_, _, _, _], _ => rfl)
def sp_law_played (K : PySem.W.Frag) : Sp := fun vs H Q _ => ∃ (r : V) (la x qa : Addr) (us : List V) (rows : List Row) (qs : List Nat), vs = [r, .ref la, .ref x, .ref qa] ∧ SysAt K H x rows ∧ RowsOk rows ∧ H la = some (.lst us) ∧ CsAt H us (Bg.comps (sysOf rows)) ∧ (H qa = some (.lst (qs.map vn)) ∨ H qa = some (.tup (qs.map vn))) ∧ qs.length ≤ 100 ∧ (∀ c ∈ qs, c < rows.length) ∧
  ∀ H' p tb e, Same H H' → H p = none → H' p = some (.tup [.ref tb, .ref e]) → H' tb = some (.tup (boardV rows.length (Bg.hist (sysOf rows) Bg.noT qs).1)) → H' e = some (.tup ((Bg.ents (Bg.comps (sysOf rows)) (Bg.hist (sysOf rows) Bg.noT qs).2).map optN)) → Q (.ref p) H'
theorem ok_law_played (T : Tx K mg) : FO P w K mg base 64 (He.ga K "_law_played") ["_law_rows_here", "_law_lots", "_law_web_here", "_law_quests"] (sp_law_played K) := by
  refine T.F_law_played.ok sc_law_played (fun vs H Q E h => ?_) (fun cdv A outer s H vs Q E hr h => ?_)
  · obtain ⟨r, la, x, qa, us, rows, qs, rfl, _⟩ := h; rfl
  · obtain ⟨r, la, x, qa, us, rows, qs, rfl, hs, hok, hla, hcs, hqa, hql, hqc, q⟩ := h
    refine ⟨_, PSs.nox (pss_cons (ps_set (i := 4) sc_law_played.nd rfl (Or.inl rfl) (pe_make T.mk_KeepAll (ok_KeepAll_init T) (hr.mono (by decide)) rfl T.g_KeepAll (bd_KeepAll_init T) .nil pass0 (pa_cons (pv 2) pa_nil)))
 (pss_cons (ps_set (i := 5) sc_law_played.nd rfl (Or.inr rfl) (pe_lst pa_nil))
 (pss_cons (ps_for PassesOwn.never rfl (pi_lt (pv 3)) (pg_name (i := 6) sc_law_played.nd rfl (Or.inl rfl))
 (pss_cons (ps_set (i := 7) sc_law_played.nd rfl (Or.inl rfl) (pe_meth (pv 4) T.cl_KeepAll T.m_KeepAll_ask (ok_KeepAll_ask T) (hr.mono (by decide)) (bd_KeepAll_ask T) .nil pass0 (pa_cons (pv 6) pa_nil)))
 (pss_cons (ps_expr (pe_bm PySem.F.plainAttrs_list PySem.F.slot_list_extend PySem.F.type_list_extend mt_extend (pv 5) (pa_cons (pe_lcEv hr.hd rfl sc_law_played.nd (cm_var 4) T.cl_KeepAll T.m_KeepAll_events T.na_KeepAll_latest T.F_KeepAll_events sc_KeepAll_events rfl rfl rfl rfl (fun _ _ => rfl) (bd_KeepAll_events T) (hr.mono (by decide)) (j := 8) rfl rfl rfl (blkOk_by (own := [("_law_event", 8)]) (N := ["_law_rows_here", "_law_lots", "_law_web_here", "_law_quests", "_law_memo", "_law_seen", "_law_spot", "_law_answer", "_law_event", "_law_part"]) (sc := defScope s_law_played) (by decide +kernel)) rfl rfl) pa_nil)))
 (pss_one (ps_if (PW.pt (pw_or (pt_cmpR op_ne (pe_ix ix_tup (pe_prop (pv 4) T.cl_KeepAll T.prop (ok_KeepAll_table T) (hr.mono (by decide)) (bd_KeepAll_table T) .nil pass0 rfl) (pv 6) (fun _ _ => rfl)) (pv 7) (nomark _)) (pw_or1 (pt_cmpR op_isN (pv 7) pe_non (nomark _)))))
 (pss_one (ps_ret pe_non))
 pss_nil)))))
 (pss_one (ps_ret (pe_tup (pa_cons (pe_prop (pv 4) T.cl_KeepAll T.prop (ok_KeepAll_table T) (hr.mono (by decide)) (bd_KeepAll_table T) .nil pass0 rfl) (pa_cons (pe_callTy call_tuple_of (by rfl) T.b_tuple (by decide +kernel) (pa_cons (pe_lc (own := [("_law_part", 9)]) (g := gName 9) rfl sc_law_played.nd (pi_list (pv 1)) (blkOk_by (own := [("_law_part", 9)]) (N := ["_law_rows_here", "_law_lots", "_law_web_here", "_law_quests", "_law_memo", "_law_seen", "_law_spot", "_law_answer", "_law_event", "_law_part"]) (sc := defScope s_law_played) (by decide +kernel)) (fun _ _ _ _ _ => (pg_name (i := 9) sc_law_played.nd rfl (by first | exact Or.inl rfl | exact Or.inr rfl))) (fun _ _ _ _ _ => pts_nil) (fun _ _ _ _ _ => (pe_call (ok_law_first T) (hr.mono (by decide)) rfl T.g_law_first T.F_law_first.kp (bd_law_first T) .nil pass0 (pa_cons (pv 5) (pa_cons (pv 9) pa_nil))))) pa_nil)) pa_nil)))))))), ?_⟩
    refine ⟨_, rfl, fun m dx hm hdx hne => ?_⟩
    have hm' : upd H dx (.own m) m = none := by rw [upd_ne (Ne.symm hne)]; exact hm
    have s0 : Same H (upd (upd H dx (.own m)) m (.ins (He.ga K "KeepAll") dx [])) := (same_upd hdx).trans (same_upd hm')
    refine ⟨m, dx, x, rows, rfl, upd_same, hs.same s0, hok, fun H1 t l k1 hl0 M1 => ⟨rfl, ?_⟩⟩
    have s1 : Same H H1 := fun a o h => k1 a o (ne_of_none h hm) (s0 a o h)
    have sok := hok.sys
    have slv := hok.lvl
    refine ⟨sz0, fun f hf => ?_⟩
    have M2 : MemoAt K (upd H1 f (.lst [])) m dx x rows.length Bg.noT t l [] := by
      obtain ⟨⟨k, h1⟩, h2, h3⟩ := M1
      exact ⟨⟨k, by rw [upd_ne (ne_of_none h1 hf)]; exact h1⟩, by rw [upd_ne (ne_of_none h2 hf)]; exact h2, by rw [upd_ne (ne_of_none h3 hf)]; exact h3⟩
    have nfm : f ≠ m := by obtain ⟨⟨k, h1⟩, _, _⟩ := M1; exact Ne.symm (ne_of_none h1 hf)
    have hf0 : H f = none := by
      cases e : H f with
      | none => rfl
      | some o => rw [s1 _ _ e] at hf; cases hf
    have s2 : Same H (upd H1 f (.lst [])) := s1.trans (same_upd hf)
    have f2 : upd H1 f (.lst []) f = some (.lst []) := upd_same
    show tSeq _ _ _ _ (upd H1 f (.lst []))
    generalize upd H1 f (.lst []) = H2 at M2 s2 f2
    refine ⟨_, rfl, qa, rfl, ?_⟩
    rcases hqa with hqa | hqa
    · refine .inl ⟨⟨_, SqL.of (s2 _ _ hqa)⟩, ?_⟩
      refine for_it (walk_list (K := K) (a := qa) (xs := qs.map vn)) (fun i σ H' => ∃ (t l : Addr) (es : List V) (a b : Option V), σ = [some r, some (.ref la), some (.ref x), some (.ref qa), some (.ref m), some (.ref f), a, b, none, none] ∧ Same H H' ∧ MemoAt K H' m dx x rows.length (Bg.hist (sysOf rows) Bg.noT (qs.take i)).1 t l es ∧ H' f = some (.lst ((Bg.hist (sysOf rows) Bg.noT (qs.take i)).2.map vn)))
        ⟨t, l, [], _, _, rfl, s2, M2, f2⟩ (fun i σ H' _ h => by obtain ⟨t, l, es, a, b, rfl, s3, _⟩ := h; exact SqL.of (s3 _ _ hqa)) ?_ ?_
      · rintro i y σ H3 H3' hi ⟨t3, l3, es3, a, b, rfl, s3, M3, f3⟩ ⟨rfl, hy⟩
        obtain ⟨c, hci, rfl⟩ := map_at hy
        have hil := (List.getElem?_eq_some_iff.mp hci).1
        have hcn : c < rows.length := hqc c (List.mem_of_getElem? hci)
        have hqt : ∀ q ∈ qs.take i, q < (sysOf rows).n := fun q z => hqc q (List.mem_of_mem_take z)
        have ho3 := Bg.hist_ok sok slv _ _ hqt .no
        have etk : qs.take (i + 1) = qs.take i ++ [c] := take_snoc hci
        have eh : Bg.hist (sysOf rows) Bg.noT (qs.take (i + 1)) = ((Bg.ask (sysOf rows) (Bg.hist (sysOf rows) Bg.noT (qs.take i)).1 c).2.1, (Bg.hist (sysOf rows) Bg.noT (qs.take i)).2 ++ Bg.calls (Bg.ask (sysOf rows) (Bg.hist (sysOf rows) Bg.noT (qs.take i)).1 c).2.2) := by
          rw [etk, Bg.hist_append]; simp [Bg.hist]
        have hsn := Bg.hist_seen sok (qs.take i) Bg.noT hqt
        have htl : (qs.take i).length ≤ 100 := by rw [List.length_take]; omega
        rw [eh]
        generalize Bg.hist (sysOf rows) Bg.noT (qs.take i) = hh at ho3 hsn M3 f3
        obtain ⟨k3, hm3⟩ := M3.m
        refine ⟨_, rfl, m, _, _, rfl, hm3, rfl, _, rfl, m, dx, x, t3, l3, rows, _, es3, c, rfl, hs.same s3, hok, M3, ho3.lv, hcn, fun H4 t4 l4 es4 k4 M4 ev4 => ?_⟩
        have s4 : Same H H4 := fun a o h => k4 a o (ne_of_none h hm) (s3 a o h)
        have f4 := k4 _ _ nfm f3
        have M4 : MemoAt K H4 m dx x rows.length _ t4 l4 es4 := M4
        obtain ⟨k5, hm4⟩ := M4.m
        have hc4 := Bg.calls_len sok (T := hh.1) (c := c) hcn
        have hgot := Bg.ask_got sok (T := hh.1) (c := c) hcn
        have hfl : f ≠ l4 := fun e => by
          have h1 := M4.l
          rw [← e, f4] at h1
          have h1 : hh.2.map vn = es4 := by cases h1; rfl
          have hne : 0 < (Bg.ask (sysOf rows) hh.1 c).2.2.length := List.length_pos_iff.mpr ask_some
          obtain ⟨v, hv, a, nm, rest, rfl, _⟩ := ev4.2 0 _ (List.getElem?_eq_getElem hne)
          rw [← h1, List.getElem?_map] at hv
          cases h2 : hh.2[0]? with
          | none => rw [h2] at hv; cases hv
          | some z => rw [h2] at hv; cases hv
        generalize hak : Bg.ask (sysOf rows) hh.1 c = ak at M4 ev4 hc4 hgot
        refine ⟨_, rfl, .inl ⟨rfl, _, SqL.of f4⟩, m, dx, l4, _, es4, ak.2.2, rfl, hm4, rfl, rfl, M4.l, ev4, fun D hD => ?_⟩
        have f4' : upd H4 D (.lst ((Bg.calls ak.2.2).map vn)) f = some (.lst (hh.2.map vn)) := by rw [upd_ne (ne_of_none f4 hD)]; exact f4
        refine ⟨f, D, _, _, rfl, rfl, f4', upd_same, Nat.le_of_lt (small9999 (by simp only [List.length_map]; omega)), ?_⟩
        rw [← List.map_append]
        have s5 : Same H (upd (upd H4 D (.lst ((Bg.calls ak.2.2).map vn))) f (.lst ((hh.2 ++ Bg.calls ak.2.2).map vn))) := sameN (s4.trans (same_upd hD)) hf0
        have f5 : upd (upd H4 D (.lst ((Bg.calls ak.2.2).map vn))) f (.lst ((hh.2 ++ Bg.calls ak.2.2).map vn)) f = some (.lst ((hh.2 ++ Bg.calls ak.2.2).map vn)) := upd_same
        have M5 : MemoAt K (upd (upd H4 D (.lst ((Bg.calls ak.2.2).map vn))) f (.lst ((hh.2 ++ Bg.calls ak.2.2).map vn))) m dx x rows.length ak.2.1 t4 l4 es4 :=
          ⟨⟨k5, by rw [upd_ne (Ne.symm nfm), upd_ne (ne_of_none hm4 hD)]; exact hm4⟩, by rw [upd_ne (ne_of M4.t f4 (by simp)), upd_ne (ne_of_none M4.t hD)]; exact M4.t, by rw [upd_ne (Ne.symm hfl), upd_ne (ne_of_none M4.l hD)]; exact M4.l⟩
        generalize upd (upd H4 D (.lst ((Bg.calls ak.2.2).map vn))) f (.lst ((hh.2 ++ Bg.calls ak.2.2).map vn)) = H5 at s5 f5 M5
        obtain ⟨k6, hm5⟩ := M5.m
        refine ⟨_, rfl, m, dx, _, rfl, hm5, ⟨m, dx, x, t4, l4, rows.length, ak.2.1, es4, rfl, M5, ?_⟩⟩
        refine ⟨_, rfl, t4, _, _, .int ak.1, rfl, rfl, SqT.of M5.t, atI_nat (by rw [board_at hcn, hgot]; rfl), _, rfl, rfl, _, rfl, ?_⟩
        rw [show (!decide (V.int ak.1 = V.int ak.1)) = false from by simp]
        exact iteF ⟨_, rfl, rfl, _, rfl, iteF ⟨t4, l4, es4, _, _, rfl, s5, M5, f5⟩⟩
      · rintro σ H3 ⟨t3, l3, es3, a, b, rfl, s3, M3, f3⟩
        rw [List.length_map, List.take_length] at M3 f3
        have hsn := Bg.hist_seen sok qs Bg.noT hqc
        obtain ⟨k3, hm3⟩ := M3.m
        generalize hhh : Bg.hist (sysOf rows) Bg.noT qs = hh at M3 f3 hsn q
        refine ⟨_, rfl, m, dx, _, rfl, hm3, ⟨m, dx, x, t3, l3, rows.length, hh.1, es3, rfl, M3, ?_⟩⟩
        refine ⟨_, rfl, la, rfl, ⟨_, SqL.of (s3 _ _ hla)⟩, fun D hD => ?_⟩
        have hcl := hcs.len
        have hle := hok.le
        have hck : (Bg.comps (sysOf rows)).length ≤ 24 := Nat.le_trans (comps_len hok.sys) hok.le
        refine walk_any (walk_list (K := K) (a := la) (xs := us)) (fun i H' => Same H3 H' ∧ H' D = some (.lst ((((Bg.comps (sysOf rows)).take i).map fun D0 => Bg.first D0 hh.2).map optN))) ⟨same_upd hD, upd_same⟩ (fun i H' _ h => SqL.of (h.1 _ _ (s3 _ _ hla))) ?_ ?_
        · rintro j y H4 H4' hj ⟨s4, h4⟩ ⟨rfl, hy⟩
          obtain ⟨D0, pa, hD0, rfl, hpa⟩ : ∃ D0 pa, (Bg.comps (sysOf rows))[j]? = some D0 ∧ y = .ref pa ∧ H pa = some (.tup (D0.map vn)) := by
            have hjl : j < (Bg.comps (sysOf rows)).length := by rw [← hcl]; exact (List.getElem?_eq_some_iff.mp hy).1
            obtain ⟨pa, h1, h2⟩ := hcs.at_ (List.getElem?_eq_getElem hjl)
            rw [hy] at h1
            exact ⟨_, pa, List.getElem?_eq_getElem hjl, Option.some.inj h1, h2⟩
          refine ⟨rfl, tyes ⟨_, rfl, _, rfl, f, pa, hh.2, D0, rfl, s4 _ _ f3, s4 _ _ (s3 _ _ hpa), by omega, fun H5 s5 => ⟨_, s5 _ _ h4, small1000 (by simp only [List.length_map, List.length_take]; omega), sameN (s4.trans s5) hD, ?_⟩⟩⟩
          rw [upd_same, take_snoc hD0]
          simp
        · rintro H4 ⟨s4, h4⟩
          rw [hcl, List.take_length] at h4
          have h4 : H4 D = some (.lst ((Bg.ents (Bg.comps (sysOf rows)) hh.2).map optN)) := h4
          refine ⟨D, _, rfl, .inl ⟨SqL.of h4, fun e he => ⟨sz2, fun p hp => ?_⟩⟩⟩
          have s5 : Same H4 (upd (upd H4 e (.tup ((Bg.ents (Bg.comps (sysOf rows)) hh.2).map optN))) p (.tup [.ref t3, .ref e])) := (same_upd he).trans (same_upd hp)
          have hp0 : H p = none := by
            cases e1 : H p with
            | none => rfl
            | some o =>
              have := (same_upd he (o := .tup ((Bg.ents (Bg.comps (sysOf rows)) hh.2).map optN))) _ _ (s4 _ _ (s3 _ _ e1))
              rw [hp] at this; cases this
          refine q _ p t3 e ((s3.trans s4).trans s5) hp0 upd_same (s5 _ _ (s4 _ _ M3.t)) ?_
          rw [upd_ne (ne_of_none upd_same hp), upd_same]
    · refine .inr ⟨⟨_, SqT.of (s2 _ _ hqa)⟩, ?_⟩
      refine for_it (walk_tup (K := K) (a := qa) (xs := qs.map vn)) (fun i σ H' => ∃ (t l : Addr) (es : List V) (a b : Option V), σ = [some r, some (.ref la), some (.ref x), some (.ref qa), some (.ref m), some (.ref f), a, b, none, none] ∧ Same H H' ∧ MemoAt K H' m dx x rows.length (Bg.hist (sysOf rows) Bg.noT (qs.take i)).1 t l es ∧ H' f = some (.lst ((Bg.hist (sysOf rows) Bg.noT (qs.take i)).2.map vn)))
        ⟨t, l, [], _, _, rfl, s2, M2, f2⟩ (fun i σ H' _ h => by obtain ⟨t, l, es, a, b, rfl, s3, _⟩ := h; exact SqT.of (s3 _ _ hqa)) ?_ ?_
      · rintro i y σ H3 H3' hi ⟨t3, l3, es3, a, b, rfl, s3, M3, f3⟩ ⟨rfl, hy⟩
        obtain ⟨c, hci, rfl⟩ := map_at hy
        have hil := (List.getElem?_eq_some_iff.mp hci).1
        have hcn : c < rows.length := hqc c (List.mem_of_getElem? hci)
        have hqt : ∀ q ∈ qs.take i, q < (sysOf rows).n := fun q z => hqc q (List.mem_of_mem_take z)
        have ho3 := Bg.hist_ok sok slv _ _ hqt .no
        have etk : qs.take (i + 1) = qs.take i ++ [c] := take_snoc hci
        have eh : Bg.hist (sysOf rows) Bg.noT (qs.take (i + 1)) = ((Bg.ask (sysOf rows) (Bg.hist (sysOf rows) Bg.noT (qs.take i)).1 c).2.1, (Bg.hist (sysOf rows) Bg.noT (qs.take i)).2 ++ Bg.calls (Bg.ask (sysOf rows) (Bg.hist (sysOf rows) Bg.noT (qs.take i)).1 c).2.2) := by
          rw [etk, Bg.hist_append]; simp [Bg.hist]
        have hsn := Bg.hist_seen sok (qs.take i) Bg.noT hqt
        have htl : (qs.take i).length ≤ 100 := by rw [List.length_take]; omega
        rw [eh]
        generalize Bg.hist (sysOf rows) Bg.noT (qs.take i) = hh at ho3 hsn M3 f3
        obtain ⟨k3, hm3⟩ := M3.m
        refine ⟨_, rfl, m, _, _, rfl, hm3, rfl, _, rfl, m, dx, x, t3, l3, rows, _, es3, c, rfl, hs.same s3, hok, M3, ho3.lv, hcn, fun H4 t4 l4 es4 k4 M4 ev4 => ?_⟩
        have s4 : Same H H4 := fun a o h => k4 a o (ne_of_none h hm) (s3 a o h)
        have f4 := k4 _ _ nfm f3
        have M4 : MemoAt K H4 m dx x rows.length _ t4 l4 es4 := M4
        obtain ⟨k5, hm4⟩ := M4.m
        have hc4 := Bg.calls_len sok (T := hh.1) (c := c) hcn
        have hgot := Bg.ask_got sok (T := hh.1) (c := c) hcn
        have hfl : f ≠ l4 := fun e => by
          have h1 := M4.l
          rw [← e, f4] at h1
          have h1 : hh.2.map vn = es4 := by cases h1; rfl
          have hne : 0 < (Bg.ask (sysOf rows) hh.1 c).2.2.length := List.length_pos_iff.mpr ask_some
          obtain ⟨v, hv, a, nm, rest, rfl, _⟩ := ev4.2 0 _ (List.getElem?_eq_getElem hne)
          rw [← h1, List.getElem?_map] at hv
          cases h2 : hh.2[0]? with
          | none => rw [h2] at hv; cases hv
          | some z => rw [h2] at hv; cases hv
        generalize hak : Bg.ask (sysOf rows) hh.1 c = ak at M4 ev4 hc4 hgot
        refine ⟨_, rfl, .inl ⟨rfl, _, SqL.of f4⟩, m, dx, l4, _, es4, ak.2.2, rfl, hm4, rfl, rfl, M4.l, ev4, fun D hD => ?_⟩
        have f4' : upd H4 D (.lst ((Bg.calls ak.2.2).map vn)) f = some (.lst (hh.2.map vn)) := by rw [upd_ne (ne_of_none f4 hD)]; exact f4
        refine ⟨f, D, _, _, rfl, rfl, f4', upd_same, Nat.le_of_lt (small9999 (by simp only [List.length_map]; omega)), ?_⟩
        rw [← List.map_append]
        have s5 : Same H (upd (upd H4 D (.lst ((Bg.calls ak.2.2).map vn))) f (.lst ((hh.2 ++ Bg.calls ak.2.2).map vn))) := sameN (s4.trans (same_upd hD)) hf0
        have f5 : upd (upd H4 D (.lst ((Bg.calls ak.2.2).map vn))) f (.lst ((hh.2 ++ Bg.calls ak.2.2).map vn)) f = some (.lst ((hh.2 ++ Bg.calls ak.2.2).map vn)) := upd_same
        have M5 : MemoAt K (upd (upd H4 D (.lst ((Bg.calls ak.2.2).map vn))) f (.lst ((hh.2 ++ Bg.calls ak.2.2).map vn))) m dx x rows.length ak.2.1 t4 l4 es4 :=
          ⟨⟨k5, by rw [upd_ne (Ne.symm nfm), upd_ne (ne_of_none hm4 hD)]; exact hm4⟩, by rw [upd_ne (ne_of M4.t f4 (by simp)), upd_ne (ne_of_none M4.t hD)]; exact M4.t, by rw [upd_ne (Ne.symm hfl), upd_ne (ne_of_none M4.l hD)]; exact M4.l⟩
        generalize upd (upd H4 D (.lst ((Bg.calls ak.2.2).map vn))) f (.lst ((hh.2 ++ Bg.calls ak.2.2).map vn)) = H5 at s5 f5 M5
        obtain ⟨k6, hm5⟩ := M5.m
        refine ⟨_, rfl, m, dx, _, rfl, hm5, ⟨m, dx, x, t4, l4, rows.length, ak.2.1, es4, rfl, M5, ?_⟩⟩
        refine ⟨_, rfl, t4, _, _, .int ak.1, rfl, rfl, SqT.of M5.t, atI_nat (by rw [board_at hcn, hgot]; rfl), _, rfl, rfl, _, rfl, ?_⟩
        rw [show (!decide (V.int ak.1 = V.int ak.1)) = false from by simp]
        exact iteF ⟨_, rfl, rfl, _, rfl, iteF ⟨t4, l4, es4, _, _, rfl, s5, M5, f5⟩⟩
      · rintro σ H3 ⟨t3, l3, es3, a, b, rfl, s3, M3, f3⟩
        rw [List.length_map, List.take_length] at M3 f3
        have hsn := Bg.hist_seen sok qs Bg.noT hqc
        obtain ⟨k3, hm3⟩ := M3.m
        generalize hhh : Bg.hist (sysOf rows) Bg.noT qs = hh at M3 f3 hsn q
        refine ⟨_, rfl, m, dx, _, rfl, hm3, ⟨m, dx, x, t3, l3, rows.length, hh.1, es3, rfl, M3, ?_⟩⟩
        refine ⟨_, rfl, la, rfl, ⟨_, SqL.of (s3 _ _ hla)⟩, fun D hD => ?_⟩
        have hcl := hcs.len
        have hle := hok.le
        have hck : (Bg.comps (sysOf rows)).length ≤ 24 := Nat.le_trans (comps_len hok.sys) hok.le
        refine walk_any (walk_list (K := K) (a := la) (xs := us)) (fun i H' => Same H3 H' ∧ H' D = some (.lst ((((Bg.comps (sysOf rows)).take i).map fun D0 => Bg.first D0 hh.2).map optN))) ⟨same_upd hD, upd_same⟩ (fun i H' _ h => SqL.of (h.1 _ _ (s3 _ _ hla))) ?_ ?_
        · rintro j y H4 H4' hj ⟨s4, h4⟩ ⟨rfl, hy⟩
          obtain ⟨D0, pa, hD0, rfl, hpa⟩ : ∃ D0 pa, (Bg.comps (sysOf rows))[j]? = some D0 ∧ y = .ref pa ∧ H pa = some (.tup (D0.map vn)) := by
            have hjl : j < (Bg.comps (sysOf rows)).length := by rw [← hcl]; exact (List.getElem?_eq_some_iff.mp hy).1
            obtain ⟨pa, h1, h2⟩ := hcs.at_ (List.getElem?_eq_getElem hjl)
            rw [hy] at h1
            exact ⟨_, pa, List.getElem?_eq_getElem hjl, Option.some.inj h1, h2⟩
          refine ⟨rfl, tyes ⟨_, rfl, _, rfl, f, pa, hh.2, D0, rfl, s4 _ _ f3, s4 _ _ (s3 _ _ hpa), by omega, fun H5 s5 => ⟨_, s5 _ _ h4, small1000 (by simp only [List.length_map, List.length_take]; omega), sameN (s4.trans s5) hD, ?_⟩⟩⟩
          rw [upd_same, take_snoc hD0]
          simp
        · rintro H4 ⟨s4, h4⟩
          rw [hcl, List.take_length] at h4
          have h4 : H4 D = some (.lst ((Bg.ents (Bg.comps (sysOf rows)) hh.2).map optN)) := h4
          refine ⟨D, _, rfl, .inl ⟨SqL.of h4, fun e he => ⟨sz2, fun p hp => ?_⟩⟩⟩
          have s5 : Same H4 (upd (upd H4 e (.tup ((Bg.ents (Bg.comps (sysOf rows)) hh.2).map optN))) p (.tup [.ref t3, .ref e])) := (same_upd he).trans (same_upd hp)
          have hp0 : H p = none := by
            cases e1 : H p with
            | none => rfl
            | some o =>
              have := (same_upd he (o := .tup ((Bg.ents (Bg.comps (sysOf rows)) hh.2).map optN))) _ _ (s4 _ _ (s3 _ _ e1))
              rw [hp] at this; cases this
          refine q _ p t3 e ((s3.trans s4).trans s5) hp0 upd_same (s5 _ _ (s4 _ _ M3.t)) ?_
          rw [upd_ne (ne_of_none upd_same hp), upd_same]
end
end BgT
set_option Elab.async false
set_option linter.all false
set_option maxRecDepth 100000
set_option maxHeartbeats 4000000
namespace BgT
open PySem PySem.Spec PyProof.Rows L2
section
variable {P : Program} {w : World} {K : PySem.W.Frag} {mg : Str → Option Value} {base : Heap}
/-! ### _law_large_right -/
theorem sc_law_large_right : FnScope ["_law_pen_here", "_law_rows_here", "_law_lots", "_law_web_here", "_law_quests", "_law_played_here", "_law_turn", "_law_k"] ["_law_pen_here", "_law_rows_here", "_law_lots", "_law_web_here"] (defScope s_law_large_right) := ⟨rfl, rfl, rfl, by decide +kernel, rfl, by decide +kernel, by decide +kernel⟩
theorem bd_law_large_right {K : PySem.W.Frag} {mg : Str → Option Value} (T : Tx K mg) : Binds K (fdOf K (He.ga K "_law_large_right")) ["_law_pen_here", "_law_rows_here", "_law_lots", "_law_web_here"] [] := T.F_law_large_right.bindsN (fun _ _ _ _ _ _ us hl => match us, hl with | [_, _, _, _], _ => rfl)
def sp_law_large_right (K : PySem.W.Frag) : Sp := fun vs H Q _ => ∃ (p q la x : Addr) (r : V) (us rs : List V) (ra : Addr) (ns : List Int) (t : Nat) (rows : List Row), vs = [.ref p, .ref ra, .ref la, .ref x] ∧ Pen H p q ns t ∧ la ≠ p ∧ ra ≠ p ∧ H ra = some (.lst rs) ∧ rs.length = rows.length ∧ 0 < rows.length ∧ SysAt K H x rows ∧ RowsOk rows ∧ H la = some (.lst us) ∧ CsAt H us (Bg.comps (sysOf rows)) ∧ t ≤ 350000 ∧
  ∀ H' t', KeepX p H H' → Pen H' p q ns t' → t' ≤ t + 200 → Q (.bl true) H'
theorem ok_law_large_right (T : Tx K mg) : FO P w K mg base 66 (He.ga K "_law_large_right") ["_law_pen_here", "_law_rows_here", "_law_lots", "_law_web_here"] (sp_law_large_right K) := by
  refine T.F_law_large_right.ok sc_law_large_right (fun vs H Q E h => ?_) (fun cdv A outer s H vs Q E hr h => ?_)
  · obtain ⟨p, q, la, x, r, us, rs, ra, ns, t, rows, rfl, _⟩ := h; rfl
  · obtain ⟨p, q, la, x, r, us, rs, ra, ns, t, rows, rfl, hP, nla, nra, hra, hrl, h0, hs, hok, hla, hcs, ht, qq⟩ := h
    refine ⟨_, PSs.nox (pss_cons (ps_setLc (i := 4) (own := [("_law_k", 7)]) (g := gName 7) rfl sc_law_large_right.nd rfl rfl (sw_true rfl rfl rfl (by decide +kernel)) (pi_range1 rfl T.b_range (pa_cons (pe_op op_add pe_int (pe_call (ok_law_pick T) (hr.mono (by decide)) rfl T.g_law_pick T.F_law_pick.kp (bd_law_pick T) .nil pass0 (pa_cons (pv 0) (pa_cons pe_int pa_nil)))) pa_nil)) (blkOk_by (own := [("_law_k", 7)]) (N := ["_law_pen_here", "_law_rows_here", "_law_lots", "_law_web_here", "_law_quests", "_law_played_here", "_law_turn", "_law_k"]) (sc := defScope s_law_large_right) (by decide +kernel)) (fun _ _ _ _ _ => (pg_name (i := 7) sc_law_large_right.nd rfl (by first | exact Or.inl rfl | exact Or.inr rfl))) (fun _ _ _ _ _ => pts_nil) (fun _ _ _ _ _ => (pe_call (ok_law_pick T) (hr.mono (by decide)) rfl T.g_law_pick T.F_law_pick.kp (bd_law_pick T) .nil pass0 (pa_cons (pv 0) (pa_cons (pe_callB (call_len_seqK (K := K)) (by rfl) T.b_len (by decide +kernel) (pa_cons (pv 1) pa_nil)) pa_nil)))))
 (pss_cons (ps_set (i := 5) sc_law_large_right.nd rfl (Or.inl rfl) (pe_call (ok_law_played T) (hr.mono (by decide)) rfl T.g_law_played T.F_law_played.kp (bd_law_played T) .nil pass0 (pa_cons (pv 1) (pa_cons (pv 2) (pa_cons (pv 3) (pa_cons (pv 4) pa_nil))))))
 (pss_cons (ps_if (PW.pt (pw_or (pt_cmpR op_isN (pv 5) pe_non (nomark _)) (pw_or1 (pt_cmpR (op_neDK (K := K) hr.units) (pe_call (ok_table_by_entries T) (hr.mono (by decide)) rfl T.g_table_by_entries T.F_table_by_entries.kp (bd_table_by_entries T) .nil pass0 (pa_cons (pv 3) (pa_cons (pe_ix ix_tup (pv 5) pe_int (fun _ _ => rfl)) pa_nil))) (pe_ix ix_tup (pv 5) pe_int (fun _ _ => rfl)) (nomark _)))))
 (pss_one (ps_ret pe_bl))
 pss_nil)
 (pss_cons (ps_for PassesOwn.never rfl (pi_range1 rfl T.b_range (pa_cons pe_int pa_nil)) (pg_name (i := 6) sc_law_large_right.nd rfl (Or.inl rfl))
 (pss_one (ps_if (pt_cmpR (op_neDK (K := K) hr.units) (pe_call (ok_law_played T) (hr.mono (by decide)) rfl T.g_law_played T.F_law_played.kp (bd_law_played T) .nil pass0 (pa_cons (pv 1) (pa_cons (pv 2) (pa_cons (pv 3) (pa_cons (pe_call (ok_law_again T) (hr.mono (by decide)) rfl T.g_law_again T.F_law_again.kp (bd_law_again T) .nil pass0 (pa_cons (pv 0) (pa_cons (pv 1) (pa_cons (pv 2) (pa_cons (pe_ix ix_tup (pv 5) pe_int (fun _ _ => rfl)) pa_nil))))) pa_nil))))) (pv 5) (nomark _))
 (pss_one (ps_ret pe_bl))
 pss_nil)))
 (pss_one (ps_ret pe_bl)))))), ?_⟩
    have hle := hok.le
    have hP0 := hP
    obtain ⟨pl, hpl⟩ := hP.lst
    refine ⟨_, rfl, p, q, ns, t, 12, rfl, hP, by omega, by omega, by omega, fun H1 n t1 k1 P1 ht1 hn => ?_⟩
    have keepS : ∀ {H' : Hp}, KeepX p H H' → SysAt K H' x rows := fun {H'} k => by
      obtain ⟨dxs, ts, vss, hs1, hs2, h1, h2⟩ := id hs
      have nn : ∀ {a o}, H a = some o → (∀ xs, o ≠ HO.lst xs) → H' a = some o := fun {a o} h hn => k a o (ne_of h hpl (hn _)) h
      refine ⟨dxs, ts, vss, nn hs1 (by simp), nn hs2 (by simp), h1, fun k r e => ?_⟩
      obtain ⟨v, z, a, o, f, e1, e2, e3, e4⟩ := h2 k r e
      refine ⟨v, z, a, o, f, e1, nn e2 (by simp), nn e3 (by simp), ?_⟩
      cases hfn : r.fn with
      | lev kk c => rw [hfn] at e4; obtain ⟨a, e, h⟩ := e4; exact ⟨a, e, nn h (by simp)⟩
      | tab t => rw [hfn] at e4; obtain ⟨a, b, e, h, q⟩ := e4; exact ⟨a, b, e, nn h (by simp), nn q (by simp)⟩
    refine ⟨_, _, rfl, rfl, _, rfl, by omega, by omega, fun D hD => ?_⟩
    refine walk_any (walk_range (lo := 0) (n := 1 + n)) (fun j H' => ∃ (t' : Nat) (xs : List Nat), KeepX p H1 H' ∧ Pen H' p q ns t' ∧ t' ≤ t1 + j ∧ H' D = some (.lst (xs.map vn)) ∧ xs.length = j ∧ ∀ c ∈ xs, c < rows.length)
      ⟨t1, [], KeepX.refl.new hD, P1.new hD, by omega, upd_same, rfl, by simp⟩ (fun _ _ _ _ => trivial) ?_ ?_
    · rintro j y H2 H2' hj ⟨t2, xs, k2, P2, ht2, h2, hxl, hxs⟩ ⟨rfl, rfl⟩
      have hra2 := k2 _ _ nra (k1 _ _ nra hra)
      have nDp := (P1.freshP hD).1
      have nDq := (P1.freshP hD).2
      refine ⟨rfl, tyes ⟨_, rfl, _, rfl, ra, _, rfl, .inl (SqL.of hra2), p, q, ns, t2, rows.length, by rw [hrl]; rfl, P2, by omega, by omega, by omega, fun H3 z t3 k3 P3 ht3 hz => ?_⟩⟩
      refine ⟨_, k3 _ _ nDp h2, small1000 (by rw [List.length_map]; omega), t3, xs ++ [z], fun a o na ea => ?_, P3.other nDp nDq, by omega, by rw [upd_same, List.map_append]; rfl, by simp [hxl], fun c hc => ?_⟩
      · rw [upd_ne (ne_of_none ea hD)]
        exact k3 a o na (k2 a o na ea)
      · rcases List.mem_append.mp hc with hc | hc
        · exact hxs c hc
        · rw [List.mem_singleton.mp hc]; exact hz
    · rintro H2 ⟨t2, qs, k2, P2, ht2, h2, hql, hqs⟩
      have k02 := k1.trans k2
      have hcs2 : CsAt H2 us (Bg.comps (sysOf rows)) := hcs.keepT fun a ys e => k02.tup hpl e
      refine ⟨_, rfl, _, rfl, _, rfl, _, rfl, V.ref ra, la, x, D, us, rows, qs, rfl, keepS k02, hok, k02 _ _ nla hla, hcs2, .inl h2, by omega, hqs, fun H3 pp tb ee s3 hpp0 hpp htb hee => ?_⟩
      have hgood := Bg.play_good hok.sys hok.lvl (Bg.comps_parts hok.sys) qs hqs
      generalize hhh : Bg.hist (sysOf rows) Bg.noT qs = hh at htb hee hgood
      have k03 := k02.trans (KeepX.of s3)
      refine ⟨_, rfl, rfl, _, rfl, iteF ?_⟩
      refine ⟨_, rfl, _, rfl, pp, _, _, _, rfl, rfl, SqT.of hpp, atI_nat (j := 1) rfl, x, ee, rows, _, hh.1, rfl, keepS k03, hok, hee, hgood, fun H4 tt s4 htt => ?_⟩
      refine ⟨_, rfl, pp, _, _, _, rfl, rfl, SqT.of (s4 _ _ hpp), atI_nat (j := 0) rfl, ?_⟩
      have hd : ∀ H', DpAll K H' (boardV rows.length hh.1) ((List.range rows.length).map fun c => pdV (hh.1 c)) := fun H' => dpAll_map (fun c => optV (hh.1 c)) _ (fun c => dp_V _) _
      have hsh : ∀ d ∈ (List.range rows.length).map (fun c => pdV (hh.1 c)), Shal 0 d := fun d hd => by
        obtain ⟨c, _, rfl⟩ := List.mem_map.mp hd
        exact shal_pdV _
      have hb1 := Shal.tup hsh
      refine ⟨.tuple _, .tuple _, .tup (SqT.of htt) (hd _), .tup (SqT.of (s4 _ _ htb)) (hd _), hb1.ok (by decide), hb1.ok (by decide), _, rfl, ?_⟩
      rw [SeqAt.eqv_refl _ hb1.1]
      refine iteF ?_
      have k04 := k03.trans (KeepX.of s4)
      have P4 := (P2.same s3).same s4
      have hpp4 := s4 _ _ hpp
      have htb4 := s4 _ _ htb
      have hee4 := s4 _ _ hee
      have par := Bg.comps_parts hok.sys
      have hck : (Bg.comps (sysOf rows)).length ≤ 24 := Nat.le_trans (comps_len hok.sys) hok.le
      refine ⟨_, rfl, by omega, by omega, ?_⟩
      refine for_it (walk_range (lo := 0) (n := 2)) (fun i σ H' => ∃ (t' : Nat) (a : Option V), σ = [some (.ref p), some (.ref ra), some (.ref la), some (.ref x), some (.ref D), some (.ref pp), a, none] ∧ KeepX p H4 H' ∧ Pen H' p q ns t' ∧ t' ≤ t1 + 13 + 80 * i)
        ⟨t2, _, rfl, KeepX.refl, P4, by omega⟩ (fun _ _ _ _ _ => trivial) ?_ ?_
      · rintro i y σ H5 H5' hi ⟨t5, a, rfl, k5, P5, ht5⟩ ⟨rfl, rfl⟩
        have k05 := k04.trans k5
        have tup5 : ∀ {a ys}, H4 a = some (.tup ys) → H5' a = some (.tup ys) := fun {a ys} e => by
          obtain ⟨pl4, hpl4⟩ := P4.lst
          exact k5.tup hpl4 e
        refine ⟨_, rfl, _, rfl, _, rfl, _, rfl, _, rfl, _, rfl, _, rfl, pp, _, _, _, rfl, rfl, SqT.of (tup5 hpp4), atI_nat (j := 1) rfl, ?_⟩
        have hcs5 : CsAt H5' us (Bg.comps (sysOf rows)) := hcs.keepT fun a ys e => k05.tup hpl e
        have hDl : ∀ D0 ∈ Bg.comps (sysOf rows), D0.length ≤ 24 := fun D0 hD0 => by
          obtain ⟨j, hj⟩ := List.getElem?_of_mem hD0
          exact Nat.le_trans (Bg.nodup_le rows.length D0 ((par.asc D0 hD0).imp fun h => Nat.ne_of_lt h) fun y hy => par.lt hj hy) hok.le
        refine ⟨p, q, la, ee, V.ref ra, ns, t5, us, Bg.comps (sysOf rows), _, rfl, P5, nla, k05 _ _ nla hla, hcs5, tup5 hee4, by simp [Bg.ents], hck, hDl, by omega, fun H6 l qs2 t6 k6 hl0 P6 ht6 hl6 hql6 ag => ?_⟩
        obtain ⟨e1, e2, e3⟩ := Bg.ag_play hok.sys par hgood ag
        have k06 := k05.trans k6
        have tup6 : ∀ {a ys}, H4 a = some (.tup ys) → H6 a = some (.tup ys) := fun {a ys} e => by
          obtain ⟨pl5, hpl5⟩ := P5.lst
          exact k6.tup hpl5 (tup5 e)
        have hcs6 : CsAt H6 us (Bg.comps (sysOf rows)) := hcs.keepT fun a ys e => k06.tup hpl e
        refine ⟨V.ref ra, la, x, l, us, rows, qs2, rfl, keepS k06, hok, k06 _ _ nla hla, hcs6, .inl hl6, by omega, e3, fun H7 p2 tb2 ee2 s7 hp20 hp2 htb2 hee2 => ?_⟩
        rw [e1] at htb2
        rw [e2] at hee2
        have hdn : ∀ H', DpAll K H' ((Bg.ents (Bg.comps (sysOf rows)) hh.2).map optN) ((Bg.ents (Bg.comps (sysOf rows)) hh.2).map pdN) := fun H' => dpAll_map _ _ dp_N _
        have hshn : ∀ d ∈ (Bg.ents (Bg.comps (sysOf rows)) hh.2).map pdN, Shal 0 d := fun d hd => by
          obtain ⟨c, _, rfl⟩ := List.mem_map.mp hd
          exact shal_pdN _
        have hb2 := Shal.tup hshn
        have hb3 := Shal.tup (n := 1) (ds := [.tuple ((List.range rows.length).map fun c => pdV (hh.1 c)), .tuple ((Bg.ents (Bg.comps (sysOf rows)) hh.2).map pdN)]) (by
          intro d hd
          simp only [List.mem_cons, List.not_mem_nil, or_false] at hd
          rcases hd with rfl | rfl
          · exact hb1
          · exact hb2)
        have s7' := s7
        refine ⟨_, rfl, .tuple _, .tuple _, .tup (SqT.of hp2) (.cons (.tup (SqT.of htb2) (hd _)) (.cons (.tup (SqT.of hee2) (hdn _)) .nil)), .tup (SqT.of (s7 _ _ (tup6 hpp4))) (.cons (.tup (SqT.of (s7 _ _ (tup6 htb4))) (hd _)) (.cons (.tup (SqT.of (s7 _ _ (tup6 hee4))) (hdn _)) .nil)), hb3.ok (by decide), hb3.ok (by decide), _, rfl, ?_⟩
        rw [SeqAt.eqv_refl _ hb3.1]
        exact iteF ⟨t6, _, rfl, (k5.trans k6).trans (KeepX.of s7), P6.same s7, by omega⟩
      · rintro σ H5 ⟨t5, a, rfl, k5, P5, ht5⟩
        exact qq H5 t5 (k04.trans k5) P5 (by omega)
end
end BgT
set_option Elab.async false
set_option linter.all false
set_option maxRecDepth 100000
set_option maxHeartbeats 4000000
namespace BgT
open PySem PySem.Spec PyProof.Rows L2
/-! ### a dict whose keys are tuples of cells and None -/
abbrev KEnt := List (Option Nat) × Addr × Addr
def leafN : Option Nat → Leaf
  | none => .none
  | some n => .num (n : Int)
theorem leafN_inj {a b : Option Nat} (h : leafN a = leafN b) : a = b := by
  cases a <;> cases b <;> simp [leafN] at h ⊢
  omega
theorem leafs_inj : ∀ {a b : List (Option Nat)}, a.map leafN = b.map leafN → a = b
  | [], [], _ => rfl
  | [], _ :: _, h => by simp at h
  | _ :: _, [], h => by simp at h
  | x :: a, y :: b, h => by
    simp only [List.map_cons, List.cons.injEq] at h
    rw [leafN_inj h.1, leafs_inj h.2]
def entK (x : KEnt) : List Leaf × Addr × Value := (x.1.map leafN, x.2.1, .ref x.2.2)
def kdO (a : Addr) (o : Obj) : HO := .ext fun h => h.get? a = some o
structure KdAt (P : Program) (w : World) (H : Hp) (a : Addr) (o : Obj) (xs : List KEnt) : Prop where
  st : H a = some (kdO a o)
  ex : o.ExactDict
  dat : ∃ es ep, o.data = .dict es ep ∧ es.toList = (xs.map entK).map (entryOfKey (tupleKind (leafKind P w)))
  nd : ((xs.map entK).map (·.1)).Nodup
  sys : (a == sysModules) = false
  key : ∀ x ∈ xs, H x.2.1 = some (.tup (x.1.map optN))
section
variable {P : Program} {w : World} {H H' : Hp} {h : Heap} {a b : Addr} {o : Obj} {xs : List KEnt} {k : List (Option Nat)}
theorem kdO_ok (e : h.get? a = some o) : ObjOk P w H h a (kdO a o) := ⟨e, ⟨o, e⟩, fun h1 h2 p k => k o p⟩
theorem KdAt.same (d : KdAt P w H a o xs) (s : Same H H') : KdAt P w H' a o xs := ⟨s _ _ d.st, d.ex, d.dat, d.nd, d.sys, fun x hx => s _ _ (d.key x hx)⟩
theorem items_leaf : ∀ {k : List (Option Nat)} {us : List Value}, Vals (k.map optN) us → ItemsAre (leafKind P w) (k.map leafN) us
  | [], _, .nil => .nil
  | none :: k, _, .cons r t => by
    cases (show _ = Value.none from r)
    exact .cons rfl (items_leaf t)
  | some n :: k, _, .cons r t => by
    obtain ⟨tk, rfl⟩ := (show ∃ t, _ = Value.int n t from r)
    exact .cons (show decide ((n : Int) = n) = true by simp) (items_leaf t)
theorem leaf_key (ok : HOk P w H h) (e : H b = some (.tup (k.map optN))) : (tupleKind (leafKind P w)).is h (k.map leafN) b := by
  obtain ⟨_, its, r, ⟨ob, ho, hc, n, hd⟩⟩ := (show ObjOk P w H h b (.tup (k.map optN)) from ok b _ e)
  exact ⟨ob, its.toArray, n, ho, hc, hd, by simpa using items_leaf r⟩
theorem KdAt.dictOf (ok : HOk P w H h) (d : KdAt P w H a o xs) : h.DictOfH (tupleKind (leafKind P w)) a (xs.map entK) := by
  obtain ⟨es, ep, h1, h2⟩ := d.dat
  refine ⟨o, es, ep, (show ObjOk P w H h a (kdO a o) from ok a _ d.st).1, d.ex, h1, h2, fun x hx => ?_, d.nd⟩
  obtain ⟨y, hy, rfl⟩ := List.mem_map.mp hx
  exact leaf_key ok (d.key y hy)
theorem KdAt.at_in (d : KdAt P w H a o xs) {x : KEnt} (hx : x ∈ xs) : atKey (xs.map entK) (x.1.map leafN) = some (x.2.1, .ref x.2.2) := by
  obtain ⟨i, hi⟩ := List.mem_iff_getElem?.mp hx
  exact atKey_of_get (i := i) (p := (x.2.1, .ref x.2.2)) d.nd (by rw [List.getElem?_map, hi]; rfl)
theorem kd_at_no (hn : ∀ y ∈ xs, y.1 ≠ k) : atKey (xs.map entK) (k.map leafN) = none := by
  refine atKey_none_of_get fun j p e => ?_
  rw [List.getElem?_map] at e
  cases hj : xs[j]? with
  | none => rw [hj] at e; cases e
  | some y =>
    rw [hj] at e
    have e2 : entK y = (k.map leafN, p) := Option.some.inj e
    exact hn y (List.mem_of_getElem? hj) (leafs_inj (congrArg Prod.fst e2))
theorem KdAt.uniq (d : KdAt P w H a o xs) {x y : KEnt} (hx : x ∈ xs) (hy : y ∈ xs) (e : x.1 = y.1) : x = y := by
  obtain ⟨i, hi⟩ := List.mem_iff_getElem?.mp hx
  obtain ⟨j, hj⟩ := List.mem_iff_getElem?.mp hy
  have h1 : (xs.map entK)[i]? = some (x.1.map leafN, x.2.1, .ref x.2.2) := by rw [List.getElem?_map, hi]; rfl
  have h2 : (xs.map entK)[j]? = some (x.1.map leafN, y.2.1, .ref y.2.2) := by rw [List.getElem?_map, hj, e]; rfl
  have := idxH_unique d.nd h1 h2
  subst this
  rw [hi] at hj
  exact Option.some.inj hj
end
/-- {} -/
def tDNewL (P : Program) (w : World) : TE := fun _ H Q => ∀ p o, H p = none → KdAt P w (upd H p (kdO p o)) p o [] → Q (.ref p) (upd H p (kdO p o))
/-- d[y] -/
def tKGet (P : Program) (w : World) (td ty : TE) : TE := fun σ H Q => td σ H fun x H1 => ty σ H1 fun y H2 => ∃ (a : Addr) (o : Obj) (xs : List KEnt) (e : KEnt) (b : Addr), x = .ref a ∧ y = .ref b ∧ KdAt P w H2 a o xs ∧ e ∈ xs ∧ H2 b = some (.tup (e.1.map optN)) ∧ Q (.ref e.2.2) H2
/-- d.setdefault(y, v) -/
def tKSd (P : Program) (w : World) (td ty tx : TE) : TE := fun σ H Q => td σ H fun x H1 => ∃ (a : Addr) (o0 : Obj) (xs0 : List KEnt), x = .ref a ∧ KdAt P w H1 a o0 xs0 ∧ ty σ H1 fun y H2 => tx σ H2 fun z H3 => ∃ (o : Obj) (xs : List KEnt) (k : List (Option Nat)) (b t : Addr), y = .ref b ∧ z = .ref t ∧
  KdAt P w H3 a o xs ∧ H3 b = some (.tup (k.map optN)) ∧ xs.length ≤ 20000 ∧ (∀ e ∈ xs, e.1 = k → Q (.ref e.2.2) H3) ∧
  ((∀ e ∈ xs, e.1 ≠ k) → ∀ o', KdAt P w (upd H3 a (kdO a o')) a o' (xs ++ [(k, b, t)]) → Q (.ref t) (upd H3 a (kdO a o')))
section
variable {X : Cx} {pos : Pos}
theorem pe_dnewL {P : Program} {w : World} (h1 : X.prog = P := by rfl) (h2 : X.w = w := by rfl) : PE X (.Dict [] [] pos) (tDNewL P w) := by
  subst h1 h2
  refine ⟨fun pins s σ H Q I h => ?_⟩
  have hn := I.hok.fresh (Nat.le_refl s.heap.objs.size)
  have g : (s.heap.push { cls := .type "dict", data := .dict #[] }).get? s.heap.objs.size = some { cls := .type "dict", data := .dict #[] } := Heap.get?_push_size _ rfl
  refine wpAny_Dict_empty ⟨.ref s.heap.objs.size, _, I.laid (a := s.heap.objs.size) (o := kdO s.heap.objs.size { cls := .type "dict", data := .dict #[] }) (t' := s.toks) (fun _ _ q => Heap.get?_push_of_some _ q) (Nat.le_refl _) (kdO_ok g), rfl, h _ _ hn ?_⟩
  exact ⟨upd_same, ⟨rfl, rfl, rfl⟩, ⟨#[], 0, rfl, rfl⟩, List.nodup_nil, beq_eq_false_iff_ne.mpr (Ne.symm (Nat.ne_of_lt I.big)), fun x hx => by cases hx⟩
variable {o i e f : Expr} {apos cpos : Pos} {td ty tx : TE}
theorem pe_kget {P : Program} {w : World} (hu : X.A.units + 1 < cLine) (ho : PE X o td) (hi : PE X i ty) (hs : NoSl i) (h1 : X.prog = P := by rfl) (h2 : X.w = w := by rfl) : PE X (.Subscript o i pos) (tKGet P w td ty) := by
  subst h1 h2
  refine ⟨fun pins s σ H Q I h => ?_⟩
  refine subD_of PySem.F.slot_dict_getitem.lookup hs (thn (ho.run pins s σ H _ I h) fun u s1 ⟨x, H1, I1, rx, q1⟩ => thn (hi.run pins s1 σ H1 _ I1 q1) fun iv s2 ⟨y, H2, I2, ry, a, od, xs, en, b, ex, ey, d, hen, hb, q2⟩ => ?_)
  subst ex ey
  obtain rfl : u = Value.ref a := rx
  obtain rfl : iv = Value.ref b := ry
  have dd := d.dictOf I2.hok
  exact ⟨dd.typeIs, wpAny_getItem_heap (tupleKind_room_in1 hu) (leaf_key I2.hok hb) dd (d.at_in hen) ⟨.ref en.2.2, H2, I2.tok _, rfl, q2⟩⟩
theorem pe_ksd {P : Program} {w : World} (hu : X.A.units + 1 < cLine) (ho : PE X o td) (he : PE X e ty) (hf : PE X f tx) (m : M2 X o "setdefault" apos e f cpos) (h1 : X.prog = P := by rfl) (h2 : X.w = w := by rfl) : PE X (.Call (.Attribute o "setdefault" apos) [e, f] [] cpos) (tKSd P w td ty tx) := by
  subst h1 h2
  refine ⟨fun pins s σ H Q I h => ?_⟩
  refine wpAny_Call_method m.base m.few m.line PySem.F.plainAttrs_dict PySem.F.slot_dict_setdefault PySem.F.type_dict_setdefault (thn (ho.run pins s σ H _ I h) fun u s1 ⟨x, H1, I1, rx, a, o0, xs0, ex, d0, q1⟩ => ?_)
  subst ex
  obtain rfl : u = Value.ref a := rx
  have dd0 := d0.dictOf I1.hok
  refine ⟨dd0.typeIs, fun b q => ?_, ?_⟩
  · cases q
    obtain ⟨ob, _, _, g1, g2, _⟩ := dd0
    exact ⟨ob, g1, g2.2.1⟩
  rw [m.trees]
  refine Calls.callWith_builtin rfl (Calls.evalArgs_plain (Calls.spliced_cons (thn (he.run pins s1 σ H1 _ I1 q1) fun iv s2 ⟨y, H2, I2, ry, q2⟩ =>
    Calls.spliced_cons (thn (hf.run pins s2 σ H2 _ I2 q2) fun fv s3 ⟨z, H3, I3, rz, od, xs, k, b, t, ey, ez, d, hb, hl, qa, qb⟩ => Calls.spliced_nil ?_))))
  subst ey ez
  obtain rfl : iv = Value.ref b := ry
  obtain rfl : fv = Value.ref t := rz
  have dd := d.dictOf I3.hok
  have hz : (xs.map entK).length ≤ sizeLine := by rw [List.length_map, sizeLine_eq]; omega
  refine call_setdefault_heap (hsz := hz) (tupleKind_room_in1 hu) (leaf_key I3.hok hb) d.sys dd (fun p hp => ?_) fun hn h' dd' hs => ?_
  · have hex : ∃ en ∈ xs, en.1 = k := by
      refine Classical.byContradiction fun hno => ?_
      rw [kd_at_no fun y hy e => hno ⟨y, hy, e⟩] at hp
      cases hp
    obtain ⟨en, hen, rfl⟩ := hex
    rw [d.at_in hen] at hp
    cases hp
    exact ⟨.ref en.2.2, H3, I3.tok _, rfl, qa en hen rfl⟩
  · have hno : ∀ en ∈ xs, en.1 ≠ k := fun en hen e => by
      subst e
      rw [d.at_in hen] at hn
      cases hn
    rw [storedH_new hn] at dd'
    obtain ⟨o', es, ep, g1, g2, g3, g4, _, g5⟩ := dd'
    have I4 : Inv X pins σ (upd H3 a (kdO a o')) { s3 with heap := h', toks := s3.toks + (tupleKind (leafKind X.prog X.w)).draws (k.map leafN) } := d_write I3 (by rw [d.st]; exact True.intro) hs ⟨o', g1⟩ (kdO_ok g1)
    have app : (xs ++ [(k, b, t)]).map entK = xs.map entK ++ [(k.map leafN, b, .ref t)] := by rw [List.map_append]; rfl
    refine ⟨.ref t, _, I4, rfl, qb hno o' ⟨upd_same, g2, ⟨es, ep, g3, by rw [app]; exact g4⟩, by rw [app]; exact g5, d.sys, fun y hy => ?_⟩⟩
    have ne : ∀ {c : Addr} {ys : List V}, H3 c = some (.tup ys) → upd H3 a (kdO a o') c = some (.tup ys) := fun {c ys} e => by rw [upd_ne (ne_of e d.st (fun z => nomatch z))]; exact e
    rcases List.mem_append.mp hy with hy | hy
    · exact ne (d.key y hy)
    · have : y = (k, b, t) := by simpa using hy
      subst this
      exact ne hb
end
/-! ### walking it -/
def Itkd (d : Addr) (o : Obj) (xs : List KEnt) : It :=
  ⟨fun i H => H d = some (kdO d o) ∧ i < xs.length, fun i H x H' => H' = H ∧ ∃ y, xs[i]? = some y ∧ x = V.ref y.2.1, fun i H => H d = some (kdO d o) ∧ xs.length ≤ i⟩
theorem turn_kd {P : Program} {w : World} {K : PySem.W.Frag} {tg : Expr} {d it : Addr} {o : Obj} {xs : List KEnt} {es : Array DictEntry} {ep : Nat} (hx : o.ExactDict) (hod : o.data = .dict es ep) (he : es.toList = (xs.map entK).map (entryOfKey (tupleKind (leafKind P w)))) :
    Turn P w K tg (Itkd d o xs) [it] it (fun i h => h.IsKeyIter it d i es.size ep) where
  mem := by simp
  obj := fun i h st b hb => by
    have e : b = it := by simpa using hb
    subst e
    obtain ⟨o, e, c, d⟩ := st
    exact ⟨o, e, fun v z => by rw [d] at z; cases z⟩
  keep := fun i h h' st k => by obtain ⟨ob, e, c⟩ := st; exact ⟨ob, k it (by simp) _ e, c⟩
  item := by
    intro X hP hw hK hc i pins s σ H E I hf st hg
    subst hP hw hK
    obtain ⟨hd, hi⟩ := hg
    obtain ⟨f0, f1, f2, f3, f4, f5⟩ := hf it (by simp)
    have g : s.heap.get? d = some o := (show ObjOk X.prog X.w H s.heap d (kdO d o) from I.hok d _ hd).1
    have hsz : es.size = xs.length := by rw [size_of_entries he, List.length_map]
    have hy : xs[i]? = some xs[i] := List.getElem?_eq_getElem hi
    have hk : es[i]'(by omega) = entryOfKey (tupleKind (leafKind X.prog X.w)) (entK xs[i]) := by
      have q := entry_at he i
      rw [List.getElem?_map, hy, Array.getElem?_eq_getElem (by omega)] at q
      exact Option.some.inj q
    refine wpAny_pyNext_keys_item_raw st ⟨o, g, hx, hod⟩ (by omega) fun h' st' sb => ?_
    have I1 : Inv X pins σ H { s with heap := h' } := I.turned (t' := s.toks) (fun b ob hb e => (sb.2 b hb).trans e) f0 f1 f3 f4 f5
    obtain ⟨oi, e, cc, dd⟩ := id st'
    rw [hk]
    exact ⟨.ref xs[i].2.1, rfl, go_of (s := { s with heap := h' }) e cc dd (by decide) ⟨.ref xs[i].2.1, H, I1, rfl, ⟨rfl, _, hy, rfl⟩, st', fun b hb => (hf b hb).1⟩⟩
  done := by
    intro X hP hw hK hc i pins s σ H E I hf st hg
    subst hP hw hK
    obtain ⟨hd, hi⟩ := hg
    obtain ⟨f0, f1, f2, f3, f4, f5⟩ := hf it (by simp)
    have g : s.heap.get? d = some o := (show ObjOk X.prog X.w H s.heap d (kdO d o) from I.hok d _ hd).1
    have hsz : es.size = xs.length := by rw [size_of_entries he, List.length_map]
    exact wpAny_pyNext_keys_end_raw (I.ok.hd hc) st ⟨o, g, hx, hod⟩ (by omega) fun h' eb => ⟨rfl, I.turned (t' := s.toks) (fun b ob hb e => eb b ob hb e) f0 f1 f3 f4 f5⟩
  self := fun A i s Q E st h => by
    obtain ⟨ob, e, c, dd⟩ := st
    exact wpAny_pyIter_keyiter ⟨ob, e, c, dd⟩ h
def iKd (P : Program) (w : World) (td : TE) : TI := fun σ H R => td σ H fun v H1 => ∃ d o xs, v = V.ref d ∧ KdAt P w H1 d o xs ∧ R (Itkd d o xs) H1
theorem pi_kd {X : Cx} {P : Program} {w : World} {tg l : Expr} {tl : TE} (hl : PE X l tl) (h1 : X.prog = P := by rfl) (h2 : X.w = w := by rfl) : PI X tg l (iKd P w tl) := by
  subst h1 h2
  refine ⟨fun pins s σ H R I h => ?_⟩
  refine thn (hl.run pins s σ H _ I h) fun v s1 ⟨x, H1, I1, r1, q1⟩ => ?_
  obtain ⟨a, o, xs, e, d, q⟩ := q1
  subst e
  cases r1
  obtain ⟨es, ep, hd, he⟩ := d.dat
  refine wpAny_pyIter_dict_raw (es := es) (ep := ep) d.sys ⟨o, (show ObjOk X.prog X.w H1 s1.heap a (kdO a o) from I1.hok a _ d.st).1, d.ex, hd⟩ ?_
  refine ⟨s1.heap.objs.size, [s1.heap.objs.size], _, _, H1, rfl, I1.kept (t' := s1.toks) fun b o e => Heap.get?_push_of_some _ e, turn_kd d.ex hd he, ⟨_, Heap.get?_push_size _ rfl, rfl, rfl⟩, fun b hb => ?_, q⟩
  have e : b = s1.heap.objs.size := by simpa using hb
  subst e
  exact I1.fpOk (Nat.le_refl _) (I1.hok.fresh (Nat.le_refl _))
end BgT
set_option Elab.async false
set_option linter.all false
set_option maxRecDepth 100000
set_option maxHeartbeats 4000000
namespace BgT
open PySem PySem.Spec PyProof.Rows L2
/-! ### sorted(a list of tuples of ints) -/
def rSortedL (K : PySem.W.Frag) : List V → Hp → VK → Prop := fun vs H Q => ∃ (a : Addr) (L : List (Addr × List Int)) (d : Nat) (B : Int), vs = [V.ref a] ∧ SqL K H a (L.map fun p => V.ref p.1) ∧ (∀ p ∈ L, SqT K H p.1 (p.2.map V.int)) ∧ (L.map (·.2)).Nodup ∧ L.length < 64 ∧ 1 ≤ d ∧
  (∀ p ∈ L, p.2.length = d ∧ TS.Bd B p.2) ∧ ∀ (L' : List (Addr × List Int)) (p : Addr), L'.Perm L → L'.Pairwise (fun q r => TS.code B q.2 ≤ TS.code B r.2) → H p = none → Q (.ref p) (upd H p (.lst (L'.map fun q => V.ref q.1)))
section
variable {X : Cx}
theorem cr_sortedL : CallR X (.builtin "sorted") (rSortedL X.K) := by
  intro pins s σ H vs us Q I r h
  obtain ⟨a, L, d, B, rfl, hs, hk, nd, h64, hd, hB, q⟩ := h
  obtain ⟨its, rv, hl, _⟩ := I.list hs
  rw [Vals.ref1 r]
  have ei : its = L.map fun p => Value.ref p.1 := refs_of_vals rv
  have isT : ∀ p ∈ L, IsT X.prog X.w s.heap p.2 p.1 := fun p hp => I.isT (hk p hp)
  have tk : ∀ q ∈ L, TS.TupInts s.heap (.ref q.1) q.2 := fun q hq => tupInts_of (isT q hq)
  have x : TS.TupsOk s.heap d B its := fun v hv => by
    rw [ei] at hv
    obtain ⟨q, hq, e⟩ := List.mem_map.mp hv
    rw [← e]
    exact ⟨q.2, tk q hq, (hB q hq).1, (hB q hq).2⟩
  have ord : ∀ vs : List Value, (∀ v ∈ vs, ∃ q ∈ L, v = Value.ref q.1) → ∃ L1 : List (Addr × List Int), vs = L1.map (fun q => Value.ref q.1) ∧ ∀ q ∈ L1, q ∈ L := by
    intro vs
    induction vs with
    | nil => intro _; exact ⟨[], rfl, fun q hq => (by cases hq)⟩
    | cons v vs ih =>
      intro hv
      obtain ⟨q, hq, e⟩ := hv v List.mem_cons_self
      obtain ⟨L1, e1, hs⟩ := ih fun u hu => hv u (List.mem_cons_of_mem _ hu)
      refine ⟨q :: L1, by rw [List.map_cons, e, e1], fun r hr => ?_⟩
      rcases List.mem_cons.mp hr with z | z
      · rw [z]; exact hq
      · exact hs r z
  have one : ∀ q ∈ L, ∀ r ∈ L, q.1 = r.1 → q = r := fun q hq r hr e => by
    have a1 := isT q hq
    have a2 := isT r hr
    rw [e] at a1
    have e2 : q.2 = r.2 := a1.inj a2
    exact Prod.ext e e2
  have perm_of : ∀ L1 : List (Addr × List Int), (∀ q ∈ L1, q ∈ L) → (L1.map (fun q => Value.ref q.1)).Perm (L.map fun q => Value.ref q.1) → L1.Perm L := by
    intro L1 hs pm1
    have nL : L.Nodup := nodup_of_map nd
    have nref : (L.map fun q => Value.ref q.1).Nodup := by
      refine List.pairwise_map.mpr (List.Pairwise.imp_of_mem (fun {q r} hq hr hne e => ?_) nL)
      injection e with e
      exact hne (one q hq r hr e)
    have n1 : L1.Nodup := nodup_of_map (pm1.nodup_iff.mpr nref)
    refine (List.perm_ext_iff_of_nodup n1 nL).mpr fun q => ⟨hs q, fun hq => ?_⟩
    have hm : Value.ref q.1 ∈ L1.map (fun q => Value.ref q.1) := pm1.mem_iff.mpr (List.mem_map.mpr ⟨q, hq, rfl⟩)
    obtain ⟨r, hr, e⟩ := List.mem_map.mp hm
    injection e with e
    rw [← one r (hs r hr) q hq e]
    exact hr
  refine TS.sorted_tups hl.isList (by rw [ei, List.length_map]; exact h64) hd x fun out a1 a2 => ?_
  obtain ⟨ep, he'⟩ := PyProof.Rows.sortedAll_at s.heap its out
  obtain ⟨L', e', hs'⟩ := ord out.toList fun v hv => by
    have := a1.mem_iff.mp hv
    rw [ei] at this
    obtain ⟨q, hq, e⟩ := List.mem_map.mp this
    exact ⟨q, hq, e.symm⟩
  have pL : L'.Perm L := perm_of L' hs' (by rw [← e', ← ei]; exact a1)
  have pw : L'.Pairwise (fun q r => TS.code B q.2 ≤ TS.code B r.2) := by
    rw [e'] at a2
    refine List.Pairwise.imp_of_mem (fun {q r} hq hr hle => ?_) (List.pairwise_map.mp a2)
    have f1 : TS.intsOf s.heap (.ref q.1) = q.2 := (tk q (hs' q hq)).ints
    have f2 : TS.intsOf s.heap (.ref r.1) = r.2 := (tk r (hs' r hr)).ints
    rw [← f1, ← f2]
    exact hle
  have hlen : (L'.map fun q => V.ref q.1).length ≤ sizeLine := by rw [List.length_map, pL.length_eq, sizeLine_eq]; omega
  have hv : Vals (L'.map fun q => V.ref q.1) out.toList := by rw [e']; exact vals_of_refs L'
  exact ⟨.ref _, upd H (s.heap.objs.size + 1) (.lst (L'.map fun q => V.ref q.1)), I.laid (t' := s.toks) (fun _ _ => PyProof.Rows.sortedAll_old) (Nat.le_succ _) ⟨hlen, out.toList, ep, hv, he'⟩, rfl, q L' _ pL pw (I.hok.fresh (Nat.le_succ _))⟩
end
theorem cr_sortedLK {X : Cx} {K : PySem.W.Frag} (h : X.K = K := by rfl) : CallR X (.builtin "sorted") (rSortedL K) := by subst h; exact cr_sortedL
/-! ### walks -/
section
variable {K : PySem.W.Frag} {a b d : Addr} {xs ys : List V} {o : Obj}
theorem walk_zipT {n : Nat} (hn : n = min xs.length ys.length) : Walk (RZ.ItzT K a b) n (fun H => SqT K H a xs ∧ SqT K H b ys) (YPair (fun i => xs[i]?) (fun i => ys[i]?)) := by
  subst hn
  refine ⟨fun i _ hi q => ?_, fun _ q => ⟨xs, ys, q.1, q.2, by omega⟩, fun i H v H' _ q y => ?_⟩
  · have h1 : i < xs.length := by omega
    have h2 : i < ys.length := by omega
    exact ⟨xs, ys, xs[i], ys[i], q.1, q.2, by simp [h1], by simp [h2]⟩
  · obtain ⟨T, x, z, h1, h2, h3, h4, h5⟩ := y
    exact ⟨T, x, z, h1, h2, h3, h4 xs q.1, h5 ys q.2⟩
theorem walk_kd {es : List KEnt} : Walk (Itkd d o es) es.length (fun H => H d = some (kdO d o)) (fun i H x H' => H' = H ∧ ∃ y, es[i]? = some y ∧ x = V.ref y.2.1) :=
  ⟨fun _ _ hi q => ⟨q, hi⟩, fun _ q => ⟨q, Nat.le_refl _⟩, fun _ _ _ _ _ _ y => y⟩
end
end BgT
set_option Elab.async false
set_option linter.all false
set_option maxRecDepth 100000
set_option maxHeartbeats 4000000
namespace BgQ
open PySem
/-! ### the machine, where a generator may sleep over another -/
section
variable (den : Code → Sem Fin) (prog : Program) (w : World)
/-- a yield whose closing would show nothing -/
def mild (s : Shared) (t : Thread) : Bool := match t.cur with
  | .yield _ g _ _ => (match splitAtGen t.stack with
    | some (fs, _, _) => !closingShows s fs t.code g
    | none => false)
  | _ => false
def okH (s : Shared) (t : Thread) : Bool := t.calm || mild s t
def stepH (s : Shared) (t : Thread) : Step := if okH s t = true then stepK den prog w s t else .halt (.stuck "loud") s
def runH : Nat → Shared → Thread → Run
  | 0, s, t => .running s t
  | n + 1, s, t => match stepH den prog w s t with
    | .go s' t' => runH n s' t'
    | .halt o s' => .halted o s'
theorem stepH_ok {s : Shared} {t : Thread} (h : okH s t = true) : stepH den prog w s t = stepK den prog w s t := by simp [stepH, h]
theorem stepH_bad {s : Shared} {t : Thread} (h : okH s t = false) : stepH den prog w s t = .halt (.stuck "loud") s := by simp [stepH, h]
theorem runH_runNK {n : Nat} {s : Shared} {t : Thread} {o : Outcome} {s' : Shared} (h : runH den prog w n s t = .halted o s') (ho : o.ends = true) :
    runNK den prog w n s t = .halted o s' ∧ ∀ k s₁ t₁, runNK den prog w k s t = .running s₁ t₁ → okH s₁ t₁ = true := by
  induction n generalizing s t with
  | zero => cases h
  | succ n ih =>
    simp only [runH] at h
    cases hc : okH s t with
    | false =>
      rw [stepH_bad den prog w hc] at h
      injection h with h1 _; subst h1; exact absurd ho (by simp [Outcome.ends])
    | true =>
      rw [stepH_ok den prog w hc] at h
      cases hs : stepK den prog w s t with
      | go s₂ t₂ =>
        simp only [hs] at h
        obtain ⟨a, b⟩ := ih h
        refine ⟨by simp only [runNK, hs]; exact a, fun k s₁ t₁ hk => ?_⟩
        cases k with
        | zero => injection hk with e1 e2; subst e1 e2; exact hc
        | succ k => simp only [runNK, hs] at hk; exact b k s₁ t₁ hk
      | halt o₂ s₂ =>
        simp only [hs] at h
        refine ⟨by simp only [runNK, hs]; exact h, fun k s₁ t₁ hk => ?_⟩
        cases k with
        | zero => injection hk with e1 e2; subst e1 e2; exact hc
        | succ k => simp only [runNK, hs] at hk; cases hk
theorem shows_forget (s : Shared) (v : Value) : delegateShows s.forget v = delegateShows s v := by cases v <;> rfl
theorem mild_forget (s : Shared) (t : Thread) : mild s.forget t.forget = mild s t := by
  obtain ⟨cur, code, pos, stack⟩ := t
  cases cur with
  | yield v g l k =>
    simp only [mild, Thread.forget, splitAtGen_forgetAll]
    cases splitAtGen stack with
    | none => rfl
    | some x =>
      obtain ⟨fs, b, r⟩ := x
      simp only [Option.map_some, closingShows, any_guarded_forgetAll]
      rfl
  | _ => rfl
theorem okH_forget {s s2 : Shared} {t t2 : Thread} (hs : s.forget = s2.forget) (ht : t.forget = t2.forget) : okH s t = okH s2 t2 := by
  unfold okH
  rw [← Thread.calm_forget t, ← mild_forget s t, hs, ht, Thread.calm_forget t2, mild_forget s2 t2]
theorem okH_runN {s : Shared} {t : Thread} (hc : ∀ k s₁ t₁, runNK den prog w k s t = .running s₁ t₁ → okH s₁ t₁ = true) :
    ∀ k s₁ t₁, runN den prog w k s t = .running s₁ t₁ → okH s₁ t₁ = true := by
  intro k s₁ t₁ hk
  have e := runNK_same den prog w k (s₁ := s) (s₂ := s) (t₁ := t) (t₂ := t) rfl rfl
  rw [hk] at e
  cases hr : runNK den prog w k s t with
  | halted o₂ s₂ => rw [hr] at e; cases e
  | running s₂ t₂ =>
    rw [hr] at e
    simp only [Run.forget] at e
    injection e with e1 e2
    rw [← okH_forget e1 e2]
    exact hc k s₂ t₂ hr
theorem lifeStep_mild (others : List Value) (s : Shared) (t : Thread) (h : mild s t = true) (hr : s.asleep) : lifeStep den prog w others s t = step den prog w s t := by
  obtain ⟨h1, h2⟩ := hr
  obtain ⟨cur, code, pos, stack⟩ := t
  cases cur with
  | yield v g l k =>
    simp only [mild] at h
    cases hs : splitAtGen stack with
    | none => simp [hs] at h
    | some x =>
      obtain ⟨fs, b, r⟩ := x
      simp only [hs] at h
      have h : closingShows s fs code g = false := by simpa using h
      unfold lifeStep
      split
      · simp [collectorTurn?, hs, h, Thread.atItsEnd, stepCounting, h2]
      · simp [stepCounting, h2]
  | _ => simp [mild] at h
theorem pick_mild (s : Shared) (t : Thread) (h : mild s t = true) (hr : s.heap.life.registered = []) : (Config.single s t).pick w = .ok (.run 0, .single s t) := by
  have h1 : (Config.single s t).collect? w.params = none := by
    simp [Config.collect?, Config.single, (nothing_to_collect _ _ _ s t hr).1]
  have h2 : (Config.single s t).collectable = [] := by
    simp [Config.collectable, Config.single, (nothing_to_collect w.params _ _ s t hr).2]
  have h3 : (Config.single s t).moves w.params.profile = [.run 0] := by
    obtain ⟨cur, code, pos, stack⟩ := t
    cases cur <;> simp_all [mild, Config.moves, Config.single, movesFrom, Thread.moves, Thread.atomic, Thread.rests, Thread.tells]
  simp only [Config.pick, h1, h2, Config.pickThread, h3]
  cases w.params.lifetimes <;> simp
theorem run_mild (s : Shared) (t : Thread) (h : mild s t = true) (hr : s.asleep) : (Config.single s t).run den prog w 0 = (step den prog w s t).lift := by
  have hl := fun others => lifeStep_mild den prog w others s t h hr
  obtain ⟨cur, code, pos, stack⟩ := t
  cases cur with
  | yield v g l k =>
    simp only [Config.run, Config.single]
    simp [hl, others_single, frozenBadly, ThreadState.insideWrite, Thread.finalizes, Thread.result?]
    split <;> simp_all [Step.lift, Config.single]
  | _ => simp [mild] at h
theorem sstep_mild (s : Shared) (t : Thread) (h : mild s t = true) (hr : s.asleep) : sstep den prog w (.single s t) = (step den prog w s t).lift := by
  simp only [sstep, pick_mild w s t h hr.1, Config.move, run_mild den prog w s t h hr]
theorem schedN_ok (n : Nat) : ∀ (s : Shared) (t : Thread), s.asleep → (∀ k s₁ t₁, runN den prog w k s t = .running s₁ t₁ → okH s₁ t₁ = true) →
    (∀ k s', runN den prog w k s t ≠ .halted (.unsupported "lifetime:generator-with-cleanup-left-suspended") s') → schedN den prog w n (.single s t) = (runN den prog w n s t).lift := by
  induction n with
  | zero => intro s t _ _ _; rfl
  | succ n ih =>
    intro s t hr hc hx
    have e : sstep den prog w (.single s t) = (step den prog w s t).lift := by
      have h0 := hc 0 s t rfl
      unfold okH at h0
      cases h1 : t.calm with
      | true => exact (sstep_single den prog w s t h1 hr).resolve_right fun e => hx 1 s (by simp only [runN, e])
      | false =>
        rw [h1, Bool.false_or] at h0
        exact sstep_mild den prog w s t h0 hr
    simp only [schedN, runN, e]
    cases hs : step den prog w s t with
    | go s' t' =>
      exact ih s' t' (by simp only [Shared.asleep, step_life den prog w s s' t t' hs]; exact hr) (fun k s₁ t₁ hk => hc (k + 1) s₁ t₁ (by simp only [runN, hs]; exact hk)) (fun k s₁ hk => hx (k + 1) s₁ (by simp only [runN, hs]; exact hk))
    | halt o s' => rfl
theorem runH_full {n : Nat} {s : Shared} {t : Thread} {o : Outcome} {s' : Shared} (h : runH den prog w n s t = .halted o s') (ho : o.ends = true) (hr : s.asleep) :
    ∃ s'', schedN den prog w n (.single s t) = .halted o s'' ∧ runN den prog w n s t = .halted o s'' ∧ s''.forget = s'.forget := by
  obtain ⟨hk, hc⟩ := runH_runNK den prog w h ho
  obtain ⟨s'', hn, hf⟩ := runNK_halted den prog w hk
  have hne : ∀ k s₂, runN den prog w k s t ≠ .halted (.unsupported "lifetime:generator-with-cleanup-left-suspended") s₂ := by
    intro k s₂ e
    have a := runN_mono den prog w n k s t o s'' hn
    have b := runN_mono den prog w k n s t _ s₂ e
    rw [Nat.add_comm, b] at a
    injection a with a1 _
    subst a1; exact absurd ho (by simp [Outcome.ends])
  exact ⟨s'', (schedN_ok den prog w n s t hr (okH_runN den prog w hc) hne).trans (congrArg Run.lift hn), hn, hf⟩
end
/-! ### runs of this machine -/
section
variable {M : Model}
def GoH (M : Model) (s : Shared) (t : Thread) (s' : Shared) (t' : Thread) : Prop := ∃ n, runH M.den M.prog M.w n s t = .running s' t'
theorem GoH.refl (s : Shared) (t : Thread) : GoH M s t s t := ⟨0, rfl⟩
theorem runH_add {den : Code → Sem Fin} {prog : Program} {w : World} : ∀ {n k : Nat} {s s' : Shared} {t t' : Thread}, runH den prog w n s t = .running s' t' → runH den prog w (n + k) s t = runH den prog w k s' t'
  | 0, k, s, s', t, t', h => by injection h with h1 h2; subst h1 h2; rw [Nat.zero_add]
  | n + 1, k, s, s', t, t', h => by
    rw [Nat.add_right_comm]
    simp only [runH] at h ⊢
    cases hs : stepH den prog w s t with
    | go s₁ t₁ => simp only [hs] at h ⊢; exact runH_add h
    | halt o s₁ => simp only [hs] at h; cases h
theorem GoH.trans {s s1 s2 : Shared} {t t1 t2 : Thread} (a : GoH M s t s1 t1) (b : GoH M s1 t1 s2 t2) : GoH M s t s2 t2 := by
  obtain ⟨n, h⟩ := a
  obtain ⟨k, h'⟩ := b
  exact ⟨n + k, (runH_add h).trans h'⟩
theorem GoH.one {s s1 : Shared} {t t1 : Thread} (h : stepH M.den M.prog M.w s t = .go s1 t1) : GoH M s t s1 t1 := ⟨1, by simp only [runH, h]⟩
/-- a step of the quiet machine -/
theorem stepH_of {s s1 : Shared} {t t1 : Thread} (h : M.step s t = .go s1 t1) : stepH M.den M.prog M.w s t = .go s1 t1 := by
  cases hl : t.loud with
  | true => rw [M.step_loud hl] at h; cases h
  | false =>
    rw [M.step_quiet hl] at h
    have hc : t.calm = true := by
      rw [Thread.calm_eq, hl]
      cases hr : t.refused with
      | false => rfl
      | true =>
        obtain ⟨what, e⟩ := stepK_refused M.den M.prog M.w (s := s) hr
        rw [e] at h; cases h
    rw [stepH_ok _ _ _ (by unfold okH; rw [hc]; rfl)]
    exact h
theorem GoH.step {s s1 : Shared} {t t1 : Thread} (h : M.step s t = .go s1 t1) : GoH M s t s1 t1 := .one (stepH_of h)
theorem GoH.of_reach {base : List Frame} {s s' : Shared} {t : Sem PySem.Fin} {c : Code} {p : Pos} {pre : List Frame} {e : End} (h : Reach M base s t c p pre s' e) :
    ∃ t' c' p' pre', Exits e t' c' p' pre' ∧ GoH M s ⟨t, c, p, pre ++ base⟩ s' ⟨t', c', p', pre' ++ base⟩ := by
  induction h with
  | exit hx => exact ⟨_, _, _, _, hx, .refl _ _⟩
  | step hs _ ih =>
    obtain ⟨t', c', p', pre', hx, g⟩ := ih
    exact ⟨t', c', p', pre', hx, (GoH.step hs).trans g⟩
end
end BgQ
set_option Elab.async false
set_option linter.all false
set_option maxRecDepth 100000
set_option maxHeartbeats 4000000
namespace BgQ
open PySem
/-! ### what a tree does at this machine, whatever follows -/
section
variable {α β : Type} {M : Model}
def Res (M : Model) (c : Code) (st : List Frame) (K : α → Sem PySem.Fin) (J : Value → Sem PySem.Fin) (Q : α → Pos → Shared → Prop) (E : Value → Pos → Shared → Prop) (p : Pos) (s : Shared) (t : Sem PySem.Fin) : Prop :=
  ∃ p' s', (∃ a, Q a p' s' ∧ GoH M s ⟨t, c, p, st⟩ s' ⟨K a, c, p', st⟩) ∨ (∃ e, E e p' s' ∧ GoH M s ⟨t, c, p, st⟩ s' ⟨J e, c, p', st⟩)
theorem Res.pre {c : Code} {st : List Frame} {K : α → Sem PySem.Fin} {J : Value → Sem PySem.Fin} {Q : α → Pos → Shared → Prop} {E : Value → Pos → Shared → Prop} {p p1 : Pos} {s s1 : Shared} {t t1 : Sem PySem.Fin}
    (g : GoH M s ⟨t, c, p, st⟩ s1 ⟨t1, c, p1, st⟩) (h : Res M c st K J Q E p1 s1 t1) : Res M c st K J Q E p s t := by
  obtain ⟨p', s', h⟩ := h
  exact ⟨p', s', h.imp (fun ⟨a, q, g'⟩ => ⟨a, q, g.trans g'⟩) fun ⟨a, q, g'⟩ => ⟨a, q, g.trans g'⟩⟩
theorem res_of_wp {c : Code} {st : List Frame} {K : α → Sem PySem.Fin} {J : Value → Sem PySem.Fin} {gd : Bool → Bool} {lv : List Value → List Value} {Q : α → Pos → Shared → Prop} {E : Value → Pos → Shared → Prop} (m : Sem α) :
    ∀ (p : Pos) (s : Shared), Sem.wp M (Ctx.of c st) m Q E p s → Res M c st K J Q E p s (m.wrap K J gd lv) := by
  have F := Ctx.fits_of c st
  induction m with
  | pure a => intro p s h; exact ⟨p, s, .inl ⟨a, h, .refl _ _⟩⟩
  | raise e => intro p s h; exact ⟨p, s, .inr ⟨e, h, .refl _ _⟩⟩
  | unsupported | finish | yield | fork | await | register => intro p s h; exact False.elim h
  | rule tag k ih => intro p s h; exact Res.pre (GoH.step (step_rule ..)) (ih _ _ _ h)
  | «at» p' k ih => intro p s h; exact Res.pre (GoH.step (step_at ..)) (ih _ _ _ h)
  | load a part k ih => intro p s h; obtain ⟨o, ho, h⟩ := h; exact Res.pre (GoH.step (step_load _ _ _ _ _ _ _ ho)) (ih _ _ _ h)
  | update a part f k ih => intro p s h; obtain ⟨ho, h⟩ := h; exact Res.pre (GoH.step (step_update _ _ _ _ _ _ _ _ ho)) (ih _ _ _ h)
  | loadIfAlive a k ih => intro p s h; exact Res.pre (GoH.step (step_loadIfAlive ..)) (ih _ _ _ h)
  | point l k ih => intro p s h; exact Res.pre (GoH.step (step_point ..)) (ih _ _ _ h)
  | alloc o k ih => intro p s h; exact Res.pre (GoH.step (step_alloc ..)) (ih _ _ _ h)
  | fresh k ih => intro p s h; exact Res.pre (GoH.step (step_fresh ..)) (ih _ _ _ h)
  | ask k ih => intro p s h; exact Res.pre (GoH.step (step_ask ..)) (ih _ _ _ h)
  | choose src n k ih => intro p s h; obtain ⟨hn, h⟩ := h; exact Res.pre (GoH.step (step_choose _ _ _ _ _ _ _ hn)) (ih _ _ _ h)
  | os q l k ih => intro p s h; exact Res.pre (GoH.step (step_os ..)) (ih _ _ _ h)
  | handled own k ih =>
    intro p s h
    refine Res.pre (GoH.step (step_handled ..)) (ih _ _ _ ?_)
    cases own
    · exact h
    · exact h
  | genState g k ih => intro p s h; obtain ⟨x, hx, h⟩ := h; exact Res.pre (GoH.step (step_genState _ _ _ _ _ _ hx)) (ih _ _ _ h)
  | newGen c' k ih => intro p s h; exact Res.pre (GoH.step (step_newGen ..)) (ih _ _ _ h)
  | stack k ih => intro p s h; exact Res.pre (GoH.step (step_stack ..)) (ih _ _ _ h)
  | thread k ih => intro p s h; exact Res.pre (GoH.step (step_thread ..)) (ih _ _ _ h)
  | call c' hd g l k ih =>
    intro p s h
    obtain ⟨r, s1, hr, h⟩ := h
    refine Res.pre ?_ (ih r p s1 h)
    obtain ⟨t', c2, p2, pre', hx, gr⟩ := GoH.of_reach (runs_reach hr _ (F.enter c' (fun r => (k r).wrap K J gd lv) hd (gd g) (lv l) p []))
    obtain ⟨rfl, rfl⟩ := hx
    exact (GoH.step (step_call ..)).trans (gr.trans (GoH.step (step_leaf_ret ..)))
  | resume g r l k ih =>
    intro p s h
    obtain ⟨res, s1, hw, h⟩ := h
    refine Res.pre ?_ (ih res p s1 h)
    unfold Wakes at hw
    cases hg : s.gens[g]? with
    | none => simp only [hg] at hw
    | some gs =>
      simp only [hg] at hw
      cases gs with
      | fresh c' =>
        cases r with
        | send v =>
          by_cases hv : v = .none
          · subst hv
            obtain ⟨e₁, s₂, h₁, hq, rfl, rfl⟩ := hw
            obtain ⟨t', c2, p2, pre', hx, gr⟩ := GoH.of_reach (runs_reach h₁ _ (F.wake c' g (fun x => (k x).wrap K J gd lv) (lv l) p))
            exact (GoH.step (step_resume_fresh _ _ _ _ _ _ _ hg)).trans (gr.trans (GoH.step (step_exit_gen _ _ _ _ _ _ _ hx hq)))
          · have e : res = .justStarted ∧ s1 = s := by cases v <;> first | exact absurd rfl hv | exact hw
            obtain ⟨rfl, rfl⟩ := e
            exact GoH.step (step_resume_justStarted _ _ _ _ _ _ _ hg hv)
        | throw x => obtain ⟨rfl, rfl⟩ := hw; exact GoH.step (step_resume_throwFresh _ _ _ _ _ _ _ _ hg)
      | suspended k₀ l₀ c₀ p₀ fs cl =>
        obtain ⟨e₁, s₂, h₁, hq, rfl, rfl⟩ := hw
        obtain ⟨t', c2, p2, pre', hx, gr⟩ := GoH.of_reach (runs_reach h₁ _ (F.wake c₀ g (fun x => (k x).wrap K J gd lv) (lv l) p))
        exact (GoH.step (step_resume_suspended _ _ _ _ _ _ _ _ hg)).trans (gr.trans (GoH.step (step_exit_gen _ _ _ _ _ _ _ hx hq)))
      | running => obtain ⟨rfl, rfl⟩ := hw; exact GoH.step (step_resume_running _ _ _ _ _ _ _ _ hg)
      | finished => obtain ⟨rfl, rfl⟩ := hw; exact GoH.step (step_resume_finished _ _ _ _ _ _ _ _ hg)
theorem wrap_self {α : Type} (m : Sem α) : m.wrap (fun f => .pure f) .raise id id = m := by
  induction m <;> simp only [Sem.wrap, id, *]
/-- a tree, in any place that fits -/
def wq (M : Model) (A : Around) (m : Sem α) (Q : α → Shared → Prop) (E : Value → Shared → Prop) (s : Shared) : Prop :=
  ∀ (c : Code) (st : List Frame) (p : Pos) (K : α → Sem PySem.Fin) (J : Value → Sem PySem.Fin) (gd : Bool → Bool) (lv : List Value → List Value), (Ctx.of c st).In A →
    Res M c st K J (fun a _ s' => Q a s') (fun e _ s' => E e s') p s (m.wrap K J gd lv)
/-- a code, called in any place that fits -/
def cq (M : Model) (A : Around) (c : Code) (R : Result → Shared → Prop) (s : Shared) : Prop :=
  ∀ (st : List Frame) (p : Pos), (Ctx.of c st).Below A → ∃ r c' p' s', R r s' ∧ GoH M s ⟨M.den c, c, p, st⟩ s' ⟨leafOf r, c', p', st⟩
variable {A : Around} {Q Q' : α → Shared → Prop} {E E' : Value → Shared → Prop} {s : Shared}
theorem wq_of_wpAny {m : Sem α} (h : wpAny M A m Q E s) : wq M A m Q E s := fun c st p K J gd lv hΓ => res_of_wp m p s (h _ p hΓ)
theorem Res.imp {c : Code} {st : List Frame} {K : α → Sem PySem.Fin} {J : Value → Sem PySem.Fin} {Q Q' : α → Pos → Shared → Prop} {E E' : Value → Pos → Shared → Prop} {p : Pos} {s : Shared} {t : Sem PySem.Fin} (h : Res M c st K J Q E p s t)
    (hQ : ∀ a p s, Q a p s → Q' a p s) (hE : ∀ a p s, E a p s → E' a p s) : Res M c st K J Q' E' p s t := by
  obtain ⟨p', s', h⟩ := h
  exact ⟨p', s', h.imp (fun ⟨a, q, g'⟩ => ⟨a, hQ _ _ _ q, g'⟩) fun ⟨a, q, g'⟩ => ⟨a, hE _ _ _ q, g'⟩⟩
theorem wq_mono {m : Sem α} (h : wq M A m Q E s) (hQ : ∀ a s, Q a s → Q' a s) (hE : ∀ e s, E e s → E' e s) : wq M A m Q' E' s :=
  fun c st p K J gd lv hΓ => (h c st p K J gd lv hΓ).imp (fun a _ s q => hQ a s q) fun a _ s q => hE a s q
theorem wq_wrap {m : Sem α} {K : α → Sem β} {J : Value → Sem β} {gd : Bool → Bool} {lv : List Value → List Value} {Q : β → Shared → Prop}
    (h : wq M A m (fun a s' => wq M A (K a) Q E s') (fun e s' => wq M A (J e) Q E s') s) : wq M A (m.wrap K J gd lv) Q E s := by
  intro c st p K' J' gd' lv' hΓ
  rw [Sem.wrap_wrap]
  obtain ⟨p1, s1, h1⟩ := h c st p (fun a => (K a).wrap K' J' gd' lv') (fun e => (J e).wrap K' J' gd' lv') (fun x => gd' (gd x)) (fun x => lv' (lv x)) hΓ
  rcases h1 with ⟨a, q, g⟩ | ⟨e, q, g⟩
  · exact Res.pre g (q c st p1 K' J' gd' lv' hΓ)
  · exact Res.pre g (q c st p1 K' J' gd' lv' hΓ)
theorem wq_pure {a : α} (h : Q a s) : wq M A (pure a) Q E s := wq_of_wpAny (wpAny_pure h)
theorem wq_throw {e : Value} (h : E e s) : wq M A (throw e : Sem α) Q E s := wq_of_wpAny (wpAny_throw h)
theorem wq_raise {e : Value} (h : E e s) : wq M A (.raise e : Sem α) Q E s := wq_of_wpAny (wpAny_throw h)
theorem wq_bind {m : Sem α} {f : α → Sem β} {Q : β → Shared → Prop} (h : wq M A m (fun a s' => wq M A (f a) Q E s') E s) : wq M A (m >>= f) Q E s := by
  rw [Sem.bind_eq_wrap']
  exact wq_wrap (wq_mono h (fun _ _ x => x) fun _ _ x => wq_raise x)
theorem wq_onRaise {m : Sem α} {k : Value → Sem Unit} (h : wq M A m Q (fun e s' => wq M A (k e) (fun _ s'' => E e s'') E s') s) : wq M A (m.onRaise k) Q E s := by
  rw [Sem.onRaise_eq_wrap]
  refine wq_wrap (wq_mono h (fun _ _ x => wq_pure x) fun e s' x => ?_)
  show wq M A (k e >>= fun _ => .raise e) Q E s'
  exact wq_bind (wq_mono x (fun _ _ y => wq_raise y) fun _ _ y => y)
theorem wq_holding {vs : List Value} {m : Sem α} (h : wq M A m Q E s) : wq M A (holding vs m) Q E s := by
  rw [holding_eq_keep, Sem.keep_eq_wrap]
  exact wq_wrap (wq_mono h (fun _ _ x => wq_pure x) fun _ _ x => wq_raise x)
theorem wq_attempt {m : Sem α} {Q : Except Value α → Shared → Prop} (h : wq M A m (fun a => Q (.ok a)) (fun e => Q (.error e)) s) : wq M A m.attempt Q E s := by
  unfold Sem.attempt
  rw [Sem.tryCatch_eq_wrap]
  refine wq_wrap ?_
  exact wq_bind (wq_mono h (fun a s' x => wq_pure (wq_pure x)) fun e s' x => wq_pure x)
theorem cq_of_codeAny {c : Code} {R : Result → Shared → Prop} (h : codeAny M A c R s) : cq M A c R s := by
  intro st p hΓ
  obtain ⟨r, s', hr, hR⟩ := h (Ctx.of c st) p rfl hΓ
  obtain ⟨t', c2, p2, pre', hx, gr⟩ := GoH.of_reach (runs_reach hr st (Ctx.fits_of c st))
  obtain ⟨rfl, rfl⟩ := hx
  exact ⟨r, c2, p2, s', hR, gr⟩
theorem cq_mono {c : Code} {R R' : Result → Shared → Prop} (h : cq M A c R s) (hR : ∀ r s, R r s → R' r s) : cq M A c R' s := by
  intro st p hΓ
  obtain ⟨r, c', p', s', q, g⟩ := h st p hΓ
  exact ⟨r, c', p', s', hR _ _ q, g⟩
theorem wq_code {c' : Code} {hd : Option Value} {g : Bool} {l : List Value} {k : Result → Sem α} (h : cq M (A.mark hd) c' (fun r s' => wq M A (k r) Q E s') s) (hnb : hd ≠ some byPass) : wq M A (.call c' hd g l k) Q E s := by
  intro c st p K J gd lv hΓ
  have hb : (Ctx.of c' (.ret (fun r => (k r).wrap K J gd lv) hd (gd g) (lv l) c p [] :: st)).Below (A.mark hd) := by
    have e := (hΓ.enter c' hd p hnb)
    exact ⟨(topHandled_ret ..).trans e.1, e.2.1, e.2.2.1, e.2.2.2.1, e.2.2.2.2⟩
  obtain ⟨r, c2, p2, s2, q, gr⟩ := h (.ret (fun r => (k r).wrap K J gd lv) hd (gd g) (lv l) c p [] :: st) p hb
  exact Res.pre ((GoH.step (step_call ..)).trans (gr.trans (GoH.step (step_leaf_ret ..)))) (q c st p K J gd lv hΓ)
theorem cq_of_tree {c : Code} {R : Result → Shared → Prop}
    (h : wq M (A.under c) (M.den c) (fun fin s' => match fin with | .done f => R (.ok f) s' | .again c' => c'.quiet = true ∧ cq M A c' R s') (fun e s' => R (.error e) s') s) : cq M A c R s := by
  intro st p hΓ
  obtain ⟨p1, s1, h1⟩ := h c st p (fun f => .pure f) .raise id id hΓ.in
  have e : (M.den c).wrap (fun f => .pure f) .raise id id = M.den c := wrap_self _
  rw [e] at h1
  rcases h1 with ⟨f, q, g⟩ | ⟨x, q, g⟩
  · cases f with
    | done f => exact ⟨.ok f, c, p1, s1, q, g⟩
    | again c' =>
      obtain ⟨hq, q⟩ := q
      obtain ⟨r, c2, p2, s2, q2, g2⟩ := q st p1 hΓ
      exact ⟨r, c2, p2, s2, q2, g.trans ((GoH.step (step_again _ _ _ _ _ _ hq)).trans g2)⟩
  · exact ⟨.error x, c, p1, s1, q, g⟩
end
end BgQ
set_option Elab.async false
set_option linter.all false
set_option maxRecDepth 100000
set_option maxHeartbeats 4000000
namespace BgQ
open PySem
/-! ### a generator's code at this machine -/
section
variable {α β : Type} {M : Model}
theorem woken_gen {A : Around} {cc c : Code} {st : List Frame} {g : Nat} {k : GenResult → Sem PySem.Fin} {l : List Value} {pp : Pos} (h : (Ctx.of cc st).In A) : (Ctx.of c (.gen g k l cc pp :: st)).Woken A := by
  have e := h.wake c pp
  exact ⟨⟨e.1.1, e.1.2.1, e.1.2.2.1, e.1.2.2.2.1, e.1.2.2.2.2⟩, rfl⟩
/-- until it ends or sleeps -/
def Sq (M : Model) (A : Around) (R : Result → Shared → Prop) (Y : Value → Shared → GenState → Prop) (c : Code) (t : Sem PySem.Fin) (fs : List Frame) (s : Shared) : Prop :=
  ∀ (g : Nat) (k : GenResult → Sem PySem.Fin) (l : List Value) (cc : Code) (pp : Pos) (st : List Frame) (p : Pos), (Ctx.of cc st).In A →
    ∃ s', (∃ r c1 p1, R r s' ∧ GoH M s ⟨t, c, p, fs ++ .gen g k l cc pp :: st⟩ s' ⟨leafOf r, c1, p1, .gen g k l cc pp :: st⟩) ∨
      (∃ v gs, Y v s' gs ∧ GoH M s ⟨t, c, p, fs ++ .gen g k l cc pp :: st⟩ (s'.setGen g gs) ⟨k (.yielded v), cc, pp, st⟩)
variable {A : Around} {R : Result → Shared → Prop} {Y : Value → Shared → GenState → Prop} {c : Code} {fs : List Frame} {s : Shared}
theorem Sq.pre {t t1 : Sem PySem.Fin} {c1 : Code} {fs1 : List Frame} {s1 : Shared} (h : ∀ (G : Frame) (st : List Frame) (p : Pos), ∃ p1, GoH M s ⟨t, c, p, fs ++ G :: st⟩ s1 ⟨t1, c1, p1, fs1 ++ G :: st⟩) (h1 : Sq M A R Y c1 t1 fs1 s1) : Sq M A R Y c t fs s := by
  intro g k l cc pp st p hΓ
  obtain ⟨p1, g1⟩ := h (.gen g k l cc pp) st p
  obtain ⟨s', h2⟩ := h1 g k l cc pp st p1 hΓ
  exact ⟨s', h2.imp (fun ⟨r, c1, p1, q, g2⟩ => ⟨r, c1, p1, q, g1.trans g2⟩) fun ⟨v, gs, q, g2⟩ => ⟨v, gs, q, g1.trans g2⟩⟩
theorem sq_wrap {m : Sem α} {K : α → Sem PySem.Fin} {J : Value → Sem PySem.Fin} {gd : Bool → Bool} {lv : List Value → List Value}
    (h : wq M (A.over c fs) m (fun a s' => Sq M A R Y c (K a) fs s') (fun e s' => Sq M A R Y c (J e) fs s') s) : Sq M A R Y c (m.wrap K J gd lv) fs s := by
  intro g k l cc pp st p hΓ
  have hin : (Ctx.of c (fs ++ .gen g k l cc pp :: st)).In (A.over c fs) := by
    rw [Ctx.of_append]
    exact (woken_gen hΓ).over fs
  obtain ⟨p1, s1, h1⟩ := h c (fs ++ .gen g k l cc pp :: st) p K J gd lv hin
  rcases h1 with ⟨a, q, g1⟩ | ⟨e, q, g1⟩
  · obtain ⟨s', h2⟩ := q g k l cc pp st p1 hΓ
    exact ⟨s', h2.imp (fun ⟨r, c1, p1, q, g2⟩ => ⟨r, c1, p1, q, g1.trans g2⟩) fun ⟨v, gs, q, g2⟩ => ⟨v, gs, q, g1.trans g2⟩⟩
  · obtain ⟨s', h2⟩ := q g k l cc pp st p1 hΓ
    exact ⟨s', h2.imp (fun ⟨r, c1, p1, q, g2⟩ => ⟨r, c1, p1, q, g1.trans g2⟩) fun ⟨v, gs, q, g2⟩ => ⟨v, gs, q, g1.trans g2⟩⟩
theorem sq_bind {m : Sem α} {f : α → Sem PySem.Fin} (h : wq M (A.over c fs) m (fun a s' => Sq M A R Y c (f a) fs s') (fun e s' => Sq M A R Y c (.raise e) fs s') s) : Sq M A R Y c (m >>= f) fs s := by
  rw [Sem.bind_eq_wrap']; exact sq_wrap h
theorem sq_bind_wrap {m : Sem α} {f : α → Sem β} {K : β → Sem PySem.Fin} {J : Value → Sem PySem.Fin} {gd : Bool → Bool} {lv : List Value → List Value}
    (h : wq M (A.over c fs) m (fun a s' => Sq M A R Y c ((f a).wrap K J gd lv) fs s') (fun e s' => Sq M A R Y c (J e) fs s') s) : Sq M A R Y c ((m >>= f).wrap K J gd lv) fs s := by
  rw [Sem.bind_eq_wrap', Sem.wrap_wrap]; exact sq_wrap h
theorem sq_at {p' : Pos} {k : Unit → Sem PySem.Fin} (h : Sq M A R Y c (k ()) fs s) : Sq M A R Y c (.at p' k) fs s := Sq.pre (fun _ _ _ => ⟨p', GoH.step (step_at ..)⟩) h
theorem sq_point {l : List Value} {k : Unit → Sem PySem.Fin} (h : Sq M A R Y c (k ()) fs s) : Sq M A R Y c (.point l k) fs s := Sq.pre (fun _ _ p => ⟨p, GoH.step (step_point ..)⟩) h
theorem sq_call {c' : Code} {h : Option Value} {g : Bool} {l : List Value} {k : Result → Sem PySem.Fin} (hc : ∀ p, Sq M A R Y c' (M.den c') (.ret k h g l c p [] :: fs) s) : Sq M A R Y c (.call c' h g l k) fs s := by
  intro g' k' l' cc pp st p hΓ
  obtain ⟨s', h2⟩ := hc p g' k' l' cc pp st p hΓ
  have g1 : GoH M s ⟨.call c' h g l k, c, p, fs ++ .gen g' k' l' cc pp :: st⟩ s ⟨M.den c', c', p, (.ret k h g l c p [] :: fs) ++ .gen g' k' l' cc pp :: st⟩ := GoH.step (step_call ..)
  exact ⟨s', h2.imp (fun ⟨r, c1, p1, q, g2⟩ => ⟨r, c1, p1, q, g1.trans g2⟩) fun ⟨v, gs, q, g2⟩ => ⟨v, gs, q, g1.trans g2⟩⟩
theorem sq_leaf {k : Result → Sem PySem.Fin} {h : Option Value} {g : Bool} {l : List Value} {c₁ : Code} {p₁ : Pos} {kp : List Value} (r : Result) (hk : Sq M A R Y c₁ (k r) fs s) : Sq M A R Y c (leafOf r) (.ret k h g l c₁ p₁ kp :: fs) s :=
  Sq.pre (fun _ _ _ => ⟨p₁, GoH.step (step_leaf_ret ..)⟩) hk
theorem sq_again {c' : Code} (hq : c'.quiet = true) (hc : Sq M A R Y c' (M.den c') fs s) : Sq M A R Y c (.pure (.again c')) fs s :=
  Sq.pre (fun _ _ p => ⟨p, GoH.step (step_again _ _ _ _ _ _ hq)⟩) hc
theorem sq_end (r : Result) (h : R r s) : Sq M A R Y c (leafOf r) [] s := fun _ _ _ _ _ _ p _ => ⟨s, .inl ⟨r, c, p, h, .refl _ _⟩⟩
theorem sq_execs_nil {env : Env} {K : Flow → Sem PySem.Fin} {J : Value → Sem PySem.Fin} {gd : Bool → Bool} {lv : List Value → List Value} (h : Sq M A R Y c (K .next) fs s) : Sq M A R Y c ((execs [] env).wrap K J gd lv) fs s := h
theorem sq_execs_cons {env : Env} {st : Stmt} {rest : List Stmt} {K : Flow → Sem PySem.Fin} {J : Value → Sem PySem.Fin} {gd : Bool → Bool} {lv : List Value → List Value}
    (h : Sq M A R Y c ((exec st env).wrap (fun f => match f with | .next => (execs rest env).wrap K J gd lv | f => K f) J gd lv) fs s) : Sq M A R Y c ((execs (st :: rest) env).wrap K J gd lv) fs s := by
  rw [execs_cons_wrap]; exact h
/-- it sleeps; its closing would show nothing -/
theorem sq_yield {v : Value} {g0 : Bool} {l0 : List Value} {k0 : Resume → Sem PySem.Fin} (hfs : splitAtGen fs = none) (hm : closingShows s fs c g0 = false) (h : ∀ p, Y v s (.suspended k0 l0 c p fs (g0 || fs.any Frame.guarded))) : Sq M A R Y c (.yield v g0 l0 k0) fs s := by
  intro g k l cc pp st p hΓ
  refine ⟨s, .inr ⟨v, _, h p, GoH.one ?_⟩⟩
  have hsp : splitAtGen (fs ++ .gen g k l cc pp :: st) = some (fs, (g, k, cc, pp), st) := by rw [splitAtGen_append_none _ hfs, splitAtGen_gen]; simp
  rw [stepH_ok]
  · show PySem.step M.den M.prog M.w s ⟨.yield v g0 l0 k0, c, p, fs ++ .gen g k l cc pp :: st⟩ = _
    simp only [PySem.step, hsp]
    rfl
  · unfold okH
    have e : mild s ⟨.yield v g0 l0 k0, c, p, fs ++ .gen g k l cc pp :: st⟩ = true := by simp [mild, hsp, hm]
    rw [e, Bool.or_true]
end
section
variable {α : Type} {M : Model} {A : Around} {R : Result → Shared → Prop} {Y : Value → Shared → GenState → Prop} {s : Shared} {g : Nat} {l : List Value} {k : GenResult → Sem α} {Q : α → Shared → Prop} {E : Value → Shared → Prop}
theorem wq_resumeT {t : Sem PySem.Fin} {c₀ : Code} {fs : List Frame} {s1 : Shared} {r : Resume} (hstep : ∀ (K : GenResult → Sem PySem.Fin) (l : List Value) (c : Code) (st : List Frame) (p : Pos), ∃ p₀, GoH M s ⟨.resume g r l K, c, p, st⟩ s1 ⟨t, c₀, p₀, fs ++ .gen g K l c p :: st⟩)
    (h : Sq M A R Y c₀ t fs s1) (hR : ∀ r s', R r s' → wq M A (k (End.ret r).result) Q E (s'.setGen g .finished)) (hY : ∀ v s' gs, Y v s' gs → wq M A (k (.yielded v)) Q E (s'.setGen g gs)) : wq M A (.resume g r l k) Q E s := by
  intro c st p K J gd lv hΓ
  obtain ⟨p₀, g0⟩ := hstep (fun x => (k x).wrap K J gd lv) (lv l) c st p
  obtain ⟨s', h1⟩ := h g (fun x => (k x).wrap K J gd lv) (lv l) c p st p₀ hΓ
  rcases h1 with ⟨r1, c1, p1, q, g1⟩ | ⟨v, gs, q, g1⟩
  · exact Res.pre (g0.trans (g1.trans (GoH.step (step_leaf_gen ..)))) (hR r1 s' q c st p K J gd lv hΓ)
  · exact Res.pre (g0.trans g1) (hY v s' gs q c st p K J gd lv hΓ)
theorem wq_resumeF {c₀ : Code} (hg : s.gens[g]? = some (.fresh c₀)) (h : Sq M A R Y c₀ (M.den c₀) [] (s.setGen g .running)) (hR : ∀ r s', R r s' → wq M A (k (End.ret r).result) Q E (s'.setGen g .finished)) (hY : ∀ v s' gs, Y v s' gs → wq M A (k (.yielded v)) Q E (s'.setGen g gs)) :
    wq M A (.resume g (.send .none) l k) Q E s := wq_resumeT (fun K l c st p => ⟨p, GoH.step (step_resume_fresh _ _ _ _ _ _ _ hg)⟩) h hR hY
theorem wq_resumeS {k₀ : Resume → Sem PySem.Fin} {l₀ : List Value} {c₀ : Code} {p₀ : Pos} {fs : List Frame} {cl : Bool} {r : Resume} (hg : s.gens[g]? = some (.suspended k₀ l₀ c₀ p₀ fs cl)) (h : Sq M A R Y c₀ (k₀ r) fs (s.setGen g .running)) (hR : ∀ r s', R r s' → wq M A (k (End.ret r).result) Q E (s'.setGen g .finished)) (hY : ∀ v s' gs, Y v s' gs → wq M A (k (.yielded v)) Q E (s'.setGen g gs)) :
    wq M A (.resume g r l k) Q E s := wq_resumeT (fun K l c st p => ⟨p₀, GoH.step (step_resume_suspended _ _ _ _ _ _ _ _ hg)⟩) h hR hY
end
end BgQ
set_option Elab.async false
set_option linter.all false
set_option maxRecDepth 100000
set_option maxHeartbeats 4000000
namespace BgT
open PySem PySem.Spec PyProof.Rows L2 GenW
/-! ### for, within a generator (nothing raises) -/
section
variable {P : Program} {w : World} {A : Around} {R : GenEnd} {Y : Protocol} {n : Nat} {s₀ s : Shared} {fs : List Frame} {env : Env} {target iter : Expr} {body : List Stmt} {it : Value}
abbrev forHd (body : List Stmt) (env : Env) (e : Value) : Sem PySem.Fin := (do noteFrame e env; theTreesLotGoes e : Sem Unit).wrap (fun _ => .raise e) .raise id id
theorem segw_mono {α : Type} {m : Sem α} {M : Model} {B : Around} {Q : α → Shared → Prop} {E : Value → Shared → Prop} (h : wpAny M B m Q (fun _ _ => False) s) : wpAny M B m Q E s := wpAny_mono h (fun _ _ x => x) fun _ _ x => x.elim
theorem seg_forLoop
    (h : wpAny (model P w) (A.over (.forLoop target it body [] env) fs) (pyNext it) (fun r s1 => match r with
      | none => Seg (model P w) A R Y n s₀ (.block [] env) ((model P w).den (.block [] env)) fs s1
      | some v => wpAny (model P w) (A.over (.forLoop target it body [] env) fs) (letOwnedTupleGo target it v) (fun _ s2 => wpAny (model P w) (A.over (.forLoop target it body [] env) fs) (assign target env v) (fun _ s3 =>
          Seg (model P w) A R Y n s₀ (.forLoop target it body [] env) ((execs body env).wrap (fun f => match f with
            | .next | .cont => .pure (.again (.forLoop target it body [] env))
            | .brk => .pure (.done .next)
            | .ret v => .pure (.done (.ret v))) (forHd body env) id id) fs s3) (fun _ _ => False) s2) (fun _ _ => False) s1) (fun _ _ => False) s) :
    Seg (model P w) A R Y n s₀ (.forLoop target it body [] env) ((model P w).den (.forLoop target it body [] env)) fs s := by
  show Seg _ A R Y n s₀ _ ((forTurn target it body [] env).onRaise (fun x => do noteFrame x env; theTreesLotGoes x)) fs s
  unfold forTurn
  rw [Sem.onRaise_eq_wrap]
  refine seg_bind_wrap (wpAny_standAt ?_)
  refine seg_bind_wrap (wpAny_onRaise (wpAny_mono h (fun r s1 h1 => ?_) fun _ _ x => x.elim))
  cases r with
  | none => exact seg_again rfl h1
  | some v =>
    refine seg_bind_wrap (wpAny_mono h1 (fun _ s2 h2 => ?_) fun _ _ x => x.elim)
    refine seg_bind_wrap (wpAny_mono h2 (fun _ s3 h3 => ?_) fun _ _ x => x.elim)
    rw [Sem.bind_eq_wrap', Sem.wrap_wrap]
    rw [Sem.wrap_congr (execs body env) _ _ (K' := fun f => match f with
            | .next | .cont => .pure (.again (.forLoop target it body [] env))
            | .brk => .pure (.done .next)
            | .ret v => .pure (.done (.ret v))) (H' := forHd body env)
        (fun f => by cases f <;> rfl)
        (fun e => by first | exact Sem.bind_eq_wrap _ _ | (show (do noteFrame e env; theTreesLotGoes e : Sem Unit).bind (fun _ => .raise e) = _; rw [Sem.bind_eq_wrap]))]
    exact h3
end
section
variable {P : Program} {w : World} {A : Around} {R : GenEnd} {Y : Protocol} {n : Nat} {s₀ s : Shared} {c : Code} {fs : List Frame} {env : Env} {target iter : Expr} {body : List Stmt} {pos : Pos} {K : Flow → Sem PySem.Fin} {J : Value → Sem PySem.Fin} {gd : Bool → Bool} {lv : List Value → List Value}
abbrev forK (env : Env) (K : Flow → Sem PySem.Fin) (J : Value → Sem PySem.Fin) (gd : Bool → Bool) (lv : List Value → List Value) : Result → Sem PySem.Fin := fun r => ((match r with | .ok f => (.pure f : Sem Flow) | .error e => .raise e).onRaise (cameBack env)).wrap K J gd lv
theorem seg_For (hs : ∀ x, foldedSetIterable iter env x = pure x)
    (h : wpAny (model P w) (A.over c fs) (eval iter env) (fun x s1 => wpAny (model P w) (A.over c fs) (pyIter x) (fun it s2 => ∀ p, Seg (model P w) A R Y n s₀ (.forLoop target it body [] env) ((model P w).den (.forLoop target it body [] env)) (.ret (forK env K J gd lv) none (gd false) (lv []) c p [] :: fs) s2) (fun _ _ => False) s1) (fun _ _ => False) s) :
    Seg (model P w) A R Y n s₀ c ((exec (.For target iter body [] pos) env).wrap K J gd lv) fs s := by
  rw [arm_exec_For]
  refine seg_bind_wrap (wpAny_standAt ?_)
  refine seg_bind_wrap (wpAny_mono h (fun x s1 h1 => ?_) fun _ _ z => z.elim)
  rw [hs]
  refine seg_bind_wrap (wpAny_pure ?_)
  refine seg_bind_wrap (wpAny_standAt ?_)
  refine seg_bind_wrap (wpAny_holding (wpAny_mono h1 (fun it s2 h2 => ?_) fun _ _ z => z.elim))
  exact seg_call h2
end
end BgT
set_option Elab.async false
set_option linter.all false
set_option maxRecDepth 100000
set_option maxHeartbeats 4000000
namespace BgT
open PySem PySem.Spec PyProof.Rows L2 GenW
/-! ### readings in raw states -/
structure FR (K : PySem.W.Frag) (mg : Str → Option Value) (base : Heap) (env : Env) : Prop where
  mod : Mod K mg base
  kind : env.scope.kind = .function
  glob : env.globals = mainGlobals
  blt : env.builtins = builtinsNs
abbrev BK (base h : Heap) : Prop := ∀ b o, base.get? b = some o → h.get? b = some o
/-- nothing is lost -/
structure Gro (s s' : Shared) : Prop where
  os : s'.os = s.os
  gens : s'.gens = s.gens
  keep : ∀ b o, s.heap.get? b = some o → s'.heap.get? b = some o
theorem Gro.refl (s : Shared) : Gro s s := ⟨rfl, rfl, fun _ _ e => e⟩
theorem Gro.trans {a b c : Shared} (x : Gro a b) (y : Gro b c) : Gro a c := ⟨y.os.trans x.os, y.gens.trans x.gens, fun b o e => y.keep b o (x.keep b o e)⟩
theorem Gro.tok (s : Shared) (t : Nat) : Gro s { s with toks := t } := ⟨rfl, rfl, fun _ _ e => e⟩
theorem Gro.push (s : Shared) (o : Obj) : Gro s { s with heap := s.heap.push o } := ⟨rfl, rfl, fun _ _ e => Heap.get?_push_of_some _ e⟩
section
variable {P : Program} {w : World} {K : PySem.W.Frag} {mg : Str → Option Value} {base : Heap} {B : Around} {env : Env} {E : Value → Shared → Prop} {s : Shared} {m : Str → Option Value}
theorem rw_name {x : Str} {pos : Pos} {u : Value} {Q : Value → Shared → Prop} (F : FR K mg base env) (hk : env.kindOf x = some .local) (hn : s.heap.Ns env.locals m) (hm : m x = some u) (h : Q u s) (hd : (x == ("__debug__" : Str)) = false := by decide) :
    wpAny (model P w) B (eval (.Name x pos) env) Q E s := wpAny_Name (wpAny_loadName_local F.kind hk hn hm h) hd
theorem rw_glob {x : Str} {pos : Pos} {u : Value} {Q : Value → Shared → Prop} (F : FR K mg base env) (hk : env.kindOf x = some .globalImplicit) (bk : BK base s.heap) (hm : mg x = some u) (h : Q u s) (hd : (x == ("__debug__" : Str)) = false := by decide) :
    wpAny (model P w) B (eval (.Name x pos) env) Q E s := Calls.Name_function_global F.kind hk (Calls.loadGlobal_global (by rw [F.glob]; exact F.mod.glob.keeps bk) hm h) hd
theorem rw_blt {x : Str} {pos : Pos} {u : Value} {Q : Value → Shared → Prop} (F : FR K mg base env) (hk : env.kindOf x = some .globalImplicit) (bk : BK base s.heap) (hm : mg x = none) (hv : bootBuiltins x = some u) (h : Q u s) (hn : x ≠ "__name__" := by decide) (hd : (x == ("__debug__" : Str)) = false := by decide) :
    wpAny (model P w) B (eval (.Name x pos) env) Q E s := by
  obtain ⟨mb, h1, h2⟩ := F.mod.blt
  exact Calls.Name_function_global F.kind hk (Calls.loadGlobal_builtin (by rw [F.glob]; exact F.mod.glob.keeps bk) hm (by rw [F.blt]; exact h1.keeps bk) ((h2 x hn).trans hv) h) hd
theorem rw_len0 {x : Str} {p1 p2 p3 p4 p5 : Pos} {k} {t : Addr} {its : Array Value} {Q : Bool → Shared → Prop} (F : FR K mg base env) (hl : env.kindOf "len" = some .globalImplicit) (bk : BK base s.heap) (hml : mg "len" = none) (hk : env.kindOf x = some .local) (hn : s.heap.Ns env.locals m) (hm : m x = some (.ref t)) (ht : IsTup s.heap t its) (hz : its.size ≤ sizeLine)
    (hd : (x == ("__debug__" : Str)) = false) (h : ∀ tk, Q ((its.size : Int) == 0) { s with toks := tk }) :
    wpAny (model P w) B (isTrue (.Compare (.Call (.Name "len" p1) [.Name x p2] [] p3) [.Eq] [.Constant (.int 0) k p4] p5) env (eval (.Compare (.Call (.Name "len" p1) [.Name x p2] [] p3) [.Eq] [.Constant (.int 0) k p4] p5) env)) Q E s := by
  have hn63 := line63
  refine wpAny_isTrue_Compare1 (wpAny_Call_Name_kw (rw_blt F hl bk hml PySem.boot_len (PyProof.Rows.callWith_builtin1 (args_cons (rw_name F hk hn hm (args_nil ?_) hd) (by rfl)) (by rfl) (by rfl)))) (by rfl)
  refine len_tuple ht (by omega) ?_
  refine wpAny_Constant_int ?_
  exact eq_int (wpAny_truthy_bool (h _))
theorem rw_ix0 {x : Str} {p1 p2 p3 : Pos} {k} {t : Addr} {its : Array Value} {u : Value} {Q : Value → Shared → Prop} (F : FR K mg base env) (hk : env.kindOf x = some .local) (hn : s.heap.Ns env.locals m) (hm : m x = some (.ref t)) (ht : IsTup s.heap t its) (hz : its.size ≤ sizeLine) (hu : its[0]? = some u)
    (hd : (x == ("__debug__" : Str)) = false) (h : ∀ tk, Q u { s with toks := tk }) :
    wpAny (model P w) B (eval (.Subscript (.Name x p1) (.Constant (.int 0) k p2) p3) env) Q E s := by
  refine Subscript_ (rw_name F hk hn hm (wpAny_Constant_int ?_) hd)
  have ht' : IsTup ({ s with toks := s.toks + 1 } : Shared).heap t its := ht
  have h0 : 0 < its.size := (Array.getElem?_eq_some_iff.mp hu).1
  exact subscriptTail_builtinR (x := u) ht'.typeIs slot_tuple_getitem.lookup (getItem_tuple (j := 0) (Q := fun r s' => r = u ∧ Q r s') ht' (by omega) (by omega) (by simp [seqIndex?, h0]) hu ⟨rfl, h _⟩)
theorem rw_rest {x : Str} {p1 p2 p3 p4 : Pos} {k} {t : Addr} {u : Value} {us : List Value} {Q : Value → Shared → Prop} (F : FR K mg base env) (hk : env.kindOf x = some .local) (hn : s.heap.Ns env.locals m) (hm : m x = some (.ref t)) (ht : IsTup s.heap t (u :: us).toArray) (hz : (u :: us).length ≤ sizeLine)
    (hd : (x == ("__debug__" : Str)) = false) (h : ∀ s' a, Gro s s' → IsTup s'.heap a us.toArray → Q (.ref a) s') :
    wpAny (model P w) B (eval (.Subscript (.Name x p1) (.Slice (some (.Constant (.int 1) k p2)) none none p3) p4) env) Q E s := by
  refine Subscript_ (rw_name F hk hn hm ?_ hd)
  refine wpAny_Slice ?_
  rw [evalPart_some]
  refine wpAny_Constant_int ?_
  rw [evalPart_none]
  refine wpAny_pure ?_
  refine wpAny_pure ?_
  generalize hs1 : ({ s with toks := s.toks + 1, heap := s.heap.push { cls := .type "slice", data := .fields #[.int 1 s.toks, .none, .none] } } : Shared) = s1
  have g1 : Gro s s1 := by rw [← hs1]; exact ⟨rfl, rfl, fun _ _ e => Heap.get?_push_of_some _ e⟩
  have ht1 : IsTup s1.heap t (u :: us).toArray := by obtain ⟨o, e, r⟩ := ht; exact ⟨o, g1.keep _ _ e, r⟩
  have hsl : s1.heap.IsSliceOf s.heap.objs.size (.int 1 s.toks) .none .none := by rw [← hs1]; exact Heap.IsSliceOf.new ..
  refine PyProof.Rows.tail_any (ops := [.ref s.heap.objs.size, .ref t]) ht1.typeIs PyProof.Rows.slot_tuple_getitem.lookup ?_ (by with_unfolding_all rfl)
  have hlen : (u :: us).toArray.size = us.length + 1 := by simp
  have e1 : HT.sIx (us.length + 1) 0 (some (1 : Int)) = 1 := by
    have := HT.sIx_nat (us.length + 1) 0 1
    rw [show ((1 : Nat) : Int) = 1 from rfl] at this
    rw [this]; omega
  refine HT.getItem_tuple_cut ht1 hsl (.int 1 _) .none (by rw [hlen, e1]; omega) ?_ (by rw [hlen]; exact hz)
  rw [hlen, e1, HT.sIx_none]
  refine h _ _ (g1.trans (Gro.push s1 _)) ?_
  have e2 : ((u :: us).toArray.toList.drop 1).take (us.length + 1 - 1) = us := by simp
  rw [e2]
  exact IsTup.new _ _
theorem rw_unit {p : Pos} {k} {Q : Value → Shared → Prop} (h : ∀ s' a, Gro s s' → s.heap.objs.size ≤ a → IsTup s'.heap a ([] : List Value).toArray → Q (.ref a) s') : wpAny (model P w) B (eval (.Tuple [] k p) env) Q E s := by
  refine wpAny_Tuple_spliced (args_nil ⟨by show 0 ≤ sizeLine; decide, ?_⟩)
  exact h _ _ (Gro.push s _) (Nat.le_refl _) (IsTup.new _ _)
theorem rw_pair {x y : Str} {p1 p2 p3 p4 : Pos} {k} {r : Addr} {u : Value} {us : List Value} {Q : Value → Shared → Prop} (F : FR K mg base env) (hkx : env.kindOf x = some .local) (hky : env.kindOf y = some .local) (hn : s.heap.Ns env.locals m) (hx : m x = some u) (hy : m y = some (.ref r)) (hr : IsTup s.heap r us.toArray) (hz : us.length < sizeLine)
    (hdx : (x == ("__debug__" : Str)) = false) (hdy : (y == ("__debug__" : Str)) = false) (h : ∀ s' a, Gro s s' → s.heap.objs.size ≤ a → IsTup s'.heap a (u :: us).toArray → Q (.ref a) s') :
    wpAny (model P w) B (eval (.BinOp (.Tuple [.Name x p1] k p2) .Add (.Name y p3) p4) env) Q E s := by
  refine wpAny_BinOp (wpAny_Tuple_spliced (args_cons (rw_name F hkx hn hx (args_nil ⟨by show 1 ≤ sizeLine; decide, ?_⟩) hdx) (by rfl)))
  generalize hs1 : ({ s with heap := s.heap.push { cls := .type "tuple", data := .seq [u].toArray } } : Shared) = s1
  have g1 : Gro s s1 := by rw [← hs1]; exact Gro.push s _
  have t1 : IsTup s1.heap s.heap.objs.size [u].toArray := by rw [← hs1]; exact IsTup.new _ _
  have hr1 : IsTup s1.heap r us.toArray := by obtain ⟨o, e, q⟩ := hr; exact ⟨o, g1.keep _ _ e, q⟩
  refine rw_name F hky (hn.keeps g1.keep) hy ?_ hdy
  refine HT.cat_tup t1 hr1 (by simp) (fun e => ?_) (fun _ => ?_) (by simp; omega)
  · subst e; exact h _ _ g1 (Nat.le_refl _) t1
  · exact h _ _ (g1.trans (Gro.push s1 _)) (by rw [← hs1]; show s.heap.objs.size ≤ (s.heap.push _).objs.size; rw [Heap.size_push]; exact Nat.le_succ _) (IsTup.new _ _)
end
/-- a call of a generator def with one parameter -/
def GMr (qual : Str) (scope : Scope) (body : List Stmt) (f : Addr) (y : Str) (s : Shared) (v u : Value) (s' : Shared) : Prop :=
  ∃ (a : Addr) (cdv : Value) (m : Str → Option Value), u = .ref a ∧ s.heap.objs.size < a ∧ s'.heap.objs.size = a + 1 ∧ s'.heap.IsGen a s.gens.size ∧ s'.gens = s.gens.push (.fresh (.func body (envOfC qual scope s.heap.objs.size f cdv))) ∧ s'.os = s.os ∧
    (∀ b o, s.heap.get? b = some o → s'.heap.get? b = some o) ∧ s'.heap.Ns s.heap.objs.size m ∧ m y = some v
theorem gmr_of {P : Program} {w : World} {K : PySem.W.Frag} {x qual : Str} {params : Arguments} {body : List Stmt} {scope : Scope} {dvs : List V} {kws : List (Str × V)} {f : Addr} {fd : FuncData} {N : List Str} {y : Str} (F : FunD K x qual params body scope dvs kws f fd) (S : GScope N [y] scope) (hys : scope.names.lookup y = some .local)
    {A : Around} {s : Shared} {args : Args} {u : Value} (hroom : A.depth < recursionLimit) (KX : K.In s.heap) (lim : s.heap.NoLimit) (hb : BindsTo s fd args ([y].zip [u])) :
    codeAny (model P w) A (.call (.ref f) args) (fun r s' => match r with | .ok (.ret v) => GMr qual scope body f y s u v s' | _ => False) s := by
  obtain ⟨oc, od, dV, kV, doc, pm, an, cdv, ct, osl, rfl, lk, hcd, _, _⟩ := F.ex
  have hkind : ∀ z ∈ [y].zip [u], scope.names.lookup z.1 = some .local ∨ (scope.names.lookup z.1 = some .cell ∧ ((cellsFrom (s.heap.objs.size + 1) scope.names []).lookup z.1).isSome = true) := by
    rintro ⟨n, v⟩ hz
    simp at hz
    obtain ⟨rfl, rfl⟩ := hz
    exact .inl hys
  refine codeAny_call_generator hroom (KX _ _ lk) rfl S.co S.gen rfl (PySem.W.codeRec_of KX hcd) (hb _ _ _ _ (wpAny_newFunctionEnv_cells S.kind hkind fun env he s1 z => ?_))
  subst he
  obtain ⟨h1, tk, es1, hk1⟩ := z.done
  have kp1 : ∀ b o, s.heap.get? b = some o → s1.heap.get? b = some o := z.toInCall.keep
  refine ⟨lim.keeps kp1, ?_⟩
  have gen1 : s1.gens = s.gens := by rw [es1]
  have hns : s1.heap.Ns s.heap.objs.size _ := z.toInCall.ns
  have hnn : (bindL (Env.kindOf (envOfC qual scope s.heap.objs.size f cdv)) ([y].zip [u]) fun _ => none) y = some u := bindL_get (P := [y]) (vs := [u]) (i := 0) (by simp) rfl rfl hys
  refine ⟨s1.heap.objs.size, cdv, _, rfl, z.toInCall.ns.lt, Heap.size_push .., ?_, by rw [← gen1]; rfl, by rw [es1], fun b o e => Heap.get?_push_of_some _ (kp1 b o e), hns.keeps (fun b o e => Heap.get?_push_of_some _ e), hnn⟩
  rw [← gen1]
  exact ⟨_, _, _, Heap.get?_push_size _ rfl, rfl, rfl, rfl⟩
theorem rw_gen {P : Program} {w : World} {K : PySem.W.Frag} {mg : Str → Option Value} {base : Heap} {B : Around} {env : Env} {E : Value → Shared → Prop} {s : Shared} {m : Str → Option Value} {g xx qual : Str} {params : Arguments} {body : List Stmt} {scope : Scope} {f : Addr} {N : List Str} {y x : Str} {u : Value} {p1 p2 p3 : Pos} {Q : Value → Shared → Prop}
    (F : FR K mg base env) (FF : FunD K xx qual params body scope [] [] f (fdOf K f)) (S : GScope N [y] scope) (hys : scope.names.lookup y = some .local) (hb : Binds K (fdOf K f) [y] []) (hroom : B.depth < recursionLimit) (hg : env.kindOf g = some .globalImplicit) (hgd : (g == ("__debug__" : Str)) = false) (bk : BK base s.heap) (hmg : mg g = some (.ref f))
    (hk : env.kindOf x = some .local) (hd : (x == ("__debug__" : Str)) = false) (hn : s.heap.Ns env.locals m) (hm : m x = some u) (h : ∀ v s', GMr qual scope body f y s u v s' → Q v s') :
    wpAny (model P w) B (eval (.Call (.Name g p1) [.Name x p2] [] p3) env) Q E s := by
  have KX : K.In s.heap := F.mod.kin.keeps bk
  refine wpAny_Call_Name_kw (rw_glob F hg bk hmg ?_ hgd)
  refine PySem.W.callWith_K (h₀ := base) F.mod.kin FF.kp (args_cons (rw_name F hk hn hm (args_nil ⟨KX, ?_⟩) hd) (by rfl)) (by rfl) (by rfl)
  refine wpAny_call (codeAny_mono (gmr_of FF S hys hroom KX (F.mod.nolimit.keeps bk) (hb s [u] KX rfl)) fun r s' hq => ?_)
  cases r with
  | error e => exact False.elim hq
  | ok fl =>
    cases fl with
    | ret v => exact h v s' hq
    | next => exact False.elim hq
    | brk => exact False.elim hq
    | cont => exact False.elim hq
end BgT
set_option Elab.async false
set_option linter.all false
set_option maxRecDepth 100000
set_option maxHeartbeats 4000000
namespace BgT
open PySem PySem.Spec PyProof.Rows L2 GenW
/-! ### the protocol of choices, in raw states -/
def chV : List (List Value) → List (List Value)
  | [] => [[]]
  | D :: W => D.flatMap fun c => (chV W).map (c :: ·)
def TupO (o : Obj) : Prop := ∃ its n, o.cls = .type "tuple" ∧ o.data = .seq its n
theorem tup_keep {h h' : Heap} {t : Addr} {its : Array Value} (x : IsTup h t its) (k : ∀ b o, TupO o → h.get? b = some o → h'.get? b = some o) : IsTup h' t its := by
  obtain ⟨o, e, c, n, d⟩ := x
  exact ⟨o, k _ _ ⟨its, n, c, d⟩ e, c, n, d⟩
/-- a tuple of such tuples -/
def PartsT (h : Heap) (pa : Addr) (W : List (List Value)) : Prop := ∃ ps : List Addr, IsTup h pa (ps.map Value.ref).toArray ∧ Paired (fun p (D : List Value) => IsTup h p D.toArray) ps W
theorem PartsT.keep {h h' : Heap} {pa : Addr} {W : List (List Value)} (x : PartsT h pa W) (k : ∀ b o, TupO o → h.get? b = some o → h'.get? b = some o) : PartsT h' pa W := by
  obtain ⟨ps, t, p⟩ := x
  exact ⟨ps, tup_keep t k, Paired.mapP p fun _ _ z => tup_keep z k⟩
/-- while it sleeps -/
structure KeepC (base : Heap) (lo a : Nat) (gg : Nat) (s s2 : Shared) : Prop where
  os : s2.os = s.os
  bare : AllBare s2.gens
  bk : BK base s2.heap
  tup : ∀ b o, TupO o → s.heap.get? b = some o → s2.heap.get? b = some o
  own : ∀ (b : Nat) o, lo ≤ b → b ≠ a → s.heap.get? b = some o → s2.heap.get? b = some o
  gens : ∀ i x, gg ≤ i → s.gens[i]? = some x → s2.gens[i]? = some x
  gsz : s.gens.size ≤ s2.gens.size
/-- while it runs -/
structure ChgC (lo a : Nat) (s₀ s : Shared) : Prop where
  os : s.os = s₀.os
  bare : AllBare s.gens
  keep : ∀ (b : Nat) o, (b < lo ∨ b = a ∨ TupO o) → s₀.heap.get? b = some o → s.heap.get? b = some o
  gsz : s₀.gens.size ≤ s.gens.size
theorem ChgC.refl {lo a : Nat} {s : Shared} (h : AllBare s.gens) : ChgC lo a s s := ⟨rfl, h, fun _ _ _ e => e, Nat.le_refl _⟩
theorem ChgC.trans {lo a : Nat} {x y z : Shared} (p : ChgC lo a x y) (q : ChgC lo a y z) : ChgC lo a x z := ⟨q.os.trans p.os, q.bare, fun b o h e => q.keep b o h (p.keep b o h e), Nat.le_trans p.gsz q.gsz⟩
theorem ChgC.gro {lo a : Nat} {x y z : Shared} (p : ChgC lo a x y) (q : Gro y z) : ChgC lo a x z := ⟨q.os.trans p.os, by rw [q.gens]; exact p.bare, fun b o h e => q.keep b o (p.keep b o h e), by rw [q.gens]; exact p.gsz⟩
/-- a part of it: an inner generator's turn -/
theorem ChgC.inner {lo a li ai : Nat} {x y z : Shared} (p : ChgC lo a x y) (q : ChgC li ai y z) (hl : lo ≤ li) (ha : a < li) : ChgC lo a x z :=
  p.trans ⟨q.os, q.bare, fun b o h e => q.keep b o (h.elim (fun z => .inl (Nat.lt_of_lt_of_le z hl)) fun z => z.elim (fun z => .inl (by rw [z]; exact ha)) fun z => .inr (.inr z)) e, q.gsz⟩
/-- an own object that is no tuple is written -/
theorem ChgC.write {lo a b0 : Nat} {x y z : Shared} {o0 : Obj} (p : ChgC lo a x y) (h0 : lo ≤ b0) (h1 : b0 ≠ a) (e0 : y.heap.get? b0 = some o0) (n0 : ¬ TupO o0) (os : z.os = y.os) (g : z.gens = y.gens) (k : ∀ (b : Nat) o, b ≠ b0 → y.heap.get? b = some o → z.heap.get? b = some o) : ChgC lo a x z :=
  p.trans ⟨os, by rw [g]; exact p.bare, fun b o h e => k b o (fun q => by
    subst q
    rw [e0] at e; cases e
    rcases h with h | h | h
    · exact Nat.lt_irrefl _ (Nat.lt_of_lt_of_le h h0)
    · exact h1 h
    · exact n0 h) e, by rw [g]; exact Nat.le_refl _⟩
abbrev FC (lo a : Nat) : Nat → Shared → Shared → Prop := fun n s₀ s => n = 0 ∧ ChgC lo a s₀ s
abbrev RC (lo a : Nat) : GenEnd := fun n s₀ r s₁ => r = .ok (.ret .none) ∧ FC lo a n s₀ s₁
def YC (base : Heap) (lo a : Nat) (g : Nat) (W : List (List Value)) : Protocol := fun n s₀ v s kap => ∃ pre x post t, chV W = pre ++ x :: post ∧ post.length = n ∧ v = .ref t ∧ lo ≤ t ∧ IsTup s.heap t x.toArray ∧ ChgC lo a s₀ s ∧ ∀ s2, KeepC base lo a (g + 1) s s2 → kap (.send .none) s2
/-- ready: R is still to come -/
structure ChR (P : Program) (w : World) (A : Around) (base : Heap) (a : Nat) (g : Nat) (lo : Nat) (W R : List (List Value)) (s : Shared) : Prop where
  suf : ∃ pre, chV W = pre ++ R
  gen : GenAt s.heap a g
  st : ∃ gs, s.gens[g]? = some gs ∧ gs.Goes (model P w) A.in1 (RC lo a) (YC base lo a g W) R.length (.send .none) (s.setGen g .running)
theorem setGen_ne {s : Shared} {g i : Nat} {x : GenState} (h : i ≠ g) : (s.setGen g x).gens[i]? = s.gens[i]? := by
  show (s.gens.setIfInBounds g x)[i]? = _
  rw [Array.getElem?_setIfInBounds_ne (Ne.symm h)]
section
variable {P : Program} {w : World} {A : Around} {base : Heap} {a : Nat} {g : Nat} {lo : Nat} {W R : List (List Value)} {s : Shared} {E : Value → Shared → Prop} {Q : Option Value → Shared → Prop}
theorem ch_core (hh : A.handled = none) (hroom : A.depth < recursionLimit) (hl : s.heap.NoLimit) (bk : BK base s.heap) (hbl : base.objs.size ≤ lo) (hR : ChR P w A base a g lo W R s)
    (h1 : ∀ x R' t s', R = x :: R' → lo ≤ t → IsTup s'.heap t x.toArray → ChgC lo a s s' → (∀ s2, KeepC base lo a g s' s2 → GenAt s2.heap a g → ChR P w A base a g lo W R' s2) → Q (some (.ref t)) s')
    (h2 : ∀ e s', R = [] → StopX e s'.heap → ChgC lo a s s' → E e s') : wpAny (model P w) A (callSpecial? (.ref a) "__next__") Q E s := by
  obtain ⟨⟨pre, hpre⟩, hg, gs, hgs, hgo⟩ := hR
  have hgl : g < s.gens.size := (Array.getElem?_eq_some_iff.mp hgs).1
  have bk1 : ∀ {s₁ : Shared}, ChgC lo a (s.setGen g .running) s₁ → BK base s₁.heap := fun {s₁} C b o e => C.keep b o (.inl (Nat.lt_of_lt_of_le (Heap.lt_size e) hbl)) (bk b o e)
  have szr : (s.setGen g .running).gens.size = s.gens.size := setGen_size _ _ _
  refine wake_gen hh hl hroom hg hgs hgo (fun v s₁ gs' hb hv => ?_) (fun s₁ hF e h' hS hk => ?_)
  · obtain ⟨pre', x, post, t, e1, e2, rfl, hlt, ht, C, hk⟩ := hv
    cases R with
    | nil => exact (hk s₁ ⟨rfl, C.bare, bk1 C, fun _ _ _ e => e, fun _ _ _ _ e => e, fun _ _ _ e => e, Nat.le_refl _⟩).elim
    | cons y R' =>
      have e2 : post.length = R'.length := e2
      have hk : ∀ s2, KeepC base lo a (g + 1) s₁ s2 → gs'.Goes (model P w) A.in1 (RC lo a) (YC base lo a g W) R'.length (.send .none) s2 := hk
      obtain ⟨rfl, e4⟩ := List.append_inj' (hpre.symm.trans e1) (by simp [e2])
      cases e4
      have g1 : g < s₁.gens.size := Nat.lt_of_lt_of_le (by rw [szr]; exact hgl) C.gsz
      have sz1 : (s₁.setGen g gs').gens.size = s₁.gens.size := setGen_size _ _ _
      refine h1 x post t _ rfl hlt ht ⟨C.os, allBare_setGen C.bare hb, C.keep, ?_⟩ fun s2 k hg2 => ⟨⟨pre ++ [x], by rw [hpre]; simp⟩, hg2, gs', k.gens g gs' (Nat.le_refl _) (setGen_at g1), hk (s2.setGen g .running) ⟨k.os, allBare_setGen k.bare rfl, k.bk, k.tup, k.own, fun i x hi e => ?_, ?_⟩⟩
      · have := C.gsz
        omega
      · have hne : i ≠ g := by omega
        rw [setGen_ne hne]
        exact k.gens i x (by omega) (by rw [setGen_ne hne]; exact e)
      · have h3 := k.gsz
        have h4 : (s2.setGen g .running).gens.size = s2.gens.size := setGen_size _ _ _
        omega
  · obtain ⟨h0, C⟩ := hF
    refine h2 e _ (List.length_eq_zero_iff.mp h0) hS ⟨C.os, allBare_setGen C.bare rfl, fun b o h e => hk b o (C.keep b o h e), ?_⟩
    have h3 := C.gsz
    have h4 : (s₁.setGen g .finished).gens.size = s₁.gens.size := setGen_size _ _ _
    show s.gens.size ≤ (s₁.setGen g .finished).gens.size
    omega
theorem ch_next (hh : A.handled = none) (hroom : A.depth < recursionLimit) (hl : s.heap.NoLimit) (bk : BK base s.heap) (hbl : base.objs.size ≤ lo) (hR : ChR P w A base a g lo W R s)
    (h1 : ∀ x R' t s', R = x :: R' → lo ≤ t → IsTup s'.heap t x.toArray → ChgC lo a s s' → (∀ s2, KeepC base lo a g s' s2 → GenAt s2.heap a g → ChR P w A base a g lo W R' s2) → Q (some (.ref t)) s')
    (h2 : ∀ s', R = [] → ChgC lo a s s' → Q none s') : wpAny (model P w) A (pyNext (.ref a)) Q E s := by
  unfold pyNext
  refine wpAny_bind (wpAny_attempt (ch_core hh hroom hl bk hbl hR (fun x R' t s' e hlt ht C k => wpAny_pure (h1 x R' t s' e hlt ht C k)) fun e s' hr hS C => ?_))
  obtain ⟨x, o, us, rfl, hox, hcls, _⟩ := hS
  exact wpAny_bind (wpAny_isInstance (T := "StopIteration") (b := true) ⟨o, hox, hcls⟩ isSubtype_stop (wpAny_pure (h2 s' hr C)))
end
end BgT
set_option Elab.async false
set_option linter.all false
set_option maxRecDepth 100000
set_option maxHeartbeats 4000000
namespace BgT
open PySem PySem.Spec PyProof.Rows L2 GenW
section
variable {M : Model} {A : Around} {R : GenEnd} {Y : Protocol} {n : Nat} {s₀ s : Shared} {c : Code} {fs : List Frame} {env : Env} {K : Flow → Sem PySem.Fin} {J : Value → Sem PySem.Fin} {gd : Bool → Bool} {lv : List Value → List Value}
theorem seg_If {test : Expr} {body orelse : List Stmt} {pos : Pos}
    (h : wpAny M (A.over c fs) (isTrue test env (eval test env)) (fun b s1 => Seg M A R Y n s₀ c ((if b = true then execs body env else execs orelse env).wrap K J gd lv) fs s1) (fun _ _ => False) s) :
    Seg M A R Y n s₀ c ((exec (.If test body orelse pos) env).wrap K J gd lv) fs s := by
  rw [arm_exec_If]
  refine seg_bind_wrap (wpAny_standAt ?_)
  exact seg_bind_wrap (wpAny_mono h (fun b s1 h1 => h1) fun _ _ z => z.elim)
end
theorem den_block0 {P : Program} {w : World} {env : Env} : (model P w).den (.block [] env) = leafOf (.ok .next) := rfl
/-! ### choices -/
/-- where the outer loop stands -/
structure OutQ (base : Heap) (lo : Nat) (g : Nat) (po p itA : Nat) (W : List (List Value)) (D : List Value) (i : Nat) (c : Option Value) (s : Shared) : Prop where
  bk : BK base s.heap
  ns : ∃ m, s.heap.Ns lo m ∧ m "others" = some (.ref po) ∧ ∀ v, c = some v → m "cell" = some v
  pt : PartsT s.heap po W
  it : IsTupIter s.heap itA p i
  tp : IsTup s.heap p D.toArray
  gg : g < s.gens.size
  bare : AllBare s.gens
section
variable {base : Heap} {lo : Nat} {g : Nat} {po p itA : Nat} {W : List (List Value)} {D : List Value} {i : Nat} {c : Option Value} {s s2 : Shared}
theorem OutQ.some_any (x : OutQ base lo g po p itA W D i c s) : OutQ base lo g po p itA W D i none s := let ⟨m, h1, h2, _⟩ := x.ns; ⟨x.bk, ⟨m, h1, h2, fun _ e => nomatch e⟩, x.pt, x.it, x.tp, x.gg, x.bare⟩
theorem OutQ.keepC {a : Nat} (x : OutQ base lo g po p itA W D i c s) (k : KeepC base lo a (g + 1) s s2) (h1 : lo ≠ a) (h2 : lo ≤ itA) (h3 : itA ≠ a) : OutQ base lo g po p itA W D i c s2 := by
  obtain ⟨m, n1, n2⟩ := x.ns
  obtain ⟨o, e, r⟩ := x.it
  exact ⟨k.bk, ⟨m, n1.at fun o e => k.own _ o (Nat.le_refl _) h1 e, n2⟩, x.pt.keep k.tup, ⟨o, k.own _ _ h2 h3 e, r⟩, tup_keep x.tp k.tup, Nat.lt_of_lt_of_le x.gg k.gsz, k.bare⟩
theorem OutQ.chg {li ai : Nat} (x : OutQ base lo g po p itA W D i c s) (k : ChgC li ai s s2) (h1 : lo < li) (h2 : itA < li) (h3 : base.objs.size ≤ li) : OutQ base lo g po p itA W D i c s2 := by
  obtain ⟨m, n1, n2⟩ := x.ns
  obtain ⟨o, e, r⟩ := x.it
  exact ⟨fun b o e => k.keep b o (.inl (Nat.lt_of_lt_of_le (Heap.lt_size e) h3)) (x.bk b o e), ⟨m, n1.at fun o e => k.keep _ o (.inl h1) e, n2⟩, x.pt.keep fun b o t e => k.keep b o (.inr (.inr t)) e, ⟨o, k.keep _ _ (.inl h2) e, r⟩, tup_keep x.tp fun b o t e => k.keep b o (.inr (.inr t)) e, Nat.lt_of_lt_of_le x.gg k.gsz, k.bare⟩
theorem OutQ.gro (x : OutQ base lo g po p itA W D i c s) (k : Gro s s2) : OutQ base lo g po p itA W D i c s2 := by
  obtain ⟨m, n1, n2⟩ := x.ns
  obtain ⟨o, e, r⟩ := x.it
  exact ⟨fun b o e => k.keep b o (x.bk b o e), ⟨m, n1.keeps k.keep, n2⟩, x.pt.keep fun b o _ e => k.keep b o e, ⟨o, k.keep _ _ e, r⟩, tup_keep x.tp fun b o _ e => k.keep b o e, by rw [k.gens]; exact x.gg, by rw [k.gens]; exact x.bare⟩
theorem ns_notTup {h : Heap} {m : Str → Option Value} {o : Obj} (hn : h.Ns lo m) (e : h.get? lo = some o) : ¬ TupO o := by
  rintro ⟨its, n, _, d⟩
  obtain ⟨o', es, ep, e', d', _⟩ := hn
  rw [e] at e'; cases e'
  rw [d] at d'; cases d'
/-- a local name is stored -/
theorem OutQ.store {m : Str → Option Value} {x : Str} {v : Value} {c2 : Option Value} {h' : Heap} {tk : Nat} (I : OutQ base lo g po p itA W D i c s) (hn : s.heap.Ns lo m) (ho : m "others" = some (.ref po)) (hx : x ≠ "others") (hc : ∀ u, c2 = some u → (if ("cell" : Str) = x then some v else m "cell") = some u) (hn' : h'.Ns lo (fun z => if z = x then some v else m z)) (hs : Heap.SameBut lo s.heap h') (hbl : base.objs.size ≤ lo) (hli : lo ≠ itA) :
    OutQ base lo g po p itA W D i c2 { s with heap := h', toks := tk } := by
  have kt : ∀ b o, TupO o → s.heap.get? b = some o → h'.get? b = some o := fun b o t e => (hs.2 b (fun z => by rw [z] at e; exact ns_notTup hn e t)).trans e
  obtain ⟨o, e, r⟩ := I.it
  exact ⟨fun b o e => (hs.2 b (Nat.ne_of_lt (Nat.lt_of_lt_of_le (Heap.lt_size e) hbl))).trans (I.bk b o e), ⟨_, hn', by show (if ("others" : Str) = x then some v else m "others") = _; rw [if_neg (Ne.symm hx)]; exact ho, hc⟩, I.pt.keep kt, ⟨o, (hs.2 _ (Ne.symm hli)).trans e, r⟩, tup_keep I.tp kt, I.gg, I.bare⟩
end
abbrev inB (k : Nat) (e1 e2 e3 e4 e5 e6 : Pos) : List Stmt := [.Expr (.Yield (some (.BinOp (.Tuple [.Name "cell" e1] k e2) .Add (.Name "rest" e3) e4)) e5) e6]
section
variable {P : Program} {w : World} {K : PySem.W.Frag} {mg : Str → Option Value} {base : Heap} {A B : Around} {env : Env} {fs : List Frame}
theorem seg_in {k : Nat} {e1 e2 e3 e4 e5 e6 d1 : Pos} {lo a : Nat} {g : Nat} {po p itA ai li : Nat} {gi : Nat} {W : List (List Value)} {D : List Value} {i : Nat} {c : Value} {post : List (List Value)} (F : FR K mg base env) (hLo : env.locals = lo) (hkc : env.kindOf "cell" = some .local) (hkr : env.kindOf "rest" = some .local) (hco : env.scope.isCoroutine = false) (hint : interactive env = false)
    (hB : A.over (.forLoop (.Name "rest" d1) (.ref ai) (inB k e1 e2 e3 e4 e5 e6) [] env) fs = B) (hBh : B.handled = none) (hBd : B.depth < recursionLimit) (hsp : splitAtGen fs = none) (hgd : fs.any Frame.guarded = false)
    (l1 : base.objs.size ≤ lo) (l2 : lo < a) (l3 : a < itA) (l4 : itA < li) (l5 : li < ai) (l6 : g < gi)
    (hpos : ∀ R1 x R2, chV W = R1 ++ x :: R2 → ∃ pre, chV (D :: W) = pre ++ (c :: x) :: (R2.map (c :: ·) ++ post)) (hz : ∀ x ∈ chV W, x.length < sizeLine)
    (hend : ∀ s₀ s', OutQ base lo g po p itA W D i (some c) s' → ChgC lo a s₀ s' → Seg (model P w) A (RC lo a) (YC base lo a g (D :: W)) post.length s₀ (.block [] env) ((model P w).den (.block [] env)) fs s') :
    ∀ (R : List (List Value)) (s₀ s : Shared), OutQ base lo g po p itA W D i (some c) s → ChgC lo a s₀ s → ChR P w B base ai gi li W R s →
      Seg (model P w) A (RC lo a) (YC base lo a g (D :: W)) (R.length + post.length) s₀ (.forLoop (.Name "rest" d1) (.ref ai) (inB k e1 e2 e3 e4 e5 e6) [] env) ((model P w).den (.forLoop (.Name "rest" d1) (.ref ai) (inB k e1 e2 e3 e4 e5 e6) [] env)) fs s := by
  have blt : ∀ {s : Shared}, BK base s.heap → s.heap.NoLimit := fun {s} bk => F.mod.nolimit.keeps bk
  intro R
  induction R with
  | nil =>
    intro s₀ s I C hR
    refine seg_forLoop ?_
    rw [hB]
    refine ch_next hBh hBd (blt I.bk) I.bk (by omega) hR (fun x R' t s1 e => nomatch e) (fun s1 _ C1 => ?_)
    rw [show ([] : List (List Value)).length + post.length = post.length from Nat.zero_add _]
    exact hend s₀ s1 (I.chg C1 (by omega) l4 (by omega)) (C.inner C1 (by omega) (by omega))
  | cons y R ih =>
    intro s₀ s I C hR
    have hsuf := hR.suf
    have hgen := hR.gen
    refine seg_forLoop ?_
    rw [hB]
    refine ch_next hBh hBd (blt I.bk) I.bk (by omega) hR (fun x R' t s1 e _ ht C1 hk => ?_) (fun s1 e => nomatch e)
    obtain ⟨rfl, rfl⟩ := List.cons.inj e
    have I1 := I.chg C1 (by omega) l4 (by omega)
    have C1' := C.inner C1 (by omega) (by omega)
    obtain ⟨m1, n1, n2, n3⟩ := I1.ns
    show wpAny _ _ (pure ()) _ _ _
    refine wpAny_pure (wpAny_assign_Name (wpAny_storeName_local hkr (by rw [hLo]; exact n1) (fun h2 hn2 hs2 => ?_) (by rw [F.kind]; rfl)))
    rw [hLo] at hn2 hs2
    have I2 := I1.store (x := "rest") (v := .ref t) (c2 := some c) (tk := s1.toks + 1) n1 n2 (by decide) (fun u e => by cases e; rw [if_neg (by decide)]; exact n3 _ rfl) hn2 hs2 l1 (by omega)
    obtain ⟨oL, hoL⟩ : ∃ o, s1.heap.get? lo = some o := let ⟨o, _, _, e, _⟩ := n1; ⟨o, e⟩
    have C2 : ChgC lo a s₀ { s1 with heap := h2, toks := s1.toks + 1 } := C1'.write (Nat.le_refl _) (by omega) hoL (ns_notTup n1 hoL) rfl rfl fun b o hb e => (hs2.2 b hb).trans e
    have ht2 : IsTup h2 t y.toArray := tup_keep ht fun b o q e => (hs2.2 b (fun z => by rw [z] at e; exact ns_notTup n1 e q)).trans e
    obtain ⟨R1, hR1⟩ := hsuf
    rw [show (y :: R).length + post.length = (R.length + post.length) + 1 by simp; omega]
    refine seg_execs_cons ?_
    refine seg_Expr_Yield hsp rfl hgd ?_ hco hint
    rw [hB]
    refine rw_pair (m := fun z => if z = ("rest" : Str) then some (.ref t) else m1 z) (u := c) (us := y) F hkc hkr (by rw [hLo]; exact hn2) (by rw [if_neg (by decide)]; exact n3 _ rfl) (by rw [if_pos rfl]) ht2 (hz y (by rw [hR1]; simp)) (by decide) (by decide) fun s3 t3 G3 L3 T3 => ?_
    intro kap hkap
    obtain ⟨pre, hpre⟩ := hpos R1 y R hR1
    refine ⟨pre, c :: y, R.map (c :: ·) ++ post, t3, hpre, by simp, rfl, Nat.le_trans (Nat.le_of_lt hn2.lt) L3, T3, C2.gro G3, fun s4 k4 => hkap .none s4 ?_⟩
    refine seg_execs_nil ?_
    have gens3 : s3.gens = s1.gens := G3.gens
    have k34 : ∀ (b : Nat) o, b ≠ lo → s1.heap.get? b = some o → s3.heap.get? b = some o := fun b o hb e => G3.keep b o ((hs2.2 b hb).trans e)
    refine seg_again rfl (ih s4 s4 ((I2.gro G3).keepC k4 (by omega) (by omega) (by omega)) (ChgC.refl k4.bare) (hk s4 ⟨k4.os.trans G3.os, k4.bare, k4.bk, fun b o q e => k4.tup b o q (k34 b o (fun z => by rw [z] at e; exact ns_notTup n1 e q) e), fun b o h1 h2 e => k4.own b o (by omega) (by omega) (k34 b o (by omega) e), fun j x hj e => k4.gens j x (by omega) (by rw [gens3]; exact e), by have := k4.gsz; rw [gens3] at this; exact this⟩ ?_))
    refine (hgen.at fun o e => C1.keep _ o (.inr (.inl rfl)) e).at fun o e => k4.own _ o (by omega) (by omega) (k34 _ o (by omega) e)
end
end BgT
set_option Elab.async false
set_option linter.all false
set_option maxRecDepth 100000
set_option maxHeartbeats 4000000
namespace BgT
open PySem PySem.Spec PyProof.Rows L2 GenW
abbrev outB (k : Nat) (d1 d2 d3 d4 d5 e1 e2 e3 e4 e5 e6 : Pos) : List Stmt := [.For (.Name "rest" d1) (.Call (.Name "choices" d2) [.Name "others" d3] [] d4) (inB k e1 e2 e3 e4 e5 e6) [] d5]
abbrev chB (k k1 k2 k3 k4 : Nat) (a1 a2 a3 a4 a5 a6 a7 a8 a9 b1 b2 b3 b4 b5 b6 c1 c2 c3 c4 c5 d1 d2 d3 d4 d5 e1 e2 e3 e4 e5 e6 : Pos) : List Stmt :=
  [.If (.Compare (.Call (.Name "len" a1) [.Name "parts" a2] [] a3) [.Eq] [.Constant (.int 0) k1 a4] a5) [.Expr (.Yield (some (.Tuple [] k2 a6)) a7) a8]
    [.Assign [.Name "others" b1] (.Subscript (.Name "parts" b2) (.Slice (some (.Constant (.int 1) k3 b3)) none none b4) b5) b6,
     .For (.Name "cell" c1) (.Subscript (.Name "parts" c2) (.Constant (.int 0) k4 c3) c4) (outB k d1 d2 d3 d4 d5 e1 e2 e3 e4 e5 e6) [] c5] a9]
section
variable {P : Program} {w : World} {K : PySem.W.Frag} {mg : Str → Option Value} {base : Heap}
/-- a call's generator runs -/
def ChGo (P : Program) (w : World) (base : Heap) (qual : Str) (scope : Scope) (body : List Stmt) (f : Addr) (W : List (List Value)) : Prop :=
  ∀ (A : Around) (cdv : Value) (lo a : Nat) (g : Nat) (pa : Nat) (m : Str → Option Value) (s : Shared), Room (2 * W.length + 2) A → BK base s.heap → base.objs.size ≤ lo → lo < a → (∃ o, s.heap.get? a = some o) → g < s.gens.size → AllBare s.gens → s.heap.Ns lo m → m "parts" = some (.ref pa) → PartsT s.heap pa W → (∀ D ∈ W, D.length ≤ 1000) → W.length ≤ 1000 →
    Seg (model P w) A (RC lo a) (YC base lo a g W) (chV W).length s (.func body (envOfC qual scope lo f cdv)) ((model P w).den (.func body (envOfC qual scope lo f cdv))) [] s
theorem chV_len : ∀ {W : List (List Value)} {x : List Value}, x ∈ chV W → x.length = W.length
  | [], x, h => by simp [chV] at h; subst h; rfl
  | D :: W, x, h => by
    simp only [chV, List.mem_flatMap, List.mem_map] at h
    obtain ⟨c, _, y, hy, rfl⟩ := h
    simp [chV_len hy]
theorem chV_at {D1 D2 : List Value} {c : Value} {W R1 R2 : List (List Value)} {x : List Value} (h : chV W = R1 ++ x :: R2) : ∃ pre, chV ((D1 ++ c :: D2) :: W) = pre ++ (c :: x) :: (R2.map (c :: ·) ++ D2.flatMap fun c => (chV W).map (c :: ·)) := by
  refine ⟨(D1.flatMap fun c => (chV W).map (c :: ·)) ++ R1.map (c :: ·), ?_⟩
  simp [chV, List.flatMap_append, List.flatMap_cons, h]
theorem seg_out {A : Around} {fs : List Frame} {qual xx : Str} {params : Arguments} {body : List Stmt} {scope : Scope} {f : Addr} {N : List Str} {k : Nat} {c1 d1 d2 d3 d4 d5 e1 e2 e3 e4 e5 e6 : Pos} {cdv : Value} {B : Around} {lo a : Nat} {g : Nat} {po p itA : Nat} {W : List (List Value)} {D : List Value}
    (FF : FunD K xx qual params body scope [] [] f (fdOf K f)) (S : GScope N ["parts"] scope) (hb : Binds K (fdOf K f) ["parts"] []) (hmg : mg "choices" = some (.ref f)) (mod : Mod K mg base)
    (hkp : scope.names.lookup ("parts" : Str) = some .local) (hko : scope.names.lookup ("others" : Str) = some .local) (hkc : scope.names.lookup ("cell" : Str) = some .local) (hkr : scope.names.lookup ("rest" : Str) = some .local) (hkg : scope.names.lookup ("choices" : Str) = some .globalImplicit) (hint : ∀ n cdv, interactive (envOfC qual scope n f cdv) = false)
    (hB : A.over (.forLoop (.Name "cell" c1) (.ref itA) (outB k d1 d2 d3 d4 d5 e1 e2 e3 e4 e5 e6) [] (envOfC qual scope lo f cdv)) fs = B) (hBr : Room (2 * W.length + 3) B) (hsp : splitAtGen fs = none) (hgd : fs.any Frame.guarded = false)
    (l1 : base.objs.size ≤ lo) (l2 : lo < a) (l3 : a < itA) (hD : ∀ E ∈ W, E.length ≤ 1000) (hW : W.length < 1000)
    (ih : ChGo P w base qual scope body f W)
    (hend : ∀ s₀ s', ChgC lo a s₀ s' → Seg (model P w) A (RC lo a) (YC base lo a g (D :: W)) 0 s₀ (.block [] (envOfC qual scope lo f cdv)) ((model P w).den (.block [] (envOfC qual scope lo f cdv))) fs s') :
    ∀ (D2 D1 : List Value) (s₀ s : Shared), D = D1 ++ D2 → OutQ base lo g po p itA W D D1.length none s → ChgC lo a s₀ s →
      Seg (model P w) A (RC lo a) (YC base lo a g (D :: W)) (D2.flatMap fun c => (chV W).map (c :: ·)).length s₀ (.forLoop (.Name "cell" c1) (.ref itA) (outB k d1 d2 d3 d4 d5 e1 e2 e3 e4 e5 e6) [] (envOfC qual scope lo f cdv))
        ((model P w).den (.forLoop (.Name "cell" c1) (.ref itA) (outB k d1 d2 d3 d4 d5 e1 e2 e3 e4 e5 e6) [] (envOfC qual scope lo f cdv))) fs s := by
  have F : FR K mg base (envOfC qual scope lo f cdv) := ⟨mod, S.kind, rfl, rfl⟩
  intro D2
  induction D2 with
  | nil =>
    intro D1 s₀ s hDD I C
    have hDl : D.length = D1.length := by rw [hDD]; simp
    refine seg_forLoop ?_
    rw [hB]
    unfold pyNext
    refine wpAny_bind (wpAny_attempt (special_tup_end hBr.hd I.it I.tp ?_ fun e h' hS hk => ?_))
    · rw [List.getElem?_toArray, List.getElem?_eq_none_iff]; omega
    · obtain ⟨x, o, us, rfl, hox, hcls, _⟩ := hS
      refine wpAny_bind (wpAny_isInstance (T := "StopIteration") (b := true) ⟨o, hox, hcls⟩ isSubtype_stop (wpAny_pure ?_))
      obtain ⟨oi, eoi, ci, di⟩ := id I.it
      have nt : ¬ TupO oi := fun ⟨_, _, _, d⟩ => by rw [di] at d; cases d
      exact hend s₀ _ (C.write (by omega) (by omega) eoi nt rfl rfl fun b o hb e => hk b o hb e)
  | cons c D2 ihD =>
    intro D1 s₀ s hDD I C
    have hx : D.toArray[D1.length]? = some c := by rw [hDD]; simp
    obtain ⟨oi, eoi, ci, di⟩ := id I.it
    have nt : ¬ TupO oi := fun ⟨_, _, _, d⟩ => by rw [di] at d; cases d
    refine seg_forLoop ?_
    rw [hB]
    unfold pyNext
    refine wpAny_bind (wpAny_attempt (special_tup_item I.it I.tp hx fun h1 hit1 hs1 => wpAny_pure ?_))
    have C1 : ChgC lo a s₀ { s with heap := h1 } := C.write (by omega) (by omega) eoi nt rfl rfl fun b o hb e => (hs1.2 b hb).trans e
    have kt : ∀ b o, TupO o → s.heap.get? b = some o → h1.get? b = some o := fun b o t e => (hs1.2 b (fun z => by rw [z, eoi] at e; cases e; exact nt t)).trans e
    obtain ⟨m, n1, n2, _⟩ := I.ns
    have I1 : OutQ base lo g po p itA W D (D1.length + 1) none { s with heap := h1 } :=
      ⟨fun b o e => (hs1.2 b (Nat.ne_of_lt (Nat.lt_of_lt_of_le (Heap.lt_size e) (by omega)))).trans (I.bk b o e), ⟨m, n1.at fun o e => (hs1.2 lo (show lo ≠ itA by omega)).trans e, n2, fun _ e => nomatch e⟩, I.pt.keep kt, hit1, tup_keep I.tp kt, I.gg, I.bare⟩
    have n1' : h1.Ns lo m := n1.at fun o e => (hs1.2 lo (show lo ≠ itA by omega)).trans e
    show wpAny _ _ (pure ()) _ _ _
    refine wpAny_pure (wpAny_assign_Name (wpAny_storeName_local (m := m) hkc n1' (fun h2 hn2 hs2 => ?_) (by rw [F.kind]; rfl)))
    have hn2 : h2.Ns lo (fun z => if z = ("cell" : Str) then some c else m z) := hn2
    have hs2 : Heap.SameBut lo h1 h2 := hs2
    have I2 := I1.store (x := "cell") (v := c) (c2 := some c) (tk := s.toks + 1) n1' n2 (by decide) (fun u e => by cases e; rw [if_pos rfl]) hn2 hs2 l1 (by omega)
    obtain ⟨oL, hoL⟩ : ∃ o, h1.get? lo = some o := let ⟨o, _, _, e, _⟩ := n1'; ⟨o, e⟩
    have C2 : ChgC lo a s₀ { s with heap := h2, toks := s.toks + 1 } := C1.write (Nat.le_refl _) (by omega) hoL (ns_notTup n1' hoL) rfl rfl fun b o hb e => (hs2.2 b hb).trans e
    have hn2o : (fun z => if z = ("cell" : Str) then some c else m z) "others" = some (.ref po) := by show (if ("others" : Str) = "cell" then _ else _) = _; rw [if_neg (by decide)]; exact n2
    refine seg_execs_cons ?_
    refine seg_For (fun _ => rfl) ?_
    rw [hB]
    generalize hs2' : ({ s with heap := h2, toks := s.toks + 1 } : Shared) = s2 at I2 C2
    have hn2' : s2.heap.Ns lo (fun z => if z = ("cell" : Str) then some c else m z) := by rw [← hs2']; exact hn2
    refine rw_gen (K := K) (mg := mg) (base := base) (g := "choices") F FF S hkp hb hBr.depth hkg (by decide) I2.bk hmg hko (by decide) hn2' hn2o fun v s3 hG => ?_
    obtain ⟨ai, cdi, mi, rfl, q1, q2, q3, q4, q5, q6, q7, q8⟩ := hG
    refine wpAny_pyIter_gen q3 fun p5 => ?_
    have G23 : ∀ b o, s2.heap.get? b = some o → s3.heap.get? b = some o := q6
    have itlt : itA < s2.heap.objs.size := by obtain ⟨o, e, _⟩ := I2.it; exact Heap.lt_size e
    have gsz3 : s3.gens.size = s2.gens.size + 1 := by rw [q4]; exact Array.size_push ..
    have bare3 : AllBare s3.gens := by rw [q4]; exact AllBare.push I2.bare rfl
    have C3 : ChgC lo a s₀ s3 := C2.trans ⟨q5, bare3, fun b o _ e => q6 b o e, by omega⟩
    have I3 : OutQ base lo g po p itA W D (D1.length + 1) (some c) s3 := by
      obtain ⟨m', n1, n2⟩ := I2.ns
      obtain ⟨o, e, r⟩ := I2.it
      exact ⟨fun b o e => q6 b o (I2.bk b o e), ⟨m', n1.keeps q6, n2⟩, I2.pt.keep fun b o _ e => q6 b o e, ⟨o, q6 _ _ e, r⟩, tup_keep I2.tp fun b o _ e => q6 b o e, by have := I2.gg; omega, bare3⟩
    rw [show ((c :: D2).flatMap fun c => (chV W).map (c :: ·)).length = (chV W).length + (D2.flatMap fun c => (chV W).map (c :: ·)).length by simp [List.flatMap_cons]]
    refine seg_in (B := B) (a := a) (g := g) (po := po) (p := p) (itA := itA) (li := s2.heap.objs.size) (gi := s2.gens.size) (i := D1.length + 1) (c := c) F rfl hkc hkr S.co (hint _ _) ?_ hBr.hd hBr.depth ?_ ?_ l1 l2 l3 itlt q1 I2.gg (fun R1 x R2 h => by rw [hDD]; exact chV_at h) (fun x hx => by rw [chV_len hx]; exact small1000 (by omega)) ?_ (chV W) s₀ s3 I3 C3 ?_
    · exact (over_loop rfl rfl).trans hB
    · show (splitAtGen fs).map _ = none
      rw [hsp]; rfl
    · show (false || fs.any Frame.guarded) = false
      rw [hgd]; rfl
    · intro s₀' s' I' C'
      rw [den_block0]
      refine seg_leaf (.ok .next) ?_
      refine seg_execs_nil (env := envOfC qual scope lo f cdv) ?_
      exact seg_again rfl (ihD (D1 ++ [c]) s₀' s' (by rw [hDD]; simp) (by rw [List.length_append]; exact I'.some_any) C')
    · refine ⟨⟨[], rfl⟩, GenAt.of q3, .fresh (.func body (envOfC qual scope s2.heap.objs.size f cdi)), by rw [q4]; exact Array.getElem?_push_size .., rfl, ?_⟩
      have hgr : (s3.setGen s2.gens.size .running).gens.size = s3.gens.size := setGen_size _ _ _
      refine ih B.in1 cdi s2.heap.objs.size ai s2.gens.size po mi (s3.setGen s2.gens.size .running) (hBr.in1) ?_ (by omega) q1 ?_ (by omega) (allBare_setGen bare3 rfl) ?_ q8 ?_ hD (by omega)
      · exact I3.bk
      · obtain ⟨o, _, _, e, _⟩ := q3
        exact ⟨o, e⟩
      · exact q7
      · exact I3.pt
theorem go_choices {qual xx : Str} {params : Arguments} {scope : Scope} {f : Addr} {N : List Str} {k k1 k2 k3 k4 : Nat} {a1 a2 a3 a4 a5 a6 a7 a8 a9 b1 b2 b3 b4 b5 b6 c1 c2 c3 c4 c5 d1 d2 d3 d4 d5 e1 e2 e3 e4 e5 e6 : Pos}
    (FF : FunD K xx qual params (chB k k1 k2 k3 k4 a1 a2 a3 a4 a5 a6 a7 a8 a9 b1 b2 b3 b4 b5 b6 c1 c2 c3 c4 c5 d1 d2 d3 d4 d5 e1 e2 e3 e4 e5 e6) scope [] [] f (fdOf K f)) (S : GScope N ["parts"] scope) (hb : Binds K (fdOf K f) ["parts"] []) (hmg : mg "choices" = some (.ref f)) (hml : mg "len" = none) (mod : Mod K mg base)
    (hkp : scope.names.lookup ("parts" : Str) = some .local) (hko : scope.names.lookup ("others" : Str) = some .local) (hkc : scope.names.lookup ("cell" : Str) = some .local) (hkr : scope.names.lookup ("rest" : Str) = some .local) (hkg : scope.names.lookup ("choices" : Str) = some .globalImplicit) (hkl : scope.names.lookup ("len" : Str) = some .globalImplicit) (hint : ∀ n cdv, interactive (envOfC qual scope n f cdv) = false) :
    ∀ W, ChGo P w base qual scope (chB k k1 k2 k3 k4 a1 a2 a3 a4 a5 a6 a7 a8 a9 b1 b2 b3 b4 b5 b6 c1 c2 c3 c4 c5 d1 d2 d3 d4 d5 e1 e2 e3 e4 e5 e6) f W := by
  intro W
  induction W with
  | nil =>
    intro A cdv lo a g pa m s hr bk hbl hla ha hg hba hn hm hp _ _
    have F : FR K mg base (envOfC qual scope lo f cdv) := ⟨mod, S.kind, rfl, rfl⟩
    obtain ⟨ps, ht, hps⟩ := hp
    cases hps
    refine seg_func (seg_execs_cons (seg_If ?_))
    rw [over_func]
    refine rw_len0 (m := m) (t := pa) F hkl bk hml hkp hn hm ht (by decide) (by decide) fun tk => ?_
    show Seg _ _ _ _ _ _ _ ((if true = true then _ else _ : Sem Flow).wrap _ _ _ _) _ _
    rw [if_pos rfl]
    show Seg _ _ _ _ (0 + 1) _ _ _ _ _
    refine seg_execs_cons (seg_Expr_Yield rfl rfl rfl ?_ S.co (hint _ _))
    refine rw_unit fun s1 t1 G1 L1 T1 => ?_
    intro kap hk
    have G : Gro s s1 := (Gro.tok s tk).trans G1
    refine ⟨[], [], [], t1, rfl, rfl, rfl, Nat.le_trans (Nat.le_of_lt hn.lt) L1, T1, (ChgC.refl hba).gro G, fun s2 k2 => hk .none s2 ?_⟩
    refine seg_execs_nil (env := envOfC qual scope lo f cdv) ?_
    refine seg_execs_nil (env := envOfC qual scope lo f cdv) ?_
    exact seg_end (.ok (.ret .none)) ⟨rfl, rfl, ChgC.refl k2.bare⟩
  | cons D W ih =>
    intro A cdv lo a g pa m s hr bk hbl hla ha hg hba hn hm hp hD hW
    have F : FR K mg base (envOfC qual scope lo f cdv) := ⟨mod, S.kind, rfl, rfl⟩
    have hWl : W.length < 1000 := by simp at hW; omega
    obtain ⟨ps, ht, hps⟩ := hp
    have hpl := Paired.length hps
    cases hps with
    | cons hp1 hps =>
      rename_i p ps
      have hsz : (List.map Value.ref (p :: ps)).length ≤ sizeLine := Nat.le_of_lt (small1000 (by simp at hpl ⊢; omega))
      refine seg_func (seg_execs_cons (seg_If ?_))
      rw [over_func]
      refine rw_len0 (m := m) (t := pa) F hkl bk hml hkp hn hm ht (by simpa using hsz) (by decide) fun tk => ?_
      have hb0 : ((((List.map Value.ref (p :: ps)).toArray.size : Nat) : Int) == 0) = false := by
        simp
        omega
      rw [hb0, if_neg Bool.false_ne_true]
      refine seg_execs_cons (seg_wrap ?_)
      rw [over_func]
      refine wpAny_Assign_Name ?_ rfl
      refine rw_rest (m := m) (t := pa) (u := .ref p) (us := ps.map Value.ref) F hkp hn hm ht hsz (by decide) fun s1 po G1 T1 => ?_
      have G1 : Gro s s1 := (Gro.tok s tk).trans G1
      have n1 : s1.heap.Ns lo m := hn.keeps G1.keep
      refine wpAny_storeName_local (m := m) hko n1 (fun h2 hn2 hs2 => ?_) (by rw [F.kind]; rfl)
      have hn2 : h2.Ns lo (fun z => if z = ("others" : Str) then some (.ref po) else m z) := hn2
      have hs2 : Heap.SameBut lo s1.heap h2 := hs2
      obtain ⟨oL, hoL⟩ : ∃ o, s1.heap.get? lo = some o := let ⟨o, _, _, e, _⟩ := n1; ⟨o, e⟩
      have C2 : ChgC lo a s { s1 with heap := h2, toks := s1.toks + 1 } := ((ChgC.refl hba).gro G1).write (Nat.le_refl _) (by omega) hoL (ns_notTup n1 hoL) rfl rfl fun b o hb e => (hs2.2 b hb).trans e
      have kt : ∀ b o, TupO o → s1.heap.get? b = some o → h2.get? b = some o := fun b o t e => (hs2.2 b (fun z => by rw [z] at e; exact ns_notTup n1 e t)).trans e
      have kq : ∀ b o, TupO o → s.heap.get? b = some o → h2.get? b = some o := fun b o t e => kt b o t (G1.keep b o e)
      have tp2 : IsTup h2 p D.toArray := tup_keep hp1 kq
      have to2 : IsTup h2 po (ps.map Value.ref).toArray := tup_keep T1 kt
      have pt2 : PartsT h2 po W := ⟨ps, to2, Paired.mapP hps fun _ _ z => tup_keep z kq⟩
      have bk2 : BK base h2 := fun b o e => (hs2.2 b (Nat.ne_of_lt (Nat.lt_of_lt_of_le (Heap.lt_size e) hbl))).trans (G1.keep b o (bk b o e))
      have a2 : a < h2.objs.size := by
        obtain ⟨o, e⟩ := ha
        exact Heap.lt_size ((hs2.2 a (show a ≠ lo by omega)).trans (G1.keep a o e))
      show Seg _ _ _ _ _ _ _ ((execs _ _).wrap _ _ _ _) _ _
      refine seg_execs_cons (seg_For (fun _ => rfl) ?_)
      rw [over_func]
      refine rw_ix0 (its := (List.map Value.ref (p :: ps)).toArray) (u := .ref p) F hkp hn2 (by show (if ("parts" : Str) = "others" then _ else _) = _; rw [if_neg (by decide)]; exact hm) (tup_keep ht kq) (by simpa using hsz) rfl (by decide) fun tk2 => ?_
      refine iter_tuple (items := D.toArray) tp2 fun p5 => ?_
      have l3 : a < h2.objs.size := a2
      refine seg_out (c1 := c1) (B := A.deeper (envOfC qual scope lo f cdv)) (po := po) (p := p) (D := D) FF S hb hmg mod hkp hko hkc hkr hkg hint ((over_loop rfl rfl).trans over_func) ((hr.mono (by simp; omega)).deeper _) rfl rfl hbl hla l3 (fun E hE => hD E (by simp [hE])) hWl ih (fun s₀ s' C' => ?_) D [] s _ rfl ?_ ?_
      · rw [den_block0]
        refine seg_leaf (.ok .next) ?_
        refine seg_execs_nil (env := envOfC qual scope lo f cdv) ?_
        refine seg_execs_nil (env := envOfC qual scope lo f cdv) ?_
        exact seg_end (.ok (.ret .none)) ⟨rfl, rfl, C'⟩
      · exact ⟨fun b o e => Heap.get?_push_of_some _ (bk2 b o e), ⟨_, hn2.push _, by show (if ("others" : Str) = "others" then _ else _) = _; rw [if_pos rfl], fun _ e => nomatch e⟩, pt2.keep fun b o _ e => Heap.get?_push_of_some _ e, ⟨_, Heap.get?_push_size _ rfl, rfl, rfl⟩, tup_keep tp2 fun b o _ e => Heap.get?_push_of_some _ e, by show g < s1.gens.size; rw [G1.gens]; exact hg, by show AllBare s1.gens; rw [G1.gens]; exact hba⟩
      · exact C2.gro ⟨rfl, rfl, fun b o e => Heap.get?_push_of_some _ e⟩
end
end BgT
set_option Elab.async false
set_option linter.all false
set_option maxRecDepth 100000
set_option maxHeartbeats 4000000
namespace BgQ
open PySem PySem.Spec PyProof.Rows L2 GenW BgT
/-! ### what lives stays alive -/
section
variable {α : Type} {M : Model} {A : Around}
theorem stepK_life {den : Code → Sem PySem.Fin} {prog : Program} {w : World} {s s' : Shared} {t t' : Thread} (h : stepK den prog w s t = .go s' t') : s'.heap.life = s.heap.life := by
  obtain ⟨cur, code, pos, stack⟩ := t
  have e : (∃ s1 t1, step den prog w s ⟨cur, code, pos, stack⟩ = .go s1 t1 ∧ s1.heap = s'.heap) := by
    have e1 := stepK_forget den prog w s ⟨cur, code, pos, stack⟩
    rw [h] at e1
    cases hs : step den prog w s ⟨cur, code, pos, stack⟩ with
    | go s1 t1 =>
      rw [hs] at e1
      simp only [Step.forget] at e1
      injection e1 with e2 _
      refine ⟨s1, t1, rfl, ?_⟩
      have := congrArg Shared.heap e2
      exact this.symm
    | halt o s1 => rw [hs] at e1; cases e1
  obtain ⟨s1, t1, hs, e2⟩ := e
  rw [← e2]
  exact step_life den prog w s s1 _ t1 hs
theorem GoH.life {s s' : Shared} {t t' : Thread} (h : GoH M s t s' t') : s'.heap.life = s.heap.life := by
  obtain ⟨n, h⟩ := h
  induction n generalizing s t with
  | zero => injection h with h1 _; rw [h1]
  | succ n ih =>
    simp only [runH] at h
    cases hs : stepH M.den M.prog M.w s t with
    | halt o s1 => simp only [hs] at h; cases h
    | go s1 t1 =>
      simp only [hs] at h
      have e : stepK M.den M.prog M.w s t = .go s1 t1 := by
        cases hc : okH s t with
        | false => rw [stepH_bad _ _ _ hc] at hs; cases hs
        | true => rw [stepH_ok _ _ _ hc] at hs; exact hs
      rw [ih h, stepK_life e]
theorem wq_life {m : Sem α} {Q : α → Shared → Prop} {E : Value → Shared → Prop} {s : Shared} (h : wq M A m Q E s) : wq M A m (fun a s' => Q a s' ∧ s'.heap.life = s.heap.life) (fun e s' => E e s' ∧ s'.heap.life = s.heap.life) s := by
  intro c st p K J gd lv hΓ
  obtain ⟨p1, s1, h1⟩ := h c st p K J gd lv hΓ
  rcases h1 with ⟨a, q, g⟩ | ⟨a, q, g⟩
  · exact ⟨p1, s1, .inl ⟨a, ⟨q, g.life⟩, g⟩⟩
  · exact ⟨p1, s1, .inr ⟨a, ⟨q, g.life⟩, g⟩⟩
end
/-! ### a mark upon a generator -/
def SlotAt (h : Heap) (a : Addr) (g : Nat) (n : Int) : Prop := ∃ o nm qn, h.get? a = some o ∧ o.cls = .type "generator" ∧ o.data = .fields #[.int g 0, nm, qn] ∧ o.slots = #[some (rawInt n)]
theorem wp_mark {M : Model} {A : Around} {E : Value → Shared → Prop} {s : Shared} {a : Addr} {g : Nat} {Q : Unit → Shared → Prop} (hg : GenAt s.heap a g)
    (h : ∀ h', SlotAt h' a g 1 → (∀ b o, b ≠ a → s.heap.get? b = some o → h'.get? b = some o) → Q () { s with heap := h' }) : wpAny M A (Builtin.Generator.sleptOver (.ref a) true) Q E s := by
  obtain ⟨o, nm, qn, ho, hc, hd, hs⟩ := hg
  unfold Builtin.Generator.sleptOver
  refine wpAny_bind (wpAny_load ho ?_)
  rw [hc, if_neg (by decide)]
  unfold setSlotAt
  rw [if_neg (by decide)]
  refine wpAny_updatePart ho (h _ ⟨_, nm, qn, Heap.get?_update_self _ ho (Obj.isFreed_of_fields hd), hc, hd, ?_⟩ fun b o hb e => (Heap.get?_update_other _ _ (Ne.symm hb)).trans e)
  rcases hs with hs | hs <;> rw [hs] <;> rfl
theorem wp_unmark {M : Model} {A : Around} {E : Value → Shared → Prop} {s : Shared} {a : Addr} {g : Nat} {Q : Unit → Shared → Prop} (hg : SlotAt s.heap a g 1)
    (h : ∀ h', GenAt h' a g → (∀ b o, b ≠ a → s.heap.get? b = some o → h'.get? b = some o) → Q () { s with heap := h' }) : wpAny M A (Builtin.Generator.sleptOver (.ref a) false) Q E s := by
  obtain ⟨o, nm, qn, ho, hc, hd, hs⟩ := hg
  unfold Builtin.Generator.sleptOver
  refine wpAny_bind (wpAny_load ho ?_)
  rw [hc, if_neg (by decide)]
  unfold setSlotAt
  rw [if_neg (by decide)]
  refine wpAny_updatePart ho (h _ ⟨_, nm, qn, Heap.get?_update_self _ ho (Obj.isFreed_of_fields hd), hc, hd, .inr ?_⟩ fun b o hb e => (Heap.get?_update_other _ _ (Ne.symm hb)).trans e)
  rw [hs]; rfl
/-! ### yield from a generator -/
structure ChgY (lo : Nat) (s₀ s : Shared) : Prop where
  os : s.os = s₀.os
  bare : AllBare s.gens
  keep : ∀ (b : Nat) o, (b < lo ∨ TupO o) → s₀.heap.get? b = some o → s.heap.get? b = some o
  gsz : s₀.gens.size ≤ s.gens.size
theorem ChgY.refl {lo : Nat} {s : Shared} (h : AllBare s.gens) : ChgY lo s s := ⟨rfl, h, fun _ _ _ e => e, Nat.le_refl _⟩
theorem ChgY.trans {lo : Nat} {x y z : Shared} (p : ChgY lo x y) (q : ChgY lo y z) : ChgY lo x z := ⟨q.os.trans p.os, q.bare, fun b o h e => q.keep b o h (p.keep b o h e), Nat.le_trans p.gsz q.gsz⟩
/-- while it sleeps, its consumer fills S -/
structure KeepY (S : Nat) (ga : Nat) (s s2 : Shared) : Prop where
  os : s2.os = s.os
  bare : AllBare s2.gens
  life : s2.heap.life = s.heap.life
  keep : ∀ (b : Nat) o, b ≠ S → s.heap.get? b = some o → s2.heap.get? b = some o
  tup : ∀ b o, TupO o → s.heap.get? b = some o → s2.heap.get? b = some o
  gens : ∀ i x, i ≠ ga → s.gens[i]? = some x → s2.gens[i]? = some x
  gsz : s.gens.size ≤ s2.gens.size
def HGo (P : Program) (w : World) (A : Around) (lo S ga : Nat) : List (List Value) → GenState → Shared → Prop
  | [], gs, s => match gs with
    | .suspended k _ c _ fs _ => Sq (model P w) A (fun r s' => r = .ok (.ret .none) ∧ ChgY lo s s') (fun _ _ _ => False) c (k (.send .none)) fs s
    | _ => False
  | x :: R, gs, s => match gs with
    | .suspended k _ c _ fs _ => Sq (model P w) A (fun _ _ => False) (fun v s' gs' => ∃ t, v = .ref t ∧ lo ≤ t ∧ IsTup s'.heap t x.toArray ∧ ChgY lo s s' ∧ ∀ s2, KeepY S ga s' s2 → HGo P w A lo S ga R gs' s2) c (k (.send .none)) fs s
    | _ => False
def HSq (P : Program) (w : World) (A : Around) (lo S ga : Nat) (R : List (List Value)) (s₀ : Shared) (c : Code) (t : Sem PySem.Fin) (fs : List Frame) (s : Shared) : Prop := match R with
  | [] => Sq (model P w) A (fun r s' => r = .ok (.ret .none) ∧ ChgY lo s₀ s') (fun _ _ _ => False) c t fs s
  | x :: R => Sq (model P w) A (fun _ _ => False) (fun v s' gs' => ∃ t, v = .ref t ∧ lo ≤ t ∧ IsTup s'.heap t x.toArray ∧ ChgY lo s₀ s' ∧ ∀ s2, KeepY S ga s' s2 → HGo P w A lo S ga R gs' s2) c t fs s
theorem hgo_susp {P : Program} {w : World} {A : Around} {lo S ga : Nat} {R : List (List Value)} {k : Resume → Sem PySem.Fin} {l : List Value} {c : Code} {p : Pos} {fs : List Frame} {cl : Bool} {s : Shared} (h : HSq P w A lo S ga R s c (k (.send .none)) fs s) : HGo P w A lo S ga R (.suspended k l c p fs cl) s := by
  cases R <;> exact h
theorem hsq_bind {α : Type} {P : Program} {w : World} {A : Around} {lo S ga : Nat} {R : List (List Value)} {s₀ s : Shared} {c : Code} {fs : List Frame} {m : Sem α} {f : α → Sem PySem.Fin} (h : wq (model P w) (A.over c fs) m (fun a s' => HSq P w A lo S ga R s₀ c (f a) fs s') (fun _ _ => False) s) : HSq P w A lo S ga R s₀ c (m >>= f) fs s := by
  cases R <;> exact sq_bind (wq_mono h (fun _ _ x => x) fun _ _ x => x.elim)
theorem hsq_again {P : Program} {w : World} {A : Around} {lo S ga : Nat} {R : List (List Value)} {s₀ s : Shared} {c c' : Code} {fs : List Frame} (hq : c'.quiet = true) (h : HSq P w A lo S ga R s₀ c' ((model P w).den c') fs s) : HSq P w A lo S ga R s₀ c (.pure (.again c')) fs s := by
  cases R <;> exact sq_again hq h
abbrev yfc (ac : Nat) : Code := .builtin "proto.yield_from" ⟨[.ref ac, .bool false, .none], []⟩
theorem den_yfg {P : Program} {w : World} {ac : Nat} : (model P w).den (yfc ac) = Builtin.«proto.yield_from» ⟨[.ref ac, .bool false, .none], []⟩ := by
  show (match entryFor table "proto.yield_from" with | some b => b ⟨[.ref ac, .bool false, .none], []⟩ | none => unsupported ((withoutEnding? "proto.yield_from" "#data").getD "proto.yield_from")) = _
  rw [entry_yf]
theorem gen_close : ∃ x : Option Value, typeLookup (.type "generator") "close" = pure x ∧ x.isNone = false := by
  refine ⟨_, typeLookup_type .., ?_⟩
  kernel_rfl
theorem delegate_gen {s : Shared} {a g : Nat} {o : Obj} (e : s.heap.get? a = some o) (hg : o.genNumber? = some g) (hz : s.asleep) : delegateShows s (.ref a) = false := by
  simp only [delegateShows, e, hg]
  rw [hz.1]
  rfl
theorem ChgY.of {lo ac : Nat} {x y z : Shared} (p : ChgY lo x y) (q : ChgC lo ac y z) : ChgY lo x z := p.trans ⟨q.os, q.bare, fun b o h e => q.keep b o (h.elim .inl fun z => .inr (.inr z)) e, q.gsz⟩
theorem genAt_notTup {h : Heap} {a : Addr} {g : Nat} {o : Obj} (x : GenAt h a g) (e : h.get? a = some o) : ¬ TupO o := by
  rintro ⟨_, _, c, _⟩
  obtain ⟨o', _, _, e', c', _⟩ := x
  rw [e] at e'; cases e'
  rw [c] at c'; exact absurd c' (by decide)
theorem slotAt_notTup {h : Heap} {a : Addr} {g : Nat} {n : Int} {o : Obj} (x : SlotAt h a g n) (e : h.get? a = some o) : ¬ TupO o := by
  rintro ⟨_, _, c, _⟩
  obtain ⟨o', _, _, e', c', _⟩ := x
  rw [e] at e'; cases e'
  rw [c] at c'; exact absurd c' (by decide)
theorem sq_yfg {P : Program} {w : World} {K : PySem.W.Frag} {mg : Str → Option Value} {base : Heap} {A B : Around} {fs : List Frame} {ac gc lo S ga : Nat} {W : List (List Value)} (mod : Mod K mg base) (hAB : A.over (yfc ac) fs = B) (hB : B.handled = none) (hd : B.depth < recursionLimit) (hsp : splitAtGen fs = none) (hgd : fs.any Frame.guarded = false)
    (hbl : base.objs.size ≤ lo) (h1 : lo ≤ ac) (h2 : S < lo) (hbS : base.objs.size ≤ S) (h3 : ga < gc)
    (hend : ∀ s₀ s', ChgY lo s₀ s' → Sq (model P w) A (fun r s'' => r = .ok (.ret .none) ∧ ChgY lo s₀ s'') (fun _ _ _ => False) (yfc ac) (leafOf (.ok (.ret .none))) fs s') :
    ∀ (R : List (List Value)) (s₀ s : Shared), ChgY lo s₀ s → s.asleep → BK base s.heap → ChR P w B base ac gc lo W R s → HSq P w A lo S ga R s₀ (yfc ac) ((model P w).den (yfc ac)) fs s := by
  intro R
  induction R with
  | nil =>
    intro s₀ s C hz bk hR
    show Sq _ _ _ _ _ _ _ _
    rw [den_yfg]
    unfold Builtin.«proto.yield_from»
    try dsimp only
    refine sq_bind (wq_of_wpAny (wpAny_pure ?_))
    try dsimp only
    refine sq_bind (wq_of_wpAny (wpAny_attempt (wpAny_holding ?_)))
    rw [hAB]
    rw [if_neg Bool.false_ne_true, if_pos (show (Value.none == Value.none) = true from rfl)]
    refine wpAny_bind (wpAny_rule (wpAny_bind ?_))
    refine ch_core hB hd (mod.nolimit.keeps bk) bk hbl hR (fun x R' t s1 e => nomatch e) (fun e s1 _ hS C1 => ?_)
    obtain ⟨a, o, us, rfl, hoa, hcls, hdat, h5⟩ := hS
    try dsimp only
    refine sq_bind (wq_of_wpAny (wpAny_endsTurn hoa hcls ?_))
    try dsimp only
    rw [if_pos rfl]
    rw [if_neg Bool.false_ne_true]
    refine sq_bind (wq_of_wpAny (wpAny_rule ?_))
    refine sq_bind (wq_of_wpAny (wpAny_field hoa hdat h5 ?_))
    exact hend s₀ s1 (C.of C1)
  | cons y R ih =>
    intro s₀ s C hz bk hR
    show Sq _ _ _ _ _ _ _ _
    have hsuf := hR.suf
    have hgen := hR.gen
    rw [den_yfg]
    unfold Builtin.«proto.yield_from»
    try dsimp only
    refine sq_bind (wq_of_wpAny (wpAny_pure ?_))
    try dsimp only
    refine sq_bind ?_
    refine wq_mono (wq_life (wq_of_wpAny (Q := fun r s1 => ∃ t, r = .ok (.ref t) ∧ lo ≤ t ∧ IsTup s1.heap t y.toArray ∧ ChgC lo ac s s1 ∧ ∀ s2, KeepC base lo ac gc s1 s2 → GenAt s2.heap ac gc → ChR P w B base ac gc lo W R s2) (E := fun _ _ => False) (wpAny_attempt (wpAny_holding ?_)))) ?_ fun _ _ z => z.1.elim
    · rw [hAB]
      rw [if_neg Bool.false_ne_true, if_pos (show (Value.none == Value.none) = true from rfl)]
      refine wpAny_bind (wpAny_rule (wpAny_bind ?_))
      refine ch_core hB hd (mod.nolimit.keeps bk) bk hbl hR (fun x R' t s1 e hlt ht C1 hk => ?_) (fun e s1 hr => nomatch hr)
      obtain ⟨rfl, rfl⟩ := List.cons.inj e
      exact wpAny_pure ⟨t, rfl, hlt, ht, C1, hk⟩
    · rintro r s1 ⟨⟨t, rfl, hlt, ht, C1, hk⟩, hlife⟩
      try dsimp only
      have C1' := C.of C1
      have hg1 : GenAt s1.heap ac gc := hgen.at fun o e => C1.keep _ o (.inr (.inl rfl)) e
      obtain ⟨og, nmg, qng, eog, cog, dog, sog⟩ := id hg1
      refine sq_bind (wq_of_wpAny (wpAny_typeOf (T := "generator") ⟨og, eog, cog⟩ ?_))
      try dsimp only
      obtain ⟨cx, hcx, hcn⟩ := gen_close
      rw [hcx]
      refine sq_bind (wq_of_wpAny (wpAny_pure ?_))
      rw [hcn]
      refine sq_bind (wq_of_wpAny (wpAny_pure ?_))
      refine sq_bind ?_
      refine wq_mono (wq_life (wq_of_wpAny (Q := fun _ s2 => ∃ h', SlotAt h' ac gc 1 ∧ (∀ b o, b ≠ ac → s1.heap.get? b = some o → h'.get? b = some o) ∧ s2 = { s1 with heap := h' }) (E := fun _ _ => False) (wp_mark hg1 fun h' a b => ⟨h', a, b, rfl⟩))) ?_ fun _ _ z => z.1.elim
      rintro _ _ ⟨⟨h2, hm2, k2, rfl⟩, hlife2⟩
      obtain ⟨om, nmm, qnm, eom, com, dom, som⟩ := id hm2
      have hz2 : ({ s1 with heap := h2 } : Shared).asleep := by
        unfold Shared.asleep at hz ⊢
        rw [hlife2, hlife]; exact hz
      have C2 : ChgY lo s₀ { s1 with heap := h2 } := C1'.trans ⟨rfl, C1'.bare, fun b o hb e => k2 b o (fun z => by
        subst z
        rcases hb with hb | hb
        · exact Nat.lt_irrefl _ (Nat.lt_of_lt_of_le hb h1)
        · exact genAt_notTup hg1 e hb) e, Nat.le_refl _⟩
      have ht2 : IsTup h2 t y.toArray := tup_keep ht fun b o q e => k2 b o (fun z => by subst z; exact genAt_notTup hg1 e q) e
      refine sq_yield hsp ?_ fun p => ?_
      · unfold closingShows
        rw [hgd, Bool.false_or]
        show (true && delegateShows _ (.ref ac)) = false
        rw [Bool.true_and]
        refine delegate_gen (o := om) (g := gc) eom ?_ hz2
        unfold Obj.genNumber?
        rw [com, dom]
        simp
      · refine ⟨t, rfl, hlt, ht2, C2, fun s3 k3 => hgo_susp ?_⟩
        have hm3 : SlotAt s3.heap ac gc 1 := ⟨om, nmm, qnm, k3.keep ac om (by omega) eom, com, dom, som⟩
        have hz3 : s3.asleep := by
          unfold Shared.asleep at hz2 ⊢
          rw [k3.life]; exact hz2
        have hsq : HSq P w A lo S ga R s3 (yfc ac) (Builtin.Generator.sleptOver (.ref ac) false >>= fun _ => (pure Value.none >>= fun v => again (yfc ac))) fs s3 := by
          refine hsq_bind ?_
          refine wq_mono (wq_life (wq_of_wpAny (Q := fun _ s4 => ∃ h', GenAt h' ac gc ∧ (∀ b o, b ≠ ac → s3.heap.get? b = some o → h'.get? b = some o) ∧ s4 = { s3 with heap := h' }) (E := fun _ _ => False) (wp_unmark hm3 fun h' a b => ⟨h', a, b, rfl⟩))) ?_ fun _ _ z => z.1.elim
          rintro _ _ ⟨⟨h4, hg4, k4, rfl⟩, hlife4⟩
          refine hsq_bind (wq_of_wpAny (wpAny_pure ?_))
          refine hsq_again (plainId_quiet plain_yf _) ?_
          have tp34 : ∀ b o, TupO o → s3.heap.get? b = some o → h4.get? b = some o := fun b o q e => k4 b o (fun z => by subst z; exact slotAt_notTup hm3 e q) e
          have tp12 : ∀ b o, TupO o → s1.heap.get? b = some o → h2.get? b = some o := fun b o q e => k2 b o (fun z => by subst z; exact genAt_notTup hg1 e q) e
          have thr : ∀ (b : Nat) o, b ≠ ac → b ≠ S → s1.heap.get? b = some o → h4.get? b = some o := fun b o n1 n2 e => k4 b o n1 (k3.keep b o n2 (k2 b o n1 e))
          have bk4 : BK base h4 := fun b o e => by
            have hb : @LT.lt Nat _ b base.objs.size := Heap.lt_size e
            have nb1 : @Ne Nat b ac := by omega
            have nb2 : @Ne Nat b S := by omega
            exact thr b o nb1 nb2 (C1.keep b o (.inl (Nat.lt_of_lt_of_le hb hbl)) (bk b o e))
          refine ih s3 { s3 with heap := h4 } ⟨rfl, k3.bare, fun b o hb e => ?_, Nat.le_refl _⟩ ?_ bk4 (hk _ ⟨k3.os, k3.bare, bk4, fun b o q e => tp34 b o q (k3.tup b o q (tp12 b o q e)), fun b o n1 n2 e => thr b o n2 (by omega) e, fun i x hi e => k3.gens i x (by omega) e, k3.gsz⟩ hg4)
          · rcases hb with hb | hb
            · exact k4 b o (by omega) e
            · exact tp34 b o hb e
          · unfold Shared.asleep at hz3 ⊢
            rw [hlife4]; exact hz3
        exact hsq
end BgQ
set_option Elab.async false
set_option linter.all false
set_option maxRecDepth 100000
set_option maxHeartbeats 4000000
namespace BgQ
open PySem PySem.Spec PyProof.Rows L2 GenW BgT
section
variable {P : Program} {w : World} {A : Around} {s : Shared} {E : Value → Shared → Prop}
theorem wq_run {c : Code} {Q : Flow → Shared → Prop} (h : cq (model P w) A c (fun r s' => match r with | .ok f => Q f s' | .error e => E e s') s) : wq (model P w) A (run c) Q E s := by
  unfold run
  refine wq_code (cq_mono (R := fun r s' => match r with | .ok f => Q f s' | .error e => E e s') ?_ fun r s' q => ?_) (by intro x; cases x)
  · have e : A.mark none = A := by cases A; rfl
    rw [e]; exact h
  · cases r with
    | ok f => exact wq_pure q
    | error e => exact wq_raise q
theorem wq_call {f : Value} {pos : List Value} {kw : List (Str × Value)} {Q : Value → Shared → Prop}
    (h : cq (model P w) A (.call f ⟨pos, kw⟩) (fun r s' => match r with | .ok (.ret v) => Q v s' | .ok _ => False | .error e => E e s') s) : wq (model P w) A (call f pos kw) Q E s := by
  unfold call runValue
  refine wq_bind (wq_run (cq_mono h fun r s' q => ?_))
  cases r with
  | error e => exact q
  | ok f =>
    cases f with
    | ret v => exact wq_pure q
    | next => exact q.elim
    | brk => exact q.elim
    | cont => exact q.elim
abbrev fq (P : Program) (w : World) (A : Around) (R : Result → Shared → Prop) : PySem.Fin → Shared → Prop := fun fin s' => match fin with
  | .done f => R (.ok f) s'
  | .again c' => c'.quiet = true ∧ cq (model P w) A c' R s'
theorem cq_builtin {id : String} {args : Args} {b : Builtin} {R : Result → Shared → Prop} (hb : entryFor table id = some b)
    (h : wq (model P w) (A.under (.builtin id args)) (b args) (fq P w A R) (fun e s' => R (.error e) s') s) : cq (model P w) A (.builtin id args) R s := by
  refine cq_of_tree ?_
  show wq _ _ (match entryFor table id with | some b => b args | none => unsupported ((withoutEnding? id "#data").getD id)) _ _ s
  rw [hb]; exact h
theorem cq_call_builtin {id : String} {args : Args} {b : Builtin} {R : Result → Shared → Prop} (hq : plainId id = true) (hb : entryFor table id = some b) (hc : ∀ (s1 : Shared) (Q : Unit → Shared → Prop) (E : Value → Shared → Prop), s1 = s → Q () s1 → wpAny (model P w) A.in1 (checkBuiltinCall id args) Q E s1)
    (h : wq (model P w) A.in1 (b args) (fq P w A R) (fun e s' => R (.error e) s') s) : cq (model P w) A (.call (.builtin id) args) R s := by
  refine cq_of_tree ?_
  show wq _ _ (do checkBuiltinCall id args; again (.builtin id args)) _ _ s
  rw [show A.under (.call (.builtin id) args) = A.in1 from rfl]
  refine wq_bind (wq_of_wpAny (hc s _ _ rfl ?_))
  refine wq_pure ⟨plainId_quiet hq args, cq_builtin hb ?_⟩
  rw [Around.under_plainId hq args]
  exact h
theorem wq_ifF {α : Type} {b : Bool} {x y : Sem α} {Q : α → Shared → Prop} (hb : b = false) (h : wq (model P w) A y Q E s) : wq (model P w) A (if b = true then x else y) Q E s := by
  subst hb; exact h
theorem wq_callSpecial {self : Value} {T : String} {name : Str} {id : String} {args : List Value} {Q : Option Value → Shared → Prop} (hT : s.TypeIs self T) (h : Slot T name id)
    (hc : wq (model P w) A (call (.builtin id) (self :: args)) (fun v => Q (some v)) E s) : wq (model P w) A (callSpecial? self name args) Q E s := by
  simp only [callSpecial?]
  refine wq_bind (wq_of_wpAny (wpAny_specialOf hT h.lookup ?_))
  simp only [h.bind]
  exact wq_holding (wq_bind (wq_pure (wq_bind (wq_mono hc (fun v s' h' => wq_pure h') fun _ _ h' => h'))))
theorem wq_callEntry {T : String} {name : Str} {id : String} {b : Builtin} {self : Value} {rest : List Value} {Q : Value → Shared → Prop} (h : Slot T name id) (hT : s.TypeIs self T) (hb : entryFor table id = some b) (ha : argsOk id ⟨self :: rest, []⟩)
    (hc : wq (model P w) A.in1 (b ⟨self :: rest, []⟩) (fq P w A (fun r s' => match r with | .ok (.ret v) => Q v s' | .ok _ => False | .error e => E e s')) E s) : wq (model P w) A (call (.builtin id) (self :: rest)) Q E s :=
  wq_call (cq_call_builtin h.plain hb (fun s1 Q E e q => by subst e; exact h.check _ _ _ _ _ _ _ _ hT ha q) hc)
theorem life_update (h : Heap) (a : Addr) (f : Obj → Obj) : (h.update a f).life = h.life := by cases h; rfl
/-- list(g), to the loop -/
theorem wq_listGen {a g : Nat} {Q : Value → Shared → Prop} (hg : s.heap.IsGen a g)
    (h : ∀ (s2 : Shared) (S : Nat) (c : Nat), S = s.heap.objs.size → s2.heap.get? S = some (lstObj #[] c) → (∀ b o, s.heap.get? b = some o → s2.heap.get? b = some o) → s2.gens = s.gens → s2.os = s.os → s2.heap.life = s.heap.life →
      cq (model P w) A.in1 (.builtin "list.extend.loop" ⟨[.ref S, .ref a, .none], []⟩) (fun r s' => r = .ok (.ret .none) ∧ Q (.ref S) s') s2) : wq (model P w) A (call (.type "list") [.ref a]) Q E s := by
  obtain ⟨og, nm, qn, eog, cog, dog, sog⟩ := id hg
  have hal := Heap.lt_size eog
  have hSa : s.heap.objs.size ≠ a := Nat.ne_of_gt hal
  have ft := F.called_list
  obtain ⟨c, tl, hmro⟩ := ft.mro
  refine wq_call (cq_of_tree ?_)
  show wq _ _ (callAny (.type "list") _) _ _ _
  refine wq_pure ⟨Code.quiet_builtin _ (by decide +kernel), cq_builtin F.entry_type_call ?_⟩
  rw [Around.under_plain (weight_type_call_type "list" [.ref a] []) rfl]
  unfold Builtin.«type.__call__»
  dsimp only
  refine wq_ifF ft.notType ?_
  refine wq_ifF ft.canCreate ?_
  refine wq_bind (wq_of_wpAny (wpAny_of_eq (F.typeCall_list_1 _) ?_))
  refine wq_bind (wq_of_wpAny (wpAny_of_eq hmro ?_))
  refine wq_ifF rfl ?_
  refine wq_bind (wq_of_wpAny (wpAny_of_eq ft.made ?_))
  refine wq_bind (wq_pure ?_)
  refine wq_bind (wq_holding (wq_of_wpAny (wpAny_call (codeAny_mono (code_list_new (E := fun _ _ => False) (Q₁ := fun obj s₁ => obj = .ref s.heap.objs.size ∧ s₁ = { s with heap := s.heap.push { cls := .type "list", data := .seq #[] } }) _ ⟨rfl, rfl⟩) fun r s₁ hr => ?_))))
  cases r with
  | error e => exact False.elim hr
  | ok fl =>
    cases fl with
    | next => exact hr.elim
    | brk => exact hr.elim
    | cont => exact hr.elim
    | ret obj =>
      obtain ⟨rfl, rfl⟩ := hr
      have hS : (s.heap.push { cls := .type "list", data := .seq #[] }).get? s.heap.objs.size = some { cls := .type "list", data := .seq #[] } := Heap.get?_push_size _ rfl
      have hT : Shared.TypeIs { s with heap := s.heap.push { cls := .type "list", data := .seq #[] } } (.ref s.heap.objs.size) "list" := ⟨_, hS, rfl⟩
      refine wq_bind (wq_of_wpAny (wpAny_isInstance (T := "list") (b := true) hT ft.sub ?_))
      refine wq_ifF rfl ?_
      refine wq_bind (wq_holding (wq_callSpecial hT ft.init (wq_callEntry ft.init hT F.entry_list_init (F.args_list_init_2 _ _) ?_)))
      show wq _ A.in1.in1 (do let old ← Builtin.List.listItems (.ref s.heap.objs.size); Builtin.List.listUpdate (.ref s.heap.objs.size) (fun _ => #[]); letGo old.toList.reverse; Builtin.List.listExtendWith (.ref s.heap.objs.size) (.ref a) .none) _ _ _
      refine wq_bind (wq_of_wpAny ?_)
      unfold Builtin.List.listItems
      refine wpAny_bind (wpAny_seqItems hS rfl (wpAny_pure ?_))
      show wq _ A.in1.in1 (updateSeq s.heap.objs.size (fun _ => #[]) >>= fun _ => letGo (#[] : Array Value).toList.reverse >>= fun _ => Builtin.List.listExtendWith (.ref s.heap.objs.size) (.ref a) .none) _ _ _
      refine wq_bind (wq_of_wpAny (wpAny_updateSeq hS rfl ?_))
      have hS2 := Heap.get?_update_self (Obj.mapSeq (fun _ => (#[] : Array Value))) hS rfl
      refine wq_bind (wq_of_wpAny (wpAny_letGo ?_))
      unfold Builtin.List.listExtendWith
      have up : ∀ (h : Heap) (f : Obj → Obj), (∀ b o, s.heap.get? b = some o → h.get? b = some o) → ∀ b o, s.heap.get? b = some o → (h.update s.heap.objs.size f).get? b = some o := fun h f q b o e =>
        (Heap.get?_update_other _ _ (Ne.symm (Nat.ne_of_lt (Heap.lt_size e)))).trans (q b o e)
      have k1 : ∀ b o, s.heap.get? b = some o → (s.heap.push { cls := .type "list", data := .seq #[] }).get? b = some o := fun b o e => Heap.get?_push_of_some _ e
      have k2 := up _ (Obj.mapSeq (fun _ => (#[] : Array Value))) k1
      have gty : ∀ {h : Heap}, (∀ b o, s.heap.get? b = some o → h.get? b = some o) → h.IsGen a g := fun {h} q => hg.keeps q
      refine wq_bind (wq_of_wpAny (wpAny_typeOf (Heap.IsGen.typeIs (s := { s with heap := _ }) (gty k2)) ?_))
      have h1 : Builtin.List.listSameRef (.ref s.heap.objs.size) (.ref a) = false := by simp [Builtin.List.listSameRef, hSa]
      have h2 : (Value.type "generator" == Value.type "list") = false := by decide
      have h3 : (Value.type "generator" == Value.type "tuple") = false := by decide
      simp only [h1, h2, h3, Bool.or_false, Bool.false_eq_true, if_false]
      refine wq_bind (wq_of_wpAny (wpAny_pyIter_gen (s := { s with heap := _ }) (gty k2) ?_))
      refine wq_bind (wq_of_wpAny (wpAny_holding ?_))
      unfold Builtin.List.listLengthHint
      refine wpAny_bind (wpAny_specialOf (Heap.IsGen.typeIs (s := { s with heap := _ }) (gty k2)) F.gen_no_len ?_)
      show wpAny _ A.in1.in1 (specialOf (Value.ref a) (Str.ofString "__length_hint__") >>= _) _ _ _
      refine wpAny_bind (wpAny_specialOf (Heap.IsGen.typeIs (s := { s with heap := _ }) (gty k2)) F.gen_no_hint ?_)
      refine wpAny_pure ?_
      show wq _ A.in1.in1 (rule "list.extend.makes-room" >>= fun _ => Builtin.List.listTouch (.ref s.heap.objs.size) >>= fun _ =>
        again (.builtin "list.extend.loop" ⟨[.ref s.heap.objs.size, .ref a, .none], []⟩)) _ _ _
      refine wq_bind (wq_of_wpAny (wpAny_rule ?_))
      refine wq_bind (wq_of_wpAny ?_)
      show wpAny _ A.in1.in1 (updateSeq s.heap.objs.size (·.push .none) >>= fun _ => updateSeq s.heap.objs.size (·.pop)) _ _ _
      refine wpAny_bind (wpAny_updateSeq hS2 rfl ?_)
      have hS3 := Heap.get?_update_self (Obj.mapSeq (·.push Value.none)) hS2 rfl
      refine wpAny_updateSeq (hz := by seq_fits) hS3 rfl ?_
      have hS4 := Heap.get?_update_self (Obj.mapSeq (·.pop)) hS3 rfl
      have k4 := up _ (Obj.mapSeq (·.pop)) (up _ (Obj.mapSeq (·.push Value.none)) k2)
      refine wq_pure ⟨plainId_quiet F.plain_extend_loop _, ?_⟩
      refine cq_mono (h _ s.heap.objs.size _ rfl hS4 k4 rfl rfl (by simp only [life_update, Heap.life_push])) fun r s' hr => ?_
      obtain ⟨rfl, hq⟩ := hr
      refine wq_ifF (by decide) ?_
      exact wq_pure hq
end
end BgQ
set_option Elab.async false
set_option linter.all false
set_option maxRecDepth 100000
set_option maxHeartbeats 4000000
namespace BgQ
open PySem PySem.Spec PyProof.Rows L2 GenW BgT
section
variable {P : Program} {w : World} {A : Around} {s : Shared}
/-- a generator's turn, however it is begun -/
def Wk (P : Program) (w : World) (A : Around) (R : Result → Shared → Prop) (Y : Value → Shared → GenState → Prop) (gs : GenState) (s : Shared) : Prop := match gs with
  | .fresh c => Sq (model P w) A R Y c ((model P w).den c) [] s
  | .suspended k _ c _ fs _ => Sq (model P w) A R Y c (k (.send .none)) fs s
  | _ => False
theorem wq_wake {E : Value → Shared → Prop} {a ga : Nat} {gs : GenState} {R : Result → Shared → Prop} {Y : Value → Shared → GenState → Prop} {Q : Option Value → Shared → Prop} (hh : A.handled = none) (hl : s.heap.NoLimit) (hroom : A.depth < recursionLimit) (hg : GenAt s.heap a ga) (hgs : s.gens[ga]? = some gs)
    (hgo : Wk P w A.in1 R Y gs (s.setGen ga .running)) (hP : ∀ r s₁, R r s₁ → r = .ok (.ret .none) ∧ ∀ e h', StopX e h' → (∀ b o, s₁.heap.get? b = some o → h'.get? b = some o) → E e { s₁.setGen ga .finished with heap := h' })
    (hY : ∀ v s₁ gs', Y v s₁ gs' → Q (some v) (s₁.setGen ga gs')) : wq (model P w) A (callSpecial? (.ref a) "__next__") Q E s := by
  refine wq_callSpecial (name := Str.ofString "__next__") hg.typeIs slot_gen_next (wq_callEntry slot_gen_next hg.typeIs entry_gen_next (args_gen_next _) ?_)
  show wq _ A.in1 (Builtin.Generator.genWake (.ref a) (.send .none)) _ _ s
  unfold Builtin.Generator.genWake
  refine wq_bind (wq_of_wpAny (wpAny_holding (num_gen hg ?_)))
  refine wq_bind (wq_of_wpAny (wpAny_genState hgs ?_))
  have hyld : ∀ v s₁ gs', Y v s₁ gs' → wq (model P w) A.in1 (ret v) (fq P w A (fun r s' => match r with | .ok (.ret v) => Q (some v) s' | .ok _ => False | .error e => E e s')) E (s₁.setGen ga gs') := fun v s₁ gs' q => wq_pure (hY v s₁ gs' q)
  have hret : ∀ r s₁, R r s₁ → wq (model P w) A.in1 (match (End.ret r).result with
      | .yielded v => ret v
      | .returned v => do
        if v == .none then raiseNew (← newExc (.type "StopIteration") [])
        rule "generator.return-value"; throw (← newExc (.type "StopIteration") [v])
      | .raised e => Builtin.Generator.genLeft (.ref a) e
      | .running => do rule "generator.already-executing"; raiseError "ValueError" "generator already executing"
      | .justStarted => do rule "generator.send-to-fresh"; raiseError "TypeError" "can't send non-None value to a just-started generator"
      | .finished => do raiseNew (← newExc (.type "StopIteration") [])) (fq P w A (fun r s' => match r with | .ok (.ret v) => Q (some v) s' | .ok _ => False | .error e => E e s')) E (s₁.setGen ga .finished) := fun r s₁ q => by
    obtain ⟨rfl, hp⟩ := hP r s₁ q
    refine wq_of_wpAny ?_
    show wpAny _ A.in1 (newExc (.type "StopIteration") [] >>= _) _ _ _
    refine wpAny_bind ?_
    simp only [newExc, newTuple]
    refine wpAny_bind (wpAny_newObj_type ?_ (by size_fits))
    refine wpAny_bind (m := firstArgMember _ _) (wpAny_of_eq (a := Value.none) (by first | rfl | (simp only [firstArgMember]; rfl)) ?_)
    refine wpAny_newObj_type ?_ (by size_fits)
    simp only [raiseNew]
    refine wpAny_bind (wpAny_bind (wpAny_handled ?_))
    first | rw [show A.in1.handled = none from hh] | rw [hh]
    refine wpAny_throw (hp _ _ ⟨_, _, _, rfl, Heap.get?_push_size _ rfl, rfl, rfl, rfl⟩ fun b o hb => Heap.get?_push_of_some _ (Heap.get?_push_of_some _ hb))
  cases gs with
  | running => exact hgo.elim
  | finished => exact hgo.elim
  | fresh c =>
    refine wq_bind (wq_of_wpAny (wpAny_roomToWake hl hroom ?_))
    show wq _ A.in1 (.resume ga (.send .none) [] _) _ _ s
    exact wq_resumeF hgs hgo (fun r s₁ q => hret r s₁ q) (fun v s₁ gs' q => hyld v s₁ gs' q)
  | suspended k l c p fs cl =>
    refine wq_bind (wq_of_wpAny (wpAny_roomToWake hl hroom ?_))
    show wq _ A.in1 (.resume ga (.send .none) [] _) _ _ s
    exact wq_resumeS hgs hgo (fun r s₁ q => hret r s₁ q) (fun v s₁ gs' q => hyld v s₁ gs' q)
theorem wq_next {E : Value → Shared → Prop} {a ga : Nat} {gs : GenState} {R : Result → Shared → Prop} {Y : Value → Shared → GenState → Prop} {Q : Option Value → Shared → Prop} (hh : A.handled = none) (hl : s.heap.NoLimit) (hroom : A.depth < recursionLimit) (hg : GenAt s.heap a ga) (hgs : s.gens[ga]? = some gs)
    (hgo : Wk P w A.in1 R Y gs (s.setGen ga .running)) (hP : ∀ r s₁, R r s₁ → r = .ok (.ret .none) ∧ ∀ h', (∀ b o, s₁.heap.get? b = some o → h'.get? b = some o) → Q none { s₁.setGen ga .finished with heap := h' })
    (hY : ∀ v s₁ gs', Y v s₁ gs' → Q (some v) (s₁.setGen ga gs')) : wq (model P w) A (pyNext (.ref a)) Q E s := by
  unfold pyNext
  refine wq_bind (wq_attempt (wq_wake hh hl hroom hg hgs hgo (fun r s₁ q => ?_) fun v s₁ gs' q => wq_pure (hY v s₁ gs' q)))
  obtain ⟨e, hp⟩ := hP r s₁ q
  refine ⟨e, fun e h' hS hk => ?_⟩
  obtain ⟨x, o, us, rfl, hox, hcls, _⟩ := hS
  exact wq_bind (wq_of_wpAny (wpAny_isInstance (T := "StopIteration") (b := true) ⟨o, hox, hcls⟩ isSubtype_stop (wq_pure (hp h' hk))))
end
end BgQ
set_option Elab.async false
set_option linter.all false
set_option maxRecDepth 100000
set_option maxHeartbeats 4000000
namespace BgQ
open PySem PySem.Spec PyProof.Rows L2 GenW BgT
structure FinD (lo S : Nat) (s s' : Shared) : Prop where
  os : s'.os = s.os
  bare : AllBare s'.gens
  keep : ∀ (b : Nat) o, b ≠ S → (b < lo ∨ TupO o) → s.heap.get? b = some o → s'.heap.get? b = some o
abbrev RowsP (lo : Nat) (h : Heap) : List Addr → List (List Value) → Prop := Paired (fun (t : Addr) (x : List Value) => @LE.le Nat _ lo t ∧ IsTup h t x.toArray)
theorem setGen_setGen {s : Shared} {g : Nat} {x y : GenState} : (s.setGen g x).setGen g y = s.setGen g y := by
  simp [Shared.setGen]
theorem lst_notTup {acc : Array Value} {c : Nat} : ¬ TupO (lstObj acc c) := fun ⟨_, _, h, _⟩ => absurd (show Value.type "list" = Value.type "tuple" from h) (by decide)
section
variable {P : Program} {w : World} {A : Around} {K : PySem.W.Frag} {mg : Str → Option Value} {base : Heap} {a ga lo S : Nat} {res : Value}
theorem hgo_wk0 {gs : GenState} {s : Shared} (h : HGo P w A lo S ga [] gs s) : Wk P w A (fun r s' => r = .ok (.ret .none) ∧ ChgY lo s s') (fun _ _ _ => False) gs s := by
  cases gs <;> first | exact h | exact h.elim
theorem hgo_wk1 {gs : GenState} {s : Shared} {x : List Value} {R : List (List Value)} (h : HGo P w A lo S ga (x :: R) gs s) :
    Wk P w A (fun _ _ => False) (fun v s' gs' => ∃ t, v = .ref t ∧ lo ≤ t ∧ IsTup s'.heap t x.toArray ∧ ChgY lo s s' ∧ ∀ s2, KeepY S ga s' s2 → HGo P w A lo S ga R gs' s2) gs s := by
  cases gs <;> first | exact h | exact h.elim
theorem cq_drain (mod : Mod K mg base) (hh : A.handled = none) (hd : A.depth < recursionLimit) (haS : a ≠ S) (hal : a < lo) (hSl : S < lo) (hbS : base.objs.size ≤ S) :
    ∀ (R : List (List Value)) (s : Shared) (acc : Array Value) (c : Nat) (gs : GenState), s.heap.get? S = some (lstObj acc c) → GenAt s.heap a ga → BK base s.heap → AllBare (s.setGen ga .running).gens → s.gens[ga]? = some gs → HGo P w A.in1.in1 lo S ga R gs (s.setGen ga .running) → acc.size + R.length < sizeLine →
      cq (model P w) A (.builtin "list.extend.loop" ⟨[.ref S, .ref a, res], []⟩) (fun r s' => r = .ok (.ret res) ∧ ∃ ts c', RowsP lo s'.heap ts R ∧ s'.heap.get? S = some (lstObj (acc ++ (ts.map Value.ref).toArray) c') ∧ FinD lo S s s') s := by
  intro R
  induction R with
  | nil =>
    intro s acc c gs hS hg bk hb hgs hgo hlen
    refine cq_builtin F.entry_extend_loop ?_
    rw [Around.under_plainId F.plain_extend_loop _]
    show wq _ A.in1 (pyNext (.ref a) >>= _) _ _ s
    refine wq_bind (wq_next (A := A.in1) hh (mod.nolimit.keeps bk) hd hg hgs (hgo_wk0 hgo) (fun r s₁ q => ⟨q.1, fun h' hk => wq_pure ?_⟩) fun v s₁ gs' q => q.elim)
    obtain ⟨_, C⟩ := q
    refine ⟨rfl, [], c, .nil, ?_, C.os, allBare_setGen C.bare rfl, fun b o _ hbo e => hk b o (C.keep b o hbo e)⟩
    simpa using hk S _ (C.keep S _ (.inl hSl) hS)
  | cons x R ih =>
    intro s acc c gs hS hg bk hb hgs hgo hlen
    have hgl : ga < s.gens.size := (Array.getElem?_eq_some_iff.mp hgs).1
    refine cq_builtin F.entry_extend_loop ?_
    rw [Around.under_plainId F.plain_extend_loop _]
    show wq _ A.in1 (pyNext (.ref a) >>= _) _ _ s
    refine wq_bind (wq_next (A := A.in1) hh (mod.nolimit.keeps bk) hd hg hgs (hgo_wk1 hgo) (fun r s₁ q => q.elim) fun v s₁ gs' q => ?_)
    obtain ⟨t, rfl, hlt, ht, C, hk⟩ := q
    have hS1 : s₁.heap.get? S = some (lstObj acc c) := C.keep S _ (.inl hSl) hS
    have sz1 : s.gens.size ≤ s₁.gens.size := by
      have h1 := C.gsz
      have h2 : (s.setGen ga .running).gens.size = s.gens.size := setGen_size _ _ _
      omega
    have hacc : acc.size < sizeLine := by simp at hlen; omega
    show wq _ A.in1 (updateSeq S (·.push (.ref t)) >>= _) _ _ _
    refine wq_bind ?_
    refine wq_mono (wq_life (wq_of_wpAny (Q := fun _ s2 => s2 = { s₁.setGen ga gs' with heap := s₁.heap.update S (Obj.mapSeq (·.push (.ref t))) }) (E := fun _ _ => False) (wpAny_updateSeq (s := s₁.setGen ga gs') hS1 rfl rfl (Nat.le_of_lt hacc) (by show (acc.push _).size ≤ sizeLine + 1; rw [Array.size_push]; omega)))) ?_ fun _ _ z => z.1.elim
    rintro _ _ ⟨rfl, hlife⟩
    refine wq_pure ⟨plainId_quiet F.plain_extend_loop _, ?_⟩
    have keep3 : ∀ (b : Nat) o, b ≠ S → s₁.heap.get? b = some o → (s₁.heap.update S (Obj.mapSeq (·.push (.ref t)))).get? b = some o := fun b o hbS e => (Heap.get?_update_other _ _ (Ne.symm hbS)).trans e
    have tup3 : ∀ b o, TupO o → s₁.heap.get? b = some o → (s₁.heap.update S (Obj.mapSeq (·.push (.ref t)))).get? b = some o := fun b o q e => keep3 b o (fun z => by subst z; rw [hS1] at e; cases e; exact lst_notTup q) e
    obtain ⟨c', hS3⟩ : ∃ c', (s₁.heap.update S (Obj.mapSeq (·.push (.ref t)))).get? S = some (lstObj (acc.push (.ref t)) c') := ⟨_, Heap.get?_update_self _ hS1 rfl⟩
    have g1 : ga < s₁.gens.size := Nat.lt_of_lt_of_le hgl sz1
    generalize hh3 : s₁.heap.update S (Obj.mapSeq (·.push (.ref t))) = h3 at keep3 tup3 hS3 hlife ⊢
    have eset : (({ s₁.setGen ga gs' with heap := h3 } : Shared).setGen ga .running).gens = (s₁.setGen ga .running).gens := by simp [Shared.setGen]
    have hb3 : AllBare (({ s₁.setGen ga gs' with heap := h3 } : Shared).setGen ga .running).gens := by rw [eset]; exact allBare_setGen C.bare rfl
    have hgo3 : HGo P w A.in1.in1 lo S ga R gs' (({ s₁.setGen ga gs' with heap := h3 } : Shared).setGen ga .running) := by
      refine hk _ ⟨rfl, hb3, hlife, keep3, tup3, fun i y hi e => ?_, ?_⟩
      · rw [eset, setGen_ne hi]; exact e
      · rw [eset]; exact Nat.le_of_eq (setGen_size _ _ _).symm
    refine cq_mono (ih { s₁.setGen ga gs' with heap := h3 } (acc.push (.ref t)) c' gs' hS3 (hg.at fun o e => keep3 _ o haS (C.keep _ o (.inl hal) e)) (fun b o e => ?_) hb3 (setGen_at (s := s₁) g1) hgo3 (by rw [Array.size_push]; simp at hlen; omega)) ?_
    · have hbl : @LT.lt Nat _ b base.objs.size := Heap.lt_size e
      have nb : @Ne Nat b S := by omega
      have nl : @LT.lt Nat _ b lo := by omega
      exact keep3 b o nb (C.keep b o (.inl nl) (bk b o e))
    · rintro r s' ⟨rfl, ts, c2, hts, hS', D⟩
      refine ⟨rfl, t :: ts, c2, .cons ⟨hlt, ?_⟩ hts, ?_, D.os.trans C.os, D.bare, fun b o n1 hbo e => D.keep b o n1 hbo (keep3 b o n1 (C.keep b o hbo e))⟩
      · obtain ⟨o, e, co, n, dd⟩ := tup_keep ht tup3
        exact ⟨o, D.keep t o (by omega) (.inr ⟨_, n, co, dd⟩) e, co, n, dd⟩
      · rw [hS']
        simp
end
end BgQ
set_option Elab.async false
set_option linter.all false
set_option maxRecDepth 100000
set_option maxHeartbeats 4000000
namespace BgQ
open PySem PySem.Spec PyProof.Rows L2 GenW BgT
section
variable {P : Program} {w : World} {A : Around} {K : PySem.W.Frag} {mg : Str → Option Value} {base : Heap} {a ga S : Nat} {res : Value}
/-- the loop, from a generator that has not begun -/
theorem cq_drainF {D : List (List Value) → Nat → Shared → Prop} {s : Shared} {c : Nat} {gs : GenState} (mod : Mod K mg base) (hh : A.handled = none) (hd : A.depth < recursionLimit) (haS : a ≠ S) (hbS : base.objs.size ≤ S) (hS : s.heap.get? S = some (lstObj #[] c)) (hg : GenAt s.heap a ga) (bk : BK base s.heap) (hgs : s.gens[ga]? = some gs)
    (hD : ∀ R lo s1, D R lo s1 → R.length < sizeLine ∧ a < lo ∧ S < lo ∧ BK base s1.heap ∧ s1.heap.get? S = some (lstObj #[] c) ∧ GenAt s1.heap a ga ∧ ga < s1.gens.size)
    (hw : Wk P w A.in1.in1 (fun r s' => r = .ok (.ret .none) ∧ ∃ lo s1, D [] lo s1 ∧ ChgY lo s1 s') (fun v s' gs' => ∃ x R' lo s1 t, D (x :: R') lo s1 ∧ v = .ref t ∧ lo ≤ t ∧ IsTup s'.heap t x.toArray ∧ ChgY lo s1 s' ∧ ∀ s2, KeepY S ga s' s2 → HGo P w A.in1.in1 lo S ga R' gs' s2) gs (s.setGen ga .running)) : cq (model P w) A (.builtin "list.extend.loop" ⟨[.ref S, .ref a, res], []⟩) (fun r s' => r = .ok (.ret res) ∧ ∃ R lo s1 ts c', D R lo s1 ∧ RowsP lo s'.heap ts R ∧ s'.heap.get? S = some (lstObj (ts.map Value.ref).toArray c') ∧ FinD lo S s1 s') s := by
  refine cq_builtin F.entry_extend_loop ?_
  rw [Around.under_plainId F.plain_extend_loop _]
  show wq _ A.in1 (pyNext (.ref a) >>= _) _ _ s
  refine wq_bind (wq_next (A := A.in1) hh (mod.nolimit.keeps bk) hd hg hgs hw (fun r s₁ q => ⟨q.1, fun h' hk => wq_pure ?_⟩) fun v s₁ gs' q => ?_)
  · obtain ⟨_, lo, s1, d, C⟩ := q
    obtain ⟨_, d1, d2, d3, d4, d5, d6⟩ := hD _ lo s1 d
    refine ⟨rfl, [], lo, s1, [], c, d, .nil, ?_, C.os, allBare_setGen C.bare rfl, fun b o _ hbo e => hk b o (C.keep b o hbo e)⟩
    simpa using hk S _ (C.keep S _ (.inl d2) d4)
  · obtain ⟨x, R', lo, s1, t, d, rfl, hlt, ht, C, hk⟩ := q
    obtain ⟨hlen, hal, hSl, bk1, hS0, hg0, g0⟩ := hD _ lo s1 d
    have hS1 : s₁.heap.get? S = some (lstObj #[] c) := C.keep S _ (.inl hSl) hS0
    have hacc : (#[] : Array Value).size < sizeLine := by show 0 < sizeLine; decide
    show wq _ A.in1 (updateSeq S (·.push (.ref t)) >>= _) _ _ _
    refine wq_bind ?_
    refine wq_mono (wq_life (wq_of_wpAny (Q := fun _ s2 => s2 = { s₁.setGen ga gs' with heap := s₁.heap.update S (Obj.mapSeq (·.push (.ref t))) }) (E := fun _ _ => False) (wpAny_updateSeq (s := s₁.setGen ga gs') hS1 rfl rfl (Nat.le_of_lt hacc) (by show 1 ≤ sizeLine + 1; decide)))) ?_ fun _ _ z => z.1.elim
    rintro _ _ ⟨rfl, hlife⟩
    refine wq_pure ⟨plainId_quiet F.plain_extend_loop _, ?_⟩
    have keep3 : ∀ (b : Nat) o, b ≠ S → s₁.heap.get? b = some o → (s₁.heap.update S (Obj.mapSeq (·.push (.ref t)))).get? b = some o := fun b o hbS e => (Heap.get?_update_other _ _ (Ne.symm hbS)).trans e
    have tup3 : ∀ b o, TupO o → s₁.heap.get? b = some o → (s₁.heap.update S (Obj.mapSeq (·.push (.ref t)))).get? b = some o := fun b o q e => keep3 b o (fun z => by subst z; rw [hS1] at e; cases e; exact lst_notTup q) e
    obtain ⟨c', hS3⟩ : ∃ c', (s₁.heap.update S (Obj.mapSeq (·.push (.ref t)))).get? S = some (lstObj #[.ref t] c') := ⟨_, Heap.get?_update_self _ hS1 rfl⟩
    have g1 : ga < s₁.gens.size := Nat.lt_of_lt_of_le g0 C.gsz
    generalize hh3 : s₁.heap.update S (Obj.mapSeq (·.push (.ref t))) = h3 at keep3 tup3 hS3 hlife ⊢
    have eset : (({ s₁.setGen ga gs' with heap := h3 } : Shared).setGen ga .running).gens = (s₁.setGen ga .running).gens := by simp [Shared.setGen]
    have hb3 : AllBare (({ s₁.setGen ga gs' with heap := h3 } : Shared).setGen ga .running).gens := by rw [eset]; exact allBare_setGen C.bare rfl
    have hgo3 : HGo P w A.in1.in1 lo S ga R' gs' (({ s₁.setGen ga gs' with heap := h3 } : Shared).setGen ga .running) := by
      refine hk _ ⟨rfl, hb3, hlife, keep3, tup3, fun i y hi e => ?_, ?_⟩
      · rw [eset, setGen_ne hi]; exact e
      · rw [eset]; exact Nat.le_of_eq (setGen_size _ _ _).symm
    refine cq_mono (cq_drain (res := res) mod hh hd haS hal hSl hbS R' { s₁.setGen ga gs' with heap := h3 } #[.ref t] c' gs' hS3 (hg0.at fun o e => keep3 _ o haS (C.keep _ o (.inl hal) e)) (fun b o e => ?_) hb3 (setGen_at (s := s₁) g1) hgo3 (by show 1 + R'.length < sizeLine; simp at hlen; omega)) ?_
    · have hbl : @LT.lt Nat _ b base.objs.size := Heap.lt_size e
      have nb : @Ne Nat b S := by omega
      have nl : @LT.lt Nat _ b lo := by omega
      exact keep3 b o nb (C.keep b o (.inl nl) (bk1 b o e))
    · rintro r s' ⟨rfl, ts, c2, hts, hS', D'⟩
      refine ⟨rfl, x :: R', lo, s1, t :: ts, c2, d, .cons ⟨hlt, ?_⟩ hts, ?_, D'.os.trans C.os, D'.bare, fun b o n1 hbo e => D'.keep b o n1 hbo (keep3 b o n1 (C.keep b o hbo e))⟩
      · obtain ⟨o, e, co, n, dd⟩ := tup_keep ht tup3
        exact ⟨o, D'.keep t o (by omega) (.inr ⟨_, n, co, dd⟩) e, co, n, dd⟩
      · rw [hS']
        simp
end
/-! ### the pieces of a body -/
section
variable {M : Model} {A : Around} {R R' : Result → Shared → Prop} {Y Y' : Value → Shared → GenState → Prop} {c : Code} {fs : List Frame} {s : Shared}
theorem Sq.mono {t : Sem PySem.Fin} (h : Sq M A R Y c t fs s) (hR : ∀ r s, R r s → R' r s) (hY : ∀ v s g, Y v s g → Y' v s g) : Sq M A R' Y' c t fs s := by
  intro g k l cc pp st p hΓ
  obtain ⟨s', h2⟩ := h g k l cc pp st p hΓ
  exact ⟨s', h2.imp (fun ⟨r, c1, p1, q, g2⟩ => ⟨r, c1, p1, hR _ _ q, g2⟩) fun ⟨v, gs, q, g2⟩ => ⟨v, gs, hY _ _ _ q, g2⟩⟩
theorem execs_app_wrap {β : Type} {env : Env} {K : Flow → Sem β} {J : Value → Sem β} {gd : Bool → Bool} {lv : List Value → List Value} : ∀ (pre post : List Stmt), (execs (pre ++ post) env).wrap K J gd lv = (execs pre env).wrap (fun f => match f with | .next => (execs post env).wrap K J gd lv | f => K f) J gd lv
  | [], post => rfl
  | st :: pre, post => by
    rw [List.cons_append, execs_cons, execs_cons, Sem.bind_eq_wrap', Sem.bind_eq_wrap', Sem.wrap_wrap, Sem.wrap_wrap]
    refine Sem.wrap_congr _ _ _ (fun f => ?_) (fun _ => rfl)
    cases f with
    | next => exact execs_app_wrap pre post
    | brk => rfl
    | cont => rfl
    | ret v => rfl
theorem sq_execs_app {env : Env} {pre post : List Stmt} {K : Flow → Sem PySem.Fin} {J : Value → Sem PySem.Fin} {gd : Bool → Bool} {lv : List Value → List Value}
    (h : wq M (A.over c fs) (execs pre env) (fun f s' => Sq M A R Y c (match f with | .next => (execs post env).wrap K J gd lv | f => K f) fs s') (fun e s' => Sq M A R Y c (J e) fs s') s) : Sq M A R Y c ((execs (pre ++ post) env).wrap K J gd lv) fs s := by
  rw [execs_app_wrap]; exact sq_wrap h
end
section
variable {P : Program} {w : World} {A : Around} {R : Result → Shared → Prop} {Y : Value → Shared → GenState → Prop} {s : Shared} {env : Env} {fs : List Frame}
theorem sq_func {body : List Stmt}
    (h : Sq (model P w) A R Y (.func body env) ((execs body env).wrap (fun f => .pure (.done (.ret (match f with | .ret v => v | _ => .none)))) (fun e => (leaving env e).wrap (fun _ => .raise e) .raise id id) id id) fs s) :
    Sq (model P w) A R Y (.func body env) ((model P w).den (.func body env)) fs s := by
  show Sq _ A R Y _ (.point [] fun _ => ((execs body env).onRaise (leaving env)) >>= _) fs s
  refine sq_point ?_
  rw [Sem.onRaise_eq_wrap, Sem.bind_eq_wrap', Sem.wrap_wrap]
  rw [Sem.wrap_congr (execs body env) _ _ (K' := fun f => .pure (.done (.ret (match f with | .ret v => v | _ => .none))))
    (H' := fun e => (leaving env e).wrap (fun _ => .raise e) .raise id id) (fun f => by cases f <;> rfl)
    (fun e => by rw [Sem.bind_eq_wrap, Sem.wrap_wrap]; rfl)]
  exact h
end
end BgQ
set_option Elab.async false
set_option linter.all false
set_option maxRecDepth 100000
set_option maxHeartbeats 4000000
namespace BgQ
open PySem PySem.Spec PyProof.Rows L2 GenW BgT
section
variable {P : Program} {w : World} {K : PySem.W.Frag} {mg : Str → Option Value} {base : Heap}
abbrev NE : List Str := ["system", "limit", "parts", "many", "component"]
theorem sc_all_entries : GScope NE ["system", "limit"] (defScope s_all_entries) := ⟨rfl, rfl, rfl, by decide +kernel, rfl, by decide +kernel, by decide +kernel⟩
theorem sc_choices : GScope ["parts", "others", "cell", "rest"] ["parts"] (defScope s_choices) := ⟨rfl, rfl, rfl, by decide +kernel, rfl, by decide +kernel, by decide +kernel⟩
theorem bd_choices {K : PySem.W.Frag} {mg : Str → Option Value} (T : Tx K mg) : Binds K (fdOf K (He.ga K "choices")) ["parts"] [] := T.F_choices.bindsN (fun _ _ _ _ _ _ us hl => match us, hl with | [_], _ => rfl)
theorem bd_all_entries {K : PySem.W.Frag} {mg : Str → Option Value} (T : Tx K mg) : ∃ ds, Vals [V.int 1000] ds ∧ Binds K (fdOf K (He.ga K "all_entries")) ["system", "limit"] ds :=
  T.F_all_entries.binds0 1 (by simp) rfl (fun D doc pm an cdv ct us ks l1 l2 => by
    match us, l1, ks, l2 with
    | [u0], _, [k0], _ => exact ⟨_, _, _, _, _, _, rfl, rfl, rfl⟩)
theorem ip_mul {X : Cx} : PIp X .Mult (rI CMul fun i j => .int (i * j)) := iop_mul
def prW (W : List (List Nat)) : Nat := W.foldl (fun m D => m * D.length) 1
theorem prW_snoc (W : List (List Nat)) (D : List Nat) : prW (W ++ [D]) = prW W * D.length := by simp [prW]
theorem comp_len24 {rows : List BgT.Row} (hok : RowsOk rows) : ∀ D ∈ Bg.comps (sysOf rows), D.length ≤ 24 := fun D hD => by
  obtain ⟨i, hi, e⟩ := List.mem_iff_getElem.mp hD
  have p := Bg.comps_parts hok.sys
  have hc := p.comp i D (by rw [List.getElem?_eq_getElem hi, e])
  have h1 := Bg.nodup_le (sysOf rows).n D ((p.asc D hD).imp fun h => Nat.ne_of_lt h) fun b hb => hc.lt b hb
  have h2 := hok.le
  have h3 : (sysOf rows).n = rows.length := rfl
  omega
abbrev gxE (P : Program) (w : World) (K : PySem.W.Frag) (mg : Str → Option Value) (base : Heap) (cdv : Value) (A : Around) (outer : List Env) (s : Shared) (H : Hp) : Cx := gcxOf P w K mg base NE "all_entries" (defScope s_all_entries) (He.ga K "all_entries") cdv A outer s H (fun _ _ _ => False) []
/-- all_entries ahead of its «yield from» -/
theorem pre_all_entries (T : Tx K mg) {cdv : Value} {A : Around} {outer : List Env} {s : Shared} {H : Hp} (hr : Room 10 (A.deeper (envOfC "all_entries" (defScope s_all_entries) s.heap.objs.size (He.ga K "all_entries") cdv))) {x : Addr} {rows : List BgT.Row} (hs : SysAt K H x rows) (hok : RowsOk rows) (hp : prW (Bg.comps (sysOf rows)) ≤ 1000) :
    ∃ t, PSs (gxE P w K mg base cdv A outer s H).nox ((defBody s_all_entries).take 4) t ∧ t { nx := fun σ H' => ∃ pp us, σ[2]? = some (some (.ref pp)) ∧ Same H H' ∧ H' pp = some (.tup us) ∧ CsAt H' us (Bg.comps (sysOf rows)), rt := fun _ _ => False } (L2.start NE [.ref x, .int 1000]) H := by
  refine ⟨_, (pss_cons (ps_set (i := 2) sc_all_entries.nd rfl (Or.inl rfl) (pe_call (ok_components T) (hr.mono (by decide)) rfl T.g_components T.F_components.kp (bd_components T) .nil pass0 (pa_cons (pv 0) pa_nil)))
 (pss_cons (ps_set (i := 3) sc_all_entries.nd rfl (Or.inl rfl) pe_int)
 (pss_cons (ps_for PassesOwn.never rfl (pi_tup (pv 2)) (pg_name (i := 4) sc_all_entries.nd rfl (Or.inl rfl))
 (pss_one (ps_aug (i := 3) sc_all_entries.nd rfl (Or.inl rfl) (pe_callB call_len_seq (by rfl) T.b_len (by decide +kernel) (pa_cons (pv 4) pa_nil)) ip_mul)))
 (pss_one (ps_if (pt_cmpR op_gt (pv 3) (pv 1) (nomark _))
 pss_never
 pss_nil))))), ?_⟩
  refine ⟨_, rfl, x, rows, rfl, hs, hok, fun H1 pp us s1 hpp hcs => ?_⟩
  refine ⟨_, rfl, pp, rfl, ⟨us, SqT.of hpp⟩, ?_⟩
  have hcl := hcs.len
  have hlt := comp_len24 hok
  refine for_it (walk_tup (K := K) (a := pp) (xs := us)) (fun i σ H' => ∃ c : Option V, σ = [some (.ref x), some (.int 1000), some (.ref pp), some (.int ((prW ((Bg.comps (sysOf rows)).take i) : Nat) : Int)), c] ∧ H' = H1) ⟨none, rfl, rfl⟩ (fun i σ H' _ h => by obtain ⟨c, rfl, rfl⟩ := h; exact SqT.of hpp) ?_ ?_
  · rintro i y σ H3 H3' hi ⟨c, rfl, rfl⟩ ⟨rfl, hy⟩
    obtain ⟨a, D, rfl, hD, ha⟩ := hcs.get hy
    have hDl := hlt D (List.mem_of_getElem? hD)
    refine ⟨_, rfl, _, rfl, a, _, rfl, .inr (SqT.of ha), _, _, rfl, rfl, .inr ⟨?_, ?_⟩, some (.ref a), ?_, rfl⟩
    · rw [List.length_map]; omega
    · rw [List.length_map]; omega
    · rw [take_snoc hD, prW_snoc, List.length_map]
      simp
  · rintro σ H3 ⟨c, rfl, rfl⟩
    rw [hcl, List.take_length]
    refine ⟨_, rfl, _, rfl, _, _, rfl, rfl, _, rfl, ?_⟩
    rw [decide_eq_false (by omega)]
    exact iteF ⟨pp, us, rfl, s1, hpp, hcs⟩
end
end BgQ
set_option Elab.async false
set_option linter.all false
set_option maxRecDepth 100000
set_option maxHeartbeats 4000000
namespace BgQ
open PySem PySem.Spec PyProof.Rows L2 GenW BgT
section
variable {P : Program} {w : World} {K : PySem.W.Frag} {mg : Str → Option Value} {base : Heap}
theorem over_yf {A : Around} {c : Code} {fs : List Frame} {k : Result → Sem PySem.Fin} {g : Bool} {l kp : List Value} {p : Pos} {ac : Nat} : A.over (yfc ac) (.ret k none g l c p kp :: fs) = (A.over c fs).in1 := by
  have hw : (yfc ac).weight = 0 := plainId_weight plain_yf _
  have hu : (yfc ac).cUnits = 1 := plainId_units plain_yf _
  have e2 : A.depth + frameCount ((Frame.ret k none g l c p kp :: fs).map Frame.where_) + (yfc ac).weight = A.depth + frameCount (fs.map Frame.where_) + c.weight := by
    show A.depth + frameCount ((c, p) :: fs.map Frame.where_) + (yfc ac).weight = _
    rw [frameCount_cons, hw]; omega
  have e3 : pushEnvs (yfc ac).envs (pushEnvs (envsOf ((Frame.ret k none g l c p kp :: fs).map Frame.where_)) A.frames) = pushEnvs c.envs (pushEnvs (envsOf (fs.map Frame.where_)) A.frames) := by
    show pushEnvs (yfc ac).envs (pushEnvs (envsOf ((c, p) :: fs.map Frame.where_)) A.frames) = _
    rw [Code.envs_of_weight hw, envsOf_cons]
    simp only [pushEnvs_eq]
    cases A.frames <;> simp [List.append_assoc]
  have e4 : pushGuards (yfc ac).guards (pushGuards (guardsOf ((Frame.ret k none g l c p kp :: fs).map Frame.where_)) A.guards) = pushGuards c.guards (pushGuards (guardsOf (fs.map Frame.where_)) A.guards) := by
    show pushGuards (yfc ac).guards (pushGuards (guardsOf ((c, p) :: fs.map Frame.where_)) A.guards) = _
    rw [Code.guards_of_weight hw, guardsOf_cons]
    simp only [pushGuards_eq]
    cases A.guards <;> simp [List.append_assoc]
  have e5 : A.units + unitsOf ((Frame.ret k none g l c p kp :: fs).map Frame.where_) + (yfc ac).cUnits = A.units + unitsOf (fs.map Frame.where_) + c.cUnits + 1 := by
    show A.units + unitsOf ((c, p) :: fs.map Frame.where_) + (yfc ac).cUnits = _
    rw [unitsOf_cons, hu]; omega
  have e1 : (marksOver (Frame.ret k none g l c p kp :: fs) (A.handled, A.handled)).1 = (marksOver fs (A.handled, A.handled)).1 := rfl
  show (⟨(marksOver (Frame.ret k none g l c p kp :: fs) (A.handled, A.handled)).1, A.depth + frameCount ((Frame.ret k none g l c p kp :: fs).map Frame.where_) + (yfc ac).weight,
    pushEnvs (yfc ac).envs (pushEnvs (envsOf ((Frame.ret k none g l c p kp :: fs).map Frame.where_)) A.frames), pushGuards (yfc ac).guards (pushGuards (guardsOf ((Frame.ret k none g l c p kp :: fs).map Frame.where_)) A.guards),
    A.units + unitsOf ((Frame.ret k none g l c p kp :: fs).map Frame.where_) + (yfc ac).cUnits⟩ : Around) = _
  rw [e1, e2, e3, e4, e5]
  rfl
theorem paired_right {α β : Type} {F : α → β → Prop} : ∀ {xs : List α} {ys : List β}, Paired F xs ys → ∀ y ∈ ys, ∃ x ∈ xs, F x y
  | _, _, .nil, y, h => by cases h
  | _, _, .cons r t, y, h => by
    rcases List.mem_cons.mp h with e | h
    · exact ⟨_, List.mem_cons_self, by rw [e]; exact r⟩
    · obtain ⟨x, hx, q⟩ := paired_right t y h
      exact ⟨x, List.mem_cons_of_mem _ hx, q⟩
theorem sqw_bind2 {α β γ : Type} {M : Model} {A : Around} {R : Result → Shared → Prop} {Y : Value → Shared → GenState → Prop} {c : Code} {fs : List Frame} {s : Shared} {m : Sem α} {f : α → Sem β} {f2 : β → Sem γ} {K : γ → Sem PySem.Fin} {J : Value → Sem PySem.Fin} {gd : Bool → Bool} {lv : List Value → List Value}
    (h : wq M (A.over c fs) m (fun a s' => Sq M A R Y c ((f a).wrap (fun b => (f2 b).wrap K J gd lv) J gd lv) fs s') (fun e s' => Sq M A R Y c (J e) fs s') s) : Sq M A R Y c (((m >>= f) >>= f2).wrap K J gd lv) fs s := by
  rw [Sem.bind_eq_wrap' (m >>= f) f2, Sem.wrap_wrap]
  exact sq_bind_wrap h
theorem parts_raw {H : Hp} {h : Heap} (hok : HOk P w H h) : ∀ (us : List V) (W : List (List Nat)) (its : List Value), CsAt H us W → Vals us its →
    ∃ (ps : List Addr) (Wv : List (List Value)), its = ps.map Value.ref ∧ Paired (fun p (x : List Value) => IsTup h p x.toArray) ps Wv ∧ Paired (fun (D : List Nat) x => Vals (D.map vn) x) W Wv := by
  intro us
  induction us with
  | nil =>
    intro W its hc r
    cases r
    have hl := hc.len
    cases W with
    | nil => exact ⟨[], [], rfl, .nil, .nil⟩
    | cons D W => simp at hl
  | cons v us ih =>
    intro W its hc r
    have hl := hc.len
    cases W with
    | nil => simp at hl
    | cons D W =>
      cases r with
      | cons r rs =>
        rename_i u its
        obtain ⟨a, h1, h2⟩ := hc.at_ (i := 0) (D := D) rfl
        have e1 : v = .ref a := Option.some.inj h1
        subst e1
        obtain rfl : u = Value.ref a := r
        obtain ⟨_, xs, rx, tx⟩ := hok a _ h2
        obtain ⟨ps, Wv, e, p1, p2⟩ := ih W its ⟨by simpa using hc.1, fun i d e => by
          obtain ⟨b, h3, h4⟩ := hc.2 (i + 1) d (by simpa using e)
          exact ⟨b, by simpa using h3, h4⟩⟩ rs
        exact ⟨a :: ps, xs :: Wv, by rw [e]; rfl, .cons tx p1, .cons rx p2⟩
theorem hsq_to {A : Around} {lo S ga : Nat} {R : List (List Value)} {s₀ s : Shared} {c : Code} {t : Sem PySem.Fin} {fs : List Frame} {D : List (List Value) → Prop} {R1 : Result → Shared → Prop} {Y1 : Value → Shared → GenState → Prop} (hD : D R) (h : HSq P w A lo S ga R s₀ c t fs s)
    (h1 : D [] → ∀ s', ChgY lo s₀ s' → R1 (.ok (.ret .none)) s') (h2 : ∀ x R', D (x :: R') → ∀ v s' gs' t, v = .ref t → lo ≤ t → IsTup s'.heap t x.toArray → ChgY lo s₀ s' → (∀ s2, KeepY S ga s' s2 → HGo P w A lo S ga R' gs' s2) → Y1 v s' gs') : Sq (model P w) A R1 Y1 c t fs s := by
  cases R with
  | nil => exact Sq.mono h (fun r s' ⟨e, C⟩ => by rw [e]; exact h1 hD s' C) fun _ _ _ z => z.elim
  | cons x R => exact Sq.mono h (fun _ _ z => z.elim) fun v s' gs' ⟨t, a, b, c, d, e⟩ => h2 x R hD v s' gs' t a b c d e
/-- behind the opening statements -/
structure DE (P : Program) (w : World) (K : PySem.W.Frag) (mg : Str → Option Value) (base : Heap) (cdv : Value) (A : Around) (outer : List Env) (sc : Shared) (H : Hp) (pins : List (Addr × Obj)) (rows : List BgT.Row) (ga : Nat) (R : List (List Value)) (lo : Nat) (s1 : Shared) : Prop where
  ex : ∃ (σ1 : L2.St) (H1 : Hp) (Wv : List (List Value)), Inv (gxE P w K mg base cdv A outer sc H) pins σ1 H1 s1 ∧ Same H H1 ∧ Paired (fun (D : List Nat) x => Vals (D.map vn) x) (Bg.comps (sysOf rows)) Wv ∧ R = chV Wv
  size : lo = s1.heap.objs.size
  gg : ga < s1.gens.size
theorem body_all_entries : ∃ p1 p2 p3 yp ep, defBody s_all_entries = (defBody s_all_entries).take 4 ++ [.Expr (.YieldFrom (.Call (.Name "choices" p1) [.Name "parts" p2] [] p3) yp) ep] := ⟨_, _, _, _, _, rfl⟩
theorem wk_all_entries (T : Tx K mg) (mod : Mod K mg base) {A : Around} {outer : List Env} {sc : Shared} {H : Hp} {cdv : Value} {s : Shared} {a ga S c : Nat} {oa : Obj} {x : Addr} {rows : List BgT.Row} (hr : Room 70 A)
    (I : Inv (gxE P w K mg base cdv A outer sc H) [(S, lstObj #[] c), (a, oa)] (L2.start NE [.ref x, .int 1000]) H s) (hgs : ga < s.gens.size) (hz : s.asleep) (hs : SysAt K H x rows) (hok : RowsOk rows) (hp : prW (Bg.comps (sysOf rows)) ≤ 1000) (hbS : base.objs.size ≤ S) :
    Sq (model P w) A (fun r s' => r = .ok (.ret .none) ∧ ∃ lo s1, DE P w K mg base cdv A outer sc H [(S, lstObj #[] c), (a, oa)] rows ga [] lo s1 ∧ ChgY lo s1 s') (fun v s' gs' => ∃ x R' lo s1 t, DE P w K mg base cdv A outer sc H [(S, lstObj #[] c), (a, oa)] rows ga (x :: R') lo s1 ∧ v = .ref t ∧ lo ≤ t ∧ IsTup s'.heap t x.toArray ∧ ChgY lo s1 s' ∧ ∀ s2, KeepY S ga s' s2 → HGo P w A lo S ga R' gs' s2)
      (.func (defBody s_all_entries) (envOfC "all_entries" (defScope s_all_entries) sc.heap.objs.size (He.ga K "all_entries") cdv)) ((model P w).den (.func (defBody s_all_entries) (envOfC "all_entries" (defScope s_all_entries) sc.heap.objs.size (He.ga K "all_entries") cdv))) [] s := by
  refine sq_func ?_
  obtain ⟨p1, p2, p3, yp, ep, hbody⟩ := body_all_entries
  have hdp : Room 69 (A.deeper (envOfC "all_entries" (defScope s_all_entries) sc.heap.objs.size (He.ga K "all_entries") cdv)) := hr.deeper _
  obtain ⟨t, ht, hq⟩ := pre_all_entries (P := P) (w := w) (base := base) T (cdv := cdv) (A := A) (outer := outer) (s := sc) (H := H) (hdp.mono (by decide)) hs hok hp
  rw [show (execs (defBody s_all_entries) (envOfC "all_entries" (defScope s_all_entries) sc.heap.objs.size (He.ga K "all_entries") cdv)) = execs ((defBody s_all_entries).take 4 ++ [.Expr (.YieldFrom (.Call (.Name "choices" p1) [.Name "parts" p2] [] p3) yp) ep]) (envOfC "all_entries" (defScope s_all_entries) sc.heap.objs.size (He.ga K "all_entries") cdv) from congrArg (fun b => execs b _) hbody]
  refine sq_execs_app ?_
  rw [over_func]
  refine wq_mono (wq_life (wq_of_wpAny (E := fun _ _ => False) (wpAny_gsz (n := ga + 1) hgs (wpAny_mono (ht.run _ s _ H _ (I.wish _) hq) (fun f s1 q (hn : ga + 1 ≤ s1.gens.size) => And.intro q hn) fun _ _ z => False.elim z)))) ?_ fun _ _ z => z.1.elim
  rintro f s1 ⟨⟨hSP, hg1⟩, hlife⟩
  cases f with
  | brk => obtain ⟨_, _, _, q⟩ := hSP; exact q.elim
  | cont => obtain ⟨_, _, _, q⟩ := hSP; exact q.elim
  | ret u => obtain ⟨_, _, _, _, _, q⟩ := hSP; exact q.elim
  | next =>
    obtain ⟨σ1, H1, I1, pp, us, hσ, sH, hpp, hcs⟩ := hSP
    have I1 : Inv (gxE P w K mg base cdv A outer sc H) [(S, lstObj #[] c), (a, oa)] σ1 H1 s1 := I1.unwish
    have hz1 : s1.asleep := by unfold Shared.asleep at hz ⊢; rw [hlife]; exact hz
    obtain ⟨_, its, rits, tpp⟩ := I1.hok pp _ hpp
    obtain ⟨ps, Wv, rfl, pps, pWv⟩ := parts_raw I1.hok us (Bg.comps (sysOf rows)) its hcs rits
    have hlenW := Paired.length pWv
    refine sq_execs_cons ?_
    rw [exec_Expr _ _ ep rfl rfl]
    refine sq_at (p' := ep) (k := fun _ => ((eval (.Call (.Name "choices" p1) [.Name "parts" p2] [] p3) (envOfC "all_entries" (defScope s_all_entries) sc.heap.objs.size (He.ga K "all_entries") cdv) >>= fun v => (standAt yp >>= fun _ => yieldFrom (envOfC "all_entries" (defScope s_all_entries) sc.heap.objs.size (He.ga K "all_entries") cdv) v)) >>= fun x => dropValue (.YieldFrom (.Call (.Name "choices" p1) [.Name "parts" p2] [] p3) yp) ep x).wrap _ _ id id) ?_
    refine sqw_bind2 ?_
    rw [over_func]
    obtain ⟨m, hn, hl⟩ := I1.loc
    obtain ⟨u, ru, hlk⟩ := hl 2 "parts" (.ref pp) rfl hσ (.inl rfl)
    obtain rfl : u = Value.ref pp := ru
    have hm : m "parts" = some (.ref pp) := by
      rcases hlk with ⟨_, h⟩ | ⟨h, _⟩
      · exact h
      · rcases h with h | h <;> exact absurd (h.symm.trans (show _ = some NameKind.local from rfl)) (by simp)
    refine wq_mono (wq_life (wq_of_wpAny (E := fun _ _ => False) (rw_gen (K := K) (mg := mg) (base := base) (g := "choices") (m := m) (u := .ref pp) ⟨mod, rfl, rfl, rfl⟩ T.F_choices sc_choices rfl (bd_choices T) hdp.depth rfl (by decide) I1.bk T.g_choices rfl (by decide) hn hm fun v s2 hG => hG))) ?_ fun _ _ z => z.1.elim
    rintro v s2 ⟨hG, hlife2⟩
    have hz2 : s2.asleep := by unfold Shared.asleep at hz1 ⊢; rw [hlife2]; exact hz1
    obtain ⟨ac, cdc, mi, rfl, q1, q2, q3, q4, q5, q6, q7, q8⟩ := hG
    have lS : @LT.lt Nat _ S s1.heap.objs.size := Heap.lt_size (I1.pin (S, lstObj #[] c) (by simp)).1
    have gsz2 : s2.gens.size = s1.gens.size + 1 := by rw [q4]; exact Array.size_push ..
    have bare2 : AllBare s2.gens := by rw [q4]; exact AllBare.push I1.bare rfl
    have C2 : ChgY s1.heap.objs.size s1 s2 := ⟨q5, bare2, fun b o _ e => q6 b o e, by omega⟩
    have bk2 : BK base s2.heap := fun b o e => q6 b o (I1.bk b o e)
    have hbl : base.objs.size ≤ s1.heap.objs.size := Nat.le_trans I1.ok.bsz I1.sz
    refine sq_at ?_
    show Sq _ _ _ _ _ ((yieldFrom (envOfC "all_entries" (defScope s_all_entries) sc.heap.objs.size (He.ga K "all_entries") cdv) (.ref ac)).wrap (fun b => (dropValue (.YieldFrom (.Call (.Name "choices" p1) [.Name "parts" p2] [] p3) yp) ep b).wrap _ _ id id) _ id id) _ _
    unfold yieldFrom
    obtain ⟨og, nmg, qng, eog, cog, dog, sog⟩ := id q3
    refine sq_bind_wrap (wq_of_wpAny (wpAny_typeOf (T := "generator") ⟨og, eog, cog⟩ ?_))
    rw [if_neg (show ¬ ((Value.type "generator" == Value.type "coroutine") = true) from by decide)]
    refine sq_bind_wrap (wq_of_wpAny (wpAny_holding ?_))
    refine wpAny_pyIter_gen q3 ?_
    refine sq_call fun p => ?_
    have hDE : DE P w K mg base cdv A outer sc H [(S, lstObj #[] c), (a, oa)] rows ga (chV Wv) s1.heap.objs.size s1 := ⟨⟨σ1, H1, Wv, I1, sH, pWv, rfl⟩, rfl, hg1⟩
    refine hsq_to (lo := s1.heap.objs.size) (s₀ := s1) (S := S) (ga := ga) (R := chV Wv) (D := fun R => DE P w K mg base cdv A outer sc H [(S, lstObj #[] c), (a, oa)] rows ga R s1.heap.objs.size s1) hDE ?_ ?_ ?_
    · refine sq_yfg (K := K) (mg := mg) (base := base) (B := (A.deeper (envOfC "all_entries" (defScope s_all_entries) sc.heap.objs.size (He.ga K "all_entries") cdv)).in1) (gc := s1.gens.size) (W := Wv) mod ?_ hdp.hd hdp.depth rfl rfl hbl (Nat.le_of_lt q1) lS hbS (by omega) (fun s₀ s' C' => ?_) (chV Wv) s1 s2 C2 hz2 bk2 ?_
      · exact (over_yf ..).trans (congrArg Around.in1 over_func)
      · refine sq_leaf (.ok (.ret .none)) ?_
        exact sq_end (.ok (.ret .none)) ⟨rfl, C'⟩
      · have hgc : s2.gens[s1.gens.size]? = some (.fresh (.func (defBody s_choices) (envOfC "choices" (defScope s_choices) s1.heap.objs.size (He.ga K "choices") cdc))) := by rw [q4]; exact Array.getElem?_push_size ..
        refine ⟨⟨[], rfl⟩, GenAt.of q3, _, hgc, rfl, ?_⟩
        have hgr : (s2.setGen s1.gens.size .running).gens.size = s2.gens.size := setGen_size _ _ _
        have hlW : Wv.length ≤ 24 := by rw [← hlenW]; exact Nat.le_trans (comps_len hok.sys) hok.le
        refine go_choices (P := P) (w := w) (base := base) T.F_choices sc_choices (bd_choices T) T.g_choices T.b_len mod rfl rfl rfl rfl rfl rfl (fun _ _ => rfl) Wv _ cdc s1.heap.objs.size ac s1.gens.size pp mi (s2.setGen s1.gens.size .running) ?_ bk2 hbl q1 ⟨og, eog⟩ (by omega) (allBare_setGen bare2 rfl) q7 q8 ⟨ps, tup_keep tpp fun b o _ e => q6 b o e, Paired.mapP pps fun _ _ z => tup_keep z fun b o _ e => q6 b o e⟩ ?_ (by omega)
        · exact ((hdp.in1).in1).mono (by omega)
        · intro E hE
          obtain ⟨D, hD, rD⟩ := paired_right pWv E hE
          have h1 := rD.length
          have h2 := comp_len24 hok D hD
          rw [List.length_map] at h1
          omega
    · intro h s' C'
      exact ⟨rfl, _, _, h, C'⟩
    · intro x R' h v s' gs' t e1 e2 e3 e4 e5
      exact ⟨x, R', _, _, t, h, e1, e2, e3, e4, e5⟩
end
end BgQ
set_option Elab.async false
set_option linter.all false
set_option maxRecDepth 100000
set_option maxHeartbeats 4000000
namespace BgQ
open PySem PySem.Spec PyProof.Rows L2 GenW BgT
/-! ### tuples that stand already are tracked -/
section
variable {X : Cx} {pins : List (Addr × Obj)} {σ : L2.St} {H : Hp} {s : Shared}
theorem Inv.track {t : Addr} {vs : List V} (I : Inv X pins σ H s) (hn : H t = none) (h0 : X.s_0.heap.objs.size ≤ t) (hL : t ≠ X.env.locals) (hc : ∀ x c, X.env.cells.lookup x = some c → c ≠ t) (hp : ∀ p ∈ X.pn ++ pins, p.1 ≠ t) (hz : vs.length ≤ sizeLine) (its : List Value) (r : Vals vs its) (ht : IsTup s.heap t its.toArray) :
    Inv X pins σ (upd H t (.tup vs)) s := by
  refine ⟨I.ok, I.os, I.bare, ⟨fun b o e n hb hx => I.base.keep b o e n hb hx, fun b o e n hb hx => I.base.slot b o e n hb hx, fun b o e n hx => ?_, I.base.there, fun b xs e => ?_, fun b o u e => ?_, fun b ps e => ?_⟩, I.loc, I.cell, ?_, fun x c e => ?_, fun p hq => ?_, fun b u e => ?_, I.len⟩
  · rw [upd_ne (Nat.ne_of_lt (Nat.lt_of_lt_of_le (Heap.lt_size e) h0))]; exact I.base.free b o e n hx
  · have := I.base.tups b xs e
    rw [upd_ne (ne_of_none this hn)]; exact this
  · have := I.base.frzs b o u e
    rw [upd_ne (ne_of_none this hn)]; exact this
  · obtain ⟨m, this⟩ := I.base.tbls b ps e
    exact ⟨m, by rw [upd_ne (ne_of_none this hn)]; exact this⟩
  · rw [upd_ne (Ne.symm hL)]; exact I.free
  · rw [upd_ne (hc x c e)]; exact I.freeC x c e
  · obtain ⟨a, b, c, d, e⟩ := I.pin p hq
    exact ⟨a, by rw [upd_ne (hp p hq)]; exact b, c, d, e⟩
  · by_cases hb : b = t
    · subst hb; rw [upd_same] at e; cases e
      exact ⟨hz, its, r, ht⟩
    · rw [upd_ne hb] at e
      exact (I.hok b u e).stay (fun _ _ _ q => q) (fun c q => by rw [upd_ne (ne_of_none q hn)]; exact q) fun c xs q => by rw [upd_ne (ne_of_none q hn)]; exact q
/-- many of them -/
theorem Inv.tracks {lo : Nat} (hlo : X.s_0.heap.objs.size ≤ lo) (hL : X.env.locals < lo) (hc : ∀ x c, X.env.cells.lookup x = some c → c < lo) (hp : ∀ p ∈ X.pn ++ pins, p.1 < lo) : ∀ (ts : List Addr) (xs : List (List Value)) (ls : List (List V)) (H : Hp), Inv X pins σ H s → (∀ b, lo ≤ b → H b = none ∨ ∃ vs, H b = some (.tup vs)) → RowsP lo s.heap ts xs → Paired (fun (l : List V) x => Vals l x) ls xs → (∀ l ∈ ls, l.length ≤ sizeLine) →
    ∃ H', Inv X pins σ H' s ∧ (∀ b o, H b = some o → H' b = some o) ∧ (∀ b, H b = none → H' b = none ∨ lo ≤ b) ∧ Paired (fun t l => H' t = some (.tup l)) ts ls
  | [], [], [], H, I, _, _, _, _ => ⟨H, I, fun _ _ e => e, fun _ e => .inl e, .nil⟩
  | [], _ :: _, _, _, _, _, h, _, _ => by cases h
  | _ :: _, [], _, _, _, _, h, _, _ => by cases h
  | [], [], _ :: _, _, _, _, _, h, _ => by cases h
  | _ :: _, _ :: _, [], _, _, _, _, h, _ => by cases h
  | t :: ts, x :: xs, l :: ls, H, I, hH, .cons ⟨h1, h2⟩ hr, .cons r rs, hz => by
    rcases hH t h1 with hn | ⟨vs, hv⟩
    · have I1 : Inv X pins σ (upd H t (.tup l)) s := Inv.track I hn (Nat.le_trans hlo h1) (Ne.symm (Nat.ne_of_lt (Nat.lt_of_lt_of_le hL h1))) (fun x c e => Nat.ne_of_lt (Nat.lt_of_lt_of_le (hc x c e) h1)) (fun p hq => Nat.ne_of_lt (Nat.lt_of_lt_of_le (hp p hq) h1)) (hz l (by simp)) x r h2
      obtain ⟨H', I2, k, f, q⟩ := Inv.tracks hlo hL hc hp ts xs ls _ I1 (fun b hb => by
        by_cases e : b = t
        · subst e; exact .inr ⟨l, upd_same⟩
        · rw [upd_ne e]; exact hH b hb) hr rs fun l hl => hz l (by simp [hl])
      refine ⟨H', I2, fun b o e => k b o (by rw [upd_ne (ne_of_none e hn)]; exact e), fun b e => ?_, .cons (k t _ upd_same) q⟩
      by_cases eb : b = t
      · subst eb; exact .inr h1
      · exact f b (by rw [upd_ne eb]; exact e)
    · obtain ⟨H', I2, k, f, q⟩ := Inv.tracks hlo hL hc hp ts xs ls H I hH hr rs fun l hl => hz l (by simp [hl])
      have e : vs = l := by
        obtain ⟨_, its, r2, t2⟩ := I.hok t _ hv
        have e2 : its = x := by
          obtain ⟨o1, e1, _, n1, d1⟩ := t2
          obtain ⟨o2, e2, _, n2, d2⟩ := h2
          rw [e1] at e2; cases e2
          rw [d1] at d2
          injection d2 with d3 _
          simpa using congrArg Array.toList d3
        subst e2
        exact r2.inj r
      subst e
      exact ⟨H', I2, k, f, .cons (k t _ hv) q⟩
end
/-! ### the tuples -/
def chN : List (List Nat) → List (List Nat)
  | [] => [[]]
  | D :: W => D.flatMap fun c => (chN W).map (c :: ·)
theorem paired_app {α β : Type} {F : α → β → Prop} : ∀ {a : List α} {b : List β} {c : List α} {d : List β}, Paired F a b → Paired F c d → Paired F (a ++ c) (b ++ d)
  | _, _, _, _, .nil, h => h
  | _, _, _, _, .cons r t, h => .cons r (paired_app t h)
theorem paired_cons {v : V} {u : Value} (r : RelV v u) : ∀ {a : List (List V)} {b : List (List Value)}, Paired (fun (l : List V) x => Vals l x) a b → Paired (fun (l : List V) x => Vals l x) (a.map (v :: ·)) (b.map (u :: ·))
  | _, _, .nil => .nil
  | _, _, .cons q t => .cons (.cons r q) (paired_cons r t)
theorem chN_rel : ∀ {W : List (List Nat)} {Wv : List (List Value)}, Paired (fun (D : List Nat) x => Vals (D.map vn) x) W Wv → Paired (fun (l : List V) x => Vals l x) ((chN W).map (·.map vn)) (chV Wv)
  | _, _, .nil => .cons .nil .nil
  | D :: W, x :: Wv, .cons r t => by
    have ih := chN_rel t
    have go : ∀ (D : List Nat) (x : List Value), Vals (D.map vn) x → Paired (fun (l : List V) x => Vals l x) ((D.flatMap fun c => (chN W).map (c :: ·)).map (·.map vn)) (x.flatMap fun c => (chV Wv).map (c :: ·)) := by
      intro D
      induction D with
      | nil => intro x r; cases r; exact .nil
      | cons c D ihD =>
        intro x r
        cases r with
        | cons r rs =>
          rename_i u x
          rw [List.flatMap_cons, List.map_append, List.flatMap_cons]
          refine paired_app ?_ (ihD x rs)
          have e : ((chN W).map (c :: ·)).map (·.map vn) = ((chN W).map (·.map vn)).map (vn c :: ·) := by simp [Function.comp_def]
          rw [e]
          exact paired_cons r ih
    exact go D x r
theorem chN_len : ∀ (W : List (List Nat)) (m : Nat), (W.foldl (fun m D => m * D.length) m) = m * (chN W).length
  | [], m => by simp [chN]
  | D :: W, m => by
    rw [List.foldl_cons, chN_len W]
    have e : (chN (D :: W)).length = D.length * (chN W).length := by
      show (D.flatMap fun c => (chN W).map (c :: ·)).length = _
      induction D with
      | nil => simp
      | cons c D ih => rw [List.flatMap_cons, List.length_append, List.length_map, ih, List.length_cons, Nat.add_mul, Nat.one_mul, Nat.add_comm]
    rw [e, Nat.mul_assoc]
theorem chN_prW (W : List (List Nat)) : (chN W).length = prW W := by
  unfold prW
  rw [chN_len, Nat.one_mul]
theorem chN_mem_len : ∀ {W : List (List Nat)} {l : List Nat}, l ∈ chN W → l.length = W.length
  | [], l, h => by simp [chN] at h; subst h; rfl
  | D :: W, l, h => by
    simp only [chN, List.mem_flatMap, List.mem_map] at h
    obtain ⟨c, _, y, hy, rfl⟩ := h
    simp [chN_mem_len hy]
end BgQ
set_option Elab.async false
set_option linter.all false
set_option maxRecDepth 100000
set_option maxHeartbeats 4000000
namespace BgQ
open PySem PySem.Spec PyProof.Rows L2 GenW BgT
section
variable {M : Model} {A : Around} {E : Value → Shared → Prop} {s : Shared}
theorem wq_callWithT {pos : Pos} {T : String} {args : List (Bool × Sem Value)} {Q : Value → Shared → Prop} {E' : Value → Shared → Prop} (hplain : args.any (·.1) = false)
    (h : wq M A (evalArgs (.type T) true args []) (fun a s₁ => wq M A (call (.type T) ([] ++ a.pos) a.kw) Q E s₁) E s) : wq M A (callWith pos (.type T) [] args []) Q E s := by
  unfold callWith
  refine wq_bind (wq_holding (wq_mono h (fun a s₁ h₁ => wq_bind (wq_of_wpAny (wpAny_standAt ?_))) fun _ _ x => x))
  simp only [hplain, List.any_nil, Bool.or_false]
  refine wq_bind (wq_pure ?_)
  exact wq_bind (wq_mono h₁ (fun r s₂ hr => wq_bind (wq_holding (wq_of_wpAny (wpAny_point (wq_pure hr))))) fun _ _ x => x)
end
section
variable {X : Cx} {f : Addr} {x qual g : Str} {params : Arguments} {body : List Stmt} {scope : Scope} {dvs : List V} {kws : List (Str × V)} {N ps : List Str} {p1 p3 : Pos} {e : Expr} {t : L2.St → Hp → V → Prop} {dV : List V} {ds : List Value}
/-- g(e) of a generator def -/
theorem gmk_call (he : Calm X e t) (F : FunD X.K x qual params body scope dvs kws f (fdOf X.K f)) (S : GScope N ps scope) (hg : Gl X g) (hmg : X.mg g = some (.ref f)) (hgd : (g == ("__debug__" : Str)) = false) (hd : Vals dV ds) (hb : Binds X.K (fdOf X.K f) ps ds) (hl : 1 + dV.length = ps.length) (hroom : X.A.depth < recursionLimit) (hst : starEach [e] X.env = (false, eval e X.env) :: starEach [] X.env)
    {pins : List (Addr × Obj)} {s : Shared} {σ : L2.St} {H : Hp} {E : Value → Shared → Prop} {v : V} (I : Inv X pins σ H s) (h1 : t σ H v) :
    wpAny (model X.prog X.w) X.A (eval (.Call (.Name g p1) [e] [] p3) X.env) (fun u s' => ∃ tk, GMk X.prog X.w X.K X.mg X.base N qual scope body f X.stack H { s with toks := tk } (v :: dV) u s') E s := by
  refine wpAny_Call_Name_kw (ld_glob I hg hmg ?_ hgd)
  refine PySem.W.callWith_K (h₀ := X.base) I.ok.mod.kin F.kp (args_cons (he pins s σ H _ _ _ I h1 fun u tk ru => args_nil ⟨(I.tok tk).kIn, ?_⟩) hst) hst (by rfl)
  have I1 : Inv X pins σ H { s with toks := tk } := I.tok _
  have hlen : ([u] ++ ds).length = ps.length := by
    have := hd.length
    simp
    omega
  refine wpAny_call (codeAny_mono (gmk_of F S (us := u :: ds) (vs := v :: dV) hroom I1.env0 (hb _ [u] I1.kIn hlen) (.cons ru hd) (by simp; omega)) fun r s' hq => ?_)
  cases r with
  | error e => exact False.elim hq
  | ok fl =>
    cases fl with
    | ret u => exact ⟨tk, hq⟩
    | next => exact False.elim hq
    | brk => exact False.elim hq
    | cont => exact False.elim hq
end
section
variable {X : Cx}
/-- list(all_entries(e)) -/
theorem wq_listAll (T : Tx X.K X.mg) {e : Expr} {t : L2.St → Hp → V → Prop} {p1 p2 p3 p4 : Pos} (he : Calm X e t) (hst : starEach [e] X.env = (false, eval e X.env) :: starEach [] X.env) (hgl : Gl X "list") (hml : X.mg "list" = none) (hge : Gl X "all_entries") (hr : Room 80 X.A)
    (hst2 : starEach [.Call (.Name "all_entries" p2) [e] [] p3] X.env = (false, eval (.Call (.Name "all_entries" p2) [e] [] p3) X.env) :: starEach [] X.env)
    {s : Shared} {σ : L2.St} {H : Hp} {x : Addr} {rows : List BgT.Row} (I : Inv X [] σ H s) (hX : X.pn = []) (hz : s.asleep) (h1 : t σ H (.ref x)) (hs : SysAt X.K H x rows) (hok : RowsOk rows) (hp : prW (Bg.comps (sysOf rows)) ≤ 1000) :
    wq (model X.prog X.w) X.A (eval (.Call (.Name "list" p1) [.Call (.Name "all_entries" p2) [e] [] p3] [] p4) X.env) (fun v s' => ∃ (D : Addr) (ts : List Addr) (H' : Hp), v = .ref D ∧ Inv X [] σ H' s' ∧ Same H H' ∧ H' D = some (.lst (ts.map V.ref)) ∧ Paired (fun t l => H' t = some (.tup l)) ts ((chN (Bg.comps (sysOf rows))).map (·.map vn))) (fun _ _ => False) s := by
  rw [arm_eval_Call_Name']
  refine wq_bind (wq_of_wpAny (ld_blt I hgl hml (show bootBuiltins "list" = some (.type "list") from by decide +kernel) ?_))
  show wq _ _ (callWith p4 (.type "list") [] (backTo p4 (starEach [.Call (.Name "all_entries" p2) [e] [] p3] X.env)) []) _ _ s
  rw [hst2]
  obtain ⟨ds, hds, hbd⟩ := bd_all_entries T
  refine wq_callWithT (E' := fun _ _ => False) (by rfl) (wq_mono (wq_life (wq_of_wpAny (E := fun _ _ => False) (Q := fun a s1 => ∃ u tk, a = ⟨[u], []⟩ ∧ GMk X.prog X.w X.K X.mg X.base NE "all_entries" (defScope s_all_entries) (defBody s_all_entries) (He.ga X.K "all_entries") X.stack H { s with toks := tk } [.ref x, .int 1000] u s1)
    (Calls.evalArgs_plain (Calls.spliced_cons (wpAny_mono (gmk_call (E := fun _ _ => False) he T.F_all_entries sc_all_entries hge T.g_all_entries (by decide) hds hbd rfl hr.depth hst I h1) (fun u s1 ⟨tk, q⟩ => Calls.spliced_nil ⟨u, tk, rfl, q⟩) fun _ _ z => z))))) ?_ fun _ _ z => z.1.elim)
  rintro _ s1 ⟨⟨u, tk, rfl, hG⟩, hlife⟩
  show wq _ _ (call (.type "list") [u]) _ _ s1
  obtain ⟨a, ga, cdv, rfl, ha1, ha2, hgen, hga, hgens, hos, hbare, hkp, hInv⟩ := hG
  have hz1 : s1.asleep := by unfold Shared.asleep at hz ⊢; rw [hlife]; exact hz
  refine wq_listGen hgen fun s2 S c hS hS2 hk2 hg2 ho2 hl2 => ?_
  have hz2 : s2.asleep := by unfold Shared.asleep at hz1 ⊢; rw [hl2]; exact hz1
  have e0 : ({ s with toks := tk } : Shared).heap.objs.size = s.heap.objs.size := rfl
  have eS : @Eq Nat S (a + 1) := by rw [hS]; exact ha2
  have hsa : @LT.lt Nat _ s.heap.objs.size a := ha1
  have hb0 : @LE.le Nat _ X.base.objs.size s.heap.objs.size := Nat.le_trans I.ok.bsz I.sz
  obtain ⟨oa, nma, qna, eoa, coa, doa, soa⟩ := id hgen
  have eoa2 : s2.heap.get? a = some oa := hk2 _ _ eoa
  have bk2 : BK X.base s2.heap := fun b o e => hk2 b o (hkp b o (I.bk b o e))
  have hgs2 : s2.gens[ga]? = some (.fresh (.func (defBody s_all_entries) (envOfC "all_entries" (defScope s_all_entries) s.heap.objs.size (He.ga X.K "all_entries") cdv))) := by
    rw [hg2, hgens, hga]; exact Array.getElem?_push_size ..
  have hgl2 : ga < s2.gens.size := (Array.getElem?_eq_some_iff.mp hgs2).1
  have hsr : (s2.setGen ga .running).gens.size = s2.gens.size := setGen_size _ _ _
  have hb2 : AllBare (s2.setGen ga .running).gens := allBare_setGen (by rw [hg2]; exact hbare) rfl
  -- the frame's context
  have J0 := hInv X.A.in1.in1.in1 hr.hd I.ok.frames
  have J1 : Inv (gxE X.prog X.w X.K X.mg X.base cdv X.A.in1.in1.in1 X.stack { s with toks := tk } H) [] (L2.start NE [.ref x, .int 1000]) H (s2.setGen ga .running) :=
    J0.call' (ch := []) ho2 (Un.kept hk2) (J0.hok.kept hk2) hb2 fun b z => by simp at z
  have nofr : ∀ b, s.heap.objs.size ≤ b → b ∉ frs X.stack := fun b hb hm => by
    obtain ⟨_, o, ho, _⟩ := I.stack.mem hm
    exact Nat.lt_irrefl _ (Nat.lt_of_lt_of_le (Heap.lt_size ho) hb)
  have J2 : Inv (gxE X.prog X.w X.K X.mg X.base cdv X.A.in1.in1.in1 X.stack { s with toks := tk } H) [(S, lstObj #[] c), (a, oa)] (L2.start NE [.ref x, .int 1000]) H (s2.setGen ga .running) := by
    refine J1.pins_of fun p hp' => ?_
    have hp' : p = (S, lstObj #[] c) ∨ p = (a, oa) := by simpa using hp'
    rcases hp' with rfl | rfl
    · exact ⟨hS2, I.hok.fresh (by show s.heap.objs.size ≤ S; omega), by show S ≠ s.heap.objs.size; omega, nofr S (by omega), fun v q => by cases q⟩
    · exact ⟨eoa2, I.hok.fresh (Nat.le_of_lt hsa), by show a ≠ s.heap.objs.size; omega, nofr a (Nat.le_of_lt hsa), fun v q => by rw [doa] at q; cases q⟩
  refine cq_mono (cq_drainF (P := X.prog) (w := X.w) (A := X.A.in1) (K := X.K) (mg := X.mg) (base := X.base) (a := a) (ga := ga) (S := S) (res := .none) (c := c)
    (D := fun R lo s1 => DE X.prog X.w X.K X.mg X.base cdv X.A.in1.in1.in1 X.stack { s with toks := tk } H [(S, lstObj #[] c), (a, oa)] rows ga R lo s1)
    I.mod hr.hd hr.depth (by omega) (by omega) hS2 (GenAt.of (hgen.keeps hk2)) bk2 hgs2 (fun R lo s3 d => ?_) ?_) ?_
  · obtain ⟨⟨σ1, H1, Wv, J, sH, pW, rfl⟩, rfl, hgg⟩ := d
    have pS := J.pin (S, lstObj #[] c) (by simp)
    have pa := J.pin (a, oa) (by simp)
    have hlen : (chV Wv).length = (chN (Bg.comps (sysOf rows))).length := by
      have := Paired.length (chN_rel pW)
      rw [List.length_map] at this
      exact this.symm
    exact ⟨by rw [hlen, chN_prW]; exact small1000 (by omega), Heap.lt_size pa.1, Heap.lt_size pS.1, J.bk, pS.1, ⟨oa, nma, qna, pa.1, coa, doa, .inl soa⟩, hgg⟩
  · exact wk_all_entries T I.mod (hr.in1.in1.in1.mono (by decide)) J2 (by omega) hz2 hs hok hp (by omega)
  · rintro r s' ⟨rfl, R, lo, s3, ts, c', d, hts, hS', D'⟩
    refine ⟨rfl, S, ts, ?_⟩
    obtain ⟨⟨σ1, H1, Wv, J, sH, pW, rfl⟩, rfl, hgg⟩ := d
    have pS := J.pin (S, lstObj #[] c) (by simp)
    have hpr := chN_rel pW
    have hS3 : @LT.lt Nat _ S s3.heap.objs.size := Heap.lt_size pS.1
    have ha3 : @LT.lt Nat _ a s3.heap.objs.size := Heap.lt_size (J.pin (a, oa) (by simp)).1
    have nS : ∀ b u, H1 b = some u → b ≠ S := fun b u e z => by rw [z] at e; rw [pS.2.1] at e; cases e
    have k3 : ∀ (b : Nat) o, b < s.heap.objs.size → s3.heap.get? b = some o → s'.heap.get? b = some o := fun b o hb e => D'.keep b o (by omega) (.inl (by omega)) e
    have I2 : Inv X [] σ (upd H1 S (.lst (ts.map V.ref))) s' := by
      refine I.call' (ch := []) (D'.os.trans J.os) ⟨fun b o e n hb hx => ?_, fun b o e n hb hx => ?_, fun b o e n hx => ?_, fun b o e hx => ?_, fun b xs e => ?_, fun b o u e => ?_, fun b qs e => ?_⟩ (fun b u e => ?_) D'.bare fun b z => by simp at z
      · exact k3 b o (Heap.lt_size e) (J.base.keep b o e n hb hx)
      · obtain ⟨sl, e1⟩ := J.base.slot b o e n hb hx
        exact ⟨sl, k3 b _ (Heap.lt_size e) e1⟩
      · have hb : @LT.lt Nat _ b s.heap.objs.size := Heap.lt_size e
        have nb : @Ne Nat b S := by omega
        rw [upd_ne nb]
        exact J.base.free b o e n hx
      · obtain ⟨o', e1⟩ := J.base.there b o e hx
        exact ⟨o', k3 b _ (Heap.lt_size e) e1⟩
      · have e1 := J.base.tups b xs e
        rw [upd_ne (nS b _ e1)]; exact e1
      · have e1 := J.base.frzs b o u e
        rw [upd_ne (nS b _ e1)]; exact e1
      · obtain ⟨m, e1⟩ := J.base.tbls b qs e
        exact ⟨m, by rw [upd_ne (nS b _ e1)]; exact e1⟩
      · by_cases hb : b = S
        · subst hb
          rw [upd_same] at e
          cases e
          refine ⟨?_, ts.map Value.ref, c', ?_, hS'⟩
          · rw [List.length_map]
            have h1 := Paired.length hts
            have h2 := Paired.length hpr
            rw [List.length_map, chN_prW] at h2
            exact Nat.le_of_lt (small1000 (by omega))
          · have go : ∀ l : List Addr, Vals (l.map V.ref) (l.map Value.ref) := fun l => by
              induction l with
              | nil => exact .nil
              | cons t l ih => exact .cons rfl ih
            exact go ts
        · rw [upd_ne hb] at e
          refine (J.hok b u e).stay (fun q v hc z => ?_) (fun q z => by rw [upd_ne (nS q _ z)]; exact z) fun q xs z => by rw [upd_ne (nS q _ z)]; exact z
          rcases hc with rfl | hc
          · exact D'.keep q v hb (.inl (J.hok.lt e)) z
          · exact D'.keep q v (nS q _ hc) (.inl (J.hok.lt hc)) z
    have hsl : X.s_0.heap.objs.size ≤ s.heap.objs.size := I.sz
    have hll : @LT.lt Nat _ X.env.locals s.heap.objs.size := I.lt
    have hss : s.heap.objs.size < s3.heap.objs.size := by omega
    obtain ⟨H2, I3, k, f, q⟩ := Inv.tracks (lo := s3.heap.objs.size) (by omega) (Nat.lt_trans hll hss) (fun y b e => by
      obtain ⟨v, ob, ho, _⟩ := I.cell y b e
      exact Nat.lt_trans (Heap.lt_size ho) hss) (fun p hp' => by rw [hX] at hp'; simp at hp') ts (chV Wv) _ _ I2 (fun b hb => .inl (by
      have nb : @Ne Nat b S := by omega
      rw [upd_ne nb]
      exact J.hok.fresh hb)) hts hpr (fun l hl => by
      obtain ⟨l0, h0, rfl⟩ := List.mem_map.mp hl
      rw [List.length_map, chN_mem_len h0]
      have := comps_len hok.sys
      have h2 := hok.le
      have h3 : (sysOf rows).n = rows.length := rfl
      exact Nat.le_of_lt (small1000 (by omega)))
    exact ⟨H2, rfl, I3, fun b o e => k b o (by rw [upd_ne (nS b _ (sH b o e))]; exact sH b o e), k S _ upd_same, q⟩
end
end BgQ
set_option Elab.async false
set_option linter.all false
set_option maxRecDepth 100000
set_option maxHeartbeats 4000000
namespace BgQ
open PySem PySem.Spec PyProof.Rows L2 GenW BgT
/-! ### statements at this machine -/
structure TQ (X : Cx) (e : Expr) (t : TT) : Prop where
  run : ∀ (whole : Sem Value) (pins : List (Addr × Obj)) (s : Shared) (σ : L2.St) (H : Hp) (Q : Bool → Hp → Prop), whole = eval e X.env → Inv X pins σ H s → s.asleep → t σ H Q → wq (model X.prog X.w) X.A (isTrue e X.env whole) (TP X pins σ Q) (fun _ _ => False) s
structure EQ (X : Cx) (e : Expr) (t : TE) : Prop where
  run : ∀ (pins : List (Addr × Obj)) (s : Shared) (σ : L2.St) (H : Hp) (Q : VK), Inv X pins σ H s → s.asleep → t σ H Q → wq (model X.prog X.w) X.A (eval e X.env) (EP X pins σ Q) (fun _ _ => False) s
structure SQ (X : Cx) (st : Stmt) (t : TS) : Prop where
  run : ∀ (pins : List (Addr × Obj)) (s : Shared) (σ : L2.St) (H : Hp) (D : Ends), Inv X pins σ H s → s.asleep → t D σ H → wq (model X.prog X.w) X.A (exec st X.env) (SP X pins D) (fun _ _ => False) s
structure SQs (X : Cx) (st : List Stmt) (t : TS) : Prop where
  run : ∀ (pins : List (Addr × Obj)) (s : Shared) (σ : L2.St) (H : Hp) (D : Ends), Inv X pins σ H s → s.asleep → t D σ H → wq (model X.prog X.w) X.A (execs st X.env) (SP X pins D) (fun _ _ => False) s
section
variable {X : Cx}
theorem asleep_of {s s' : Shared} (h : s.asleep) (e : s'.heap.life = s.heap.life) : s'.asleep := by unfold Shared.asleep at h ⊢; rw [e]; exact h
theorem wq_thn {α : Type} {M : Model} {A : Around} {m : Sem α} {Q Q' : α → Shared → Prop} {E : Value → Shared → Prop} {s : Shared} (hz : s.asleep) (h : wq M A m Q (fun _ _ => False) s) (k : ∀ a s', Q a s' → s'.asleep → Q' a s') : wq M A m Q' E s :=
  wq_mono (wq_life h) (fun a s' q => k a s' q.1 (asleep_of hz q.2)) fun _ _ q => q.1.elim
theorem lift {α : Type} {M : Model} {A : Around} {m : Sem α} {Q : α → Shared → Prop} {E : Value → Shared → Prop} {s : Shared} (hx : ∀ e s, E e s → False) (h : wpAny M A m Q E s) : wq M A m Q (fun _ _ => False) s :=
  wq_mono (wq_of_wpAny h) (fun _ _ x => x) fun e s x => hx e s x
theorem tq_pt {e : Expr} {t : TT} (hx : ∀ e s, X.xe e s → False) (h : PT X e t) : TQ X e t := ⟨fun wh pins s σ H Q ew I _ ht => by subst ew; exact lift hx (h.run pins s σ H Q I ht)⟩
theorem eq_pe {e : Expr} {t : TE} (hx : ∀ e s, X.xe e s → False) (h : PE X e t) : EQ X e t := ⟨fun pins s σ H Q I _ ht => lift hx (h.run pins s σ H Q I ht)⟩
theorem sq_ps {st : Stmt} {t : TS} (hx : ∀ e s, X.xe e s → False) (h : PS X st t) : SQ X st t := ⟨fun pins s σ H D I _ ht => lift hx (h.run pins s σ H D I ht)⟩
theorem sqs_pss {st : List Stmt} {t : TS} (hx : ∀ e s, X.xe e s → False) (h : PSs X st t) : SQs X st t := ⟨fun pins s σ H D I _ ht => lift hx (h.run pins s σ H D I ht)⟩
theorem sqs_cons {st : Stmt} {rest : List Stmt} {t u : TS} (a : SQ X st t) (b : SQs X rest u) : SQs X (st :: rest) (tSeq t u) := by
  refine ⟨fun pins s σ H D I hz h => ?_⟩
  rw [execs_cons]
  refine wq_bind (wq_thn hz (a.run pins s σ H _ I hz h) fun f s1 q hz1 => ?_)
  cases f with
  | next => obtain ⟨σ1, H1, I1, q⟩ := q; exact b.run pins s1 σ1 H1 D I1 hz1 q
  | brk => exact wq_pure q
  | cont => exact wq_pure q
  | ret v => exact wq_pure q
theorem sqs_one {st : Stmt} {t : TS} (a : SQ X st t) : SQs X [st] (tSeq t tNext) := sqs_cons a ⟨fun pins s σ H D I _ h => wq_of_wpAny (wpAny_execs_nil ⟨σ, H, I, h⟩)⟩
theorem tq_val {e : Expr} {t : TE} (h : EQ X e t) (he : ∀ whole, isTrue e X.env whole = (do let v ← whole; standAt e.pos; holding [v] (truthy v)) := by intro _; rfl) : TQ X e (tB t) := by
  refine ⟨fun wh pins s σ H Q ew I hz hw => ?_⟩
  subst ew
  rw [he]
  refine wq_bind (wq_thn hz (h.run pins s σ H _ I hz hw) fun v s1 q _ => ?_)
  obtain ⟨x, H1, I1, r1, d, rfl, q⟩ := q
  cases r1
  exact wq_of_wpAny (wpAny_bind (wpAny_standAt (wpAny_holding (wpAny_truthy_bool ⟨H1, I1, q⟩))))
theorem tq_not {a : Expr} {tA : TT} {pos : Pos} (ha : TQ X a tA) : TQ X (.UnaryOp .Not a pos) (tNot tA) := by
  refine ⟨fun wh pins s σ H Q ew I hz h => ?_⟩
  show wq _ _ (do return !(← isTrue a X.env (eval a X.env))) _ _ s
  exact wq_bind (wq_mono (ha.run _ pins s σ H (fun c H1 => Q (!c) H1) rfl I hz h) (fun c s' h' => wq_pure h') fun _ _ x => x)
theorem tq_and {a b : Expr} {tA tB' : TT} {pos : Pos} (ha : TQ X a tA) (hb : TQ X b tB') : TQ X (.BoolOp .And [a, b] pos) (tAnd tA tB') := by
  refine ⟨fun wh pins s σ H Q ew I hz h => ?_⟩
  show wq _ _ (do
    match BoolOp.And, ← isTrue a X.env (eval a X.env) with
    | .And, false => pure false
    | .Or, true => pure true
    | _, _ => allTrue .And [b] X.env) _ _ s
  refine wq_bind (wq_thn hz (ha.run _ pins s σ H _ rfl I hz h) fun c s1 q hz1 => ?_)
  obtain ⟨H1, I1, q⟩ := q
  cases c with
  | false => exact wq_pure ⟨H1, I1, q⟩
  | true =>
    show wq _ _ (do
      match BoolOp.And, ← isTrue b X.env (eval b X.env) with
      | .And, false => pure false
      | .Or, true => pure true
      | _, _ => allTrue .And [] X.env) _ _ s1
    refine wq_bind (wq_thn hz1 (hb.run _ pins s1 σ H1 _ rfl I1 hz1 q) fun d s2 q _ => ?_)
    cases d with
    | false => exact wq_pure q
    | true => exact wq_pure q
theorem sq_if {test : Expr} {body orelse : List Stmt} {pos : Pos} {c : TT} {a b : TS} (hc : TQ X test c) (ha : SQs X body a) (hb : SQs X orelse b) : SQ X (.If test body orelse pos) (tIfS c a b) := by
  refine ⟨fun pins s σ H D I hz h => ?_⟩
  rw [arm_exec_If]
  refine wq_bind (wq_of_wpAny (wpAny_standAt ?_))
  refine wq_bind (wq_thn hz (hc.run _ pins s σ H _ rfl I hz h) fun d s1 q hz1 => ?_)
  obtain ⟨H1, I1, q⟩ := q
  cases d with
  | true => exact ha.run pins s1 σ H1 D I1 hz1 q
  | false => exact hb.run pins s1 σ H1 D I1 hz1 q
end
end BgQ
set_option Elab.async false
set_option linter.all false
set_option maxRecDepth 100000
set_option maxHeartbeats 4000000
namespace BgQ
open PySem PySem.Spec PyProof.Rows L2 GenW BgT
section
variable {P : Program} {w : World} {A : Around} {s : Shared} {env : Env}
theorem cq_blockNil {R : Result → Shared → Prop} (h : R (.ok .next) s) : cq (model P w) A (.block [] env) R s :=
  fun st p _ => ⟨.ok .next, _, p, s, h, by rw [den_block0]; exact .refl _ _⟩
theorem cq_turn {R : Result → Shared → Prop} {tg : Expr} {it : Value} {body : List Stmt}
    (h : wq (model P w) A (pyNext it) (fun r s1 => match r with
      | none => R (.ok .next) s1
      | some v => wq (model P w) A (letOwnedTupleGo tg it v) (fun _ s2 => wq (model P w) A (assign tg env v) (fun _ s3 => wq (model P w) A (execs body env) (fun f s4 => match f with
        | .next | .cont => cq (model P w) A (.forLoop tg it body [] env) R s4
        | .brk => R (.ok .next) s4
        | .ret v => R (.ok (.ret v)) s4) (fun _ _ => False) s3) (fun _ _ => False) s2) (fun _ _ => False) s1) (fun _ _ => False) s) : cq (model P w) A (.forLoop tg it body [] env) R s := by
  refine cq_of_tree ?_
  rw [Around.under_of_weight (c := .forLoop tg it body [] env) rfl]
  show wq _ A ((forTurn tg it body [] env).onRaise (fun x => do noteFrame x env; theTreesLotGoes x)) _ _ s
  refine wq_onRaise (wq_mono (E := fun _ _ => False) (Q := fq P w A R) ?_ (fun _ _ x => x) fun _ _ x => x.elim)
  unfold forTurn
  refine wq_bind (wq_of_wpAny (wpAny_standAt ?_))
  refine wq_bind (wq_onRaise (wq_mono h (fun r s1 h1 => ?_) fun _ _ x => x.elim))
  cases r with
  | none => exact wq_pure ⟨rfl, cq_blockNil h1⟩
  | some v =>
    refine wq_bind (wq_mono h1 (fun _ s2 h2 => ?_) fun _ _ x => x.elim)
    refine wq_bind (wq_mono h2 (fun _ s3 h3 => ?_) fun _ _ x => x.elim)
    refine wq_bind (wq_mono h3 (fun f s4 h4 => ?_) fun _ _ x => x.elim)
    cases f with
    | next => exact wq_pure ⟨rfl, h4⟩
    | cont => exact wq_pure ⟨rfl, h4⟩
    | brk => exact wq_pure h4
    | ret v => exact wq_pure h4
end
section
variable {X : Cx}
theorem sq_for {tg iter : Expr} {body : List Stmt} {wi : TI} {g : TG} {tb : TS} {pos : Pos} (hx : ∀ e s, X.xe e s → False) (hc : X.calm = true) (hi : PI X tg iter wi) (hg : PG X tg g) (hb : SQs X body tb)
    (hs : ∀ x, foldedSetIterable iter X.env x = pure x := by intro _; rfl) : SQ X (.For tg iter body [] pos) (tFor wi g tb) := by
  refine ⟨fun pins s σ H D I hz h => ?_⟩
  rw [arm_exec_For]
  refine wq_bind (wq_of_wpAny (wpAny_standAt ?_))
  refine wq_bind (wq_thn hz (lift hx (hi.run pins s σ H _ I h)) fun v s1 h1 hz1 => ?_)
  rw [hs]
  refine wq_bind (wq_pure ?_)
  refine wq_bind (wq_of_wpAny (wpAny_standAt ?_))
  refine wq_bind (wq_holding (wq_thn hz1 (lift hx h1) fun itv s2 h2 hz2 => ?_))
  obtain ⟨it, fp, tn, J, H2, e, I2, T, st2, f2, W, ⟨m0, w0⟩, turn⟩ := h2
  subst e
  have stat : ∀ {H' : Hp}, (∀ b ∈ fp, H' b = none) → ∀ b ∈ fp, FpOk X pins H' b := fun hn b hb => ⟨hn b hb, (f2 b hb).2⟩
  unfold runOwn
  refine wq_onRaise (wq_mono (E := fun _ _ => False) (Q := SP X pins D) (wq_run (P := X.prog) (w := X.w) ?_) (fun _ _ x => x) fun _ _ x => x.elim)
  have loop : ∀ (n : Nat) (s3 : Shared) (i : Nat) (σ3 : L2.St) (H3 : Hp), Inv X pins σ3 H3 s3 → s3.asleep → tn i s3.heap → (∀ b ∈ fp, H3 b = none) → W i n σ3 H3 → cq (model X.prog X.w) X.A (.forLoop tg (.ref it) body [] X.env) (fun r s' => match r with | .ok f => SP X pins D f s' | .error _ => False) s3 := by
    intro n
    induction n using Nat.strongRecOn with
    | ind n ih =>
      intro s3 i σ3 H3 I3 hz3 st3 fr3 w3
      refine cq_turn ?_
      rcases turn i n σ3 H3 w3 with ⟨stop, qn⟩ | ⟨go, N, hN, step⟩
      · refine wq_thn hz3 (lift hx (T.done X rfl rfl rfl hc i pins s3 σ3 H3 X.xe I3 (stat fr3) st3 stop)) fun r s4 q _ => ?_
        obtain ⟨rfl, I4⟩ := q
        exact ⟨σ3, H3, I4, qn⟩
      · refine wq_thn hz3 (lift hx (T.item X rfl rfl rfl hc i pins s3 σ3 H3 X.xe I3 (stat fr3) st3 go)) fun r s4 q hz4 => ?_
        obtain ⟨u, rfl, h4⟩ := q
        refine wq_thn hz4 (lift hx h4) fun _ s5 q hz5 => ?_
        obtain ⟨x, H5, I5, r5, y5, st5, fr5⟩ := q
        have I5' := I5.pinned (stat fr5) (T.obj _ _ st5)
        refine wq_thn hz5 (lift hx (hg.run _ s5 σ3 H5 x u _ I5' r5 (step x H5 y5))) fun _ s6 q hz6 => ?_
        obtain ⟨σ6, H6, I6, q6⟩ := q
        refine wq_thn hz6 (hb.run _ s6 σ6 H6 _ I6 hz6 q6) fun f s7 q7 hz7 => ?_
        have again : ∀ {σ7 : L2.St} {H7 : Hp}, Inv X (pins ++ pinsAt fp s5.heap) σ7 H7 s7 → N σ7 H7 → cq (model X.prog X.w) X.A (.forLoop tg (.ref it) body [] X.env) (fun r s' => match r with | .ok f => SP X pins D f s' | .error _ => False) s7 := fun {σ7 H7} I7 n7 => by
          obtain ⟨m', hm, w7⟩ := hN σ7 H7 n7
          refine ih m' hm s7 (i + 1) σ7 H7 I7.unpinned hz7 (T.keep _ _ _ st5 fun b hb o e => (I7.pin (b, o) (List.mem_append_right _ (List.mem_append_right _ (mem_pinsAt hb e)))).1) (fun b hb => ?_) w7
          obtain ⟨o, e, d⟩ := T.obj _ _ st5 b hb
          exact (I7.pin (b, o) (List.mem_append_right _ (List.mem_append_right _ (mem_pinsAt hb e)))).2.1
        cases f with
        | next => obtain ⟨σ7, H7, I7, n7⟩ := q7; exact again I7 n7
        | cont => obtain ⟨σ7, H7, I7, n7⟩ := q7; exact again I7 n7
        | brk => obtain ⟨σ7, H7, I7, q7⟩ := q7; exact ⟨σ7, H7, I7.unpinned, q7⟩
        | ret v => obtain ⟨x7, σ7, H7, I7, r7, q7⟩ := q7; exact ⟨x7, σ7, H7, I7.unpinned, r7, q7⟩
  exact loop m0 s2 0 σ H2 I2 hz2 st2 (fun b hb => (f2 b hb).1) w0
/-! ### calls -/
structure FnQ (P : Program) (w : World) (K : PySem.W.Frag) (mg : Str → Option Value) (base : Heap) (k : Nat) (f : Addr) (fd : FuncData) (ps : List Str) (sp : Sp) : Prop where
  len : ∀ vs H Q E, sp vs H Q E → vs.length = ps.length
  run : ∀ (A : Around) (outer : List Env) (s : Shared) (H : Hp) (args : Args) (us : List Value) (vs : List V) (Q : VK) (E : XK), Room k A → Env0 P w K mg base A outer s H → BindsTo s fd args (ps.zip us) → Vals vs us → sp vs H Q E → s.asleep →
    cq (model P w) A (.call (.ref f) args) (fun r s' => match r with | .ok (.ret u) => CE outer P w H s Q u s' | _ => False) s
theorem fnq_of {P : Program} {w : World} {K : PySem.W.Frag} {mg : Str → Option Value} {base : Heap} {k : Nat} {f : Addr} {xx qual : Str} {params : Arguments} {body : List Stmt} {scope : Scope} {dvs : List V} {kws : List (Str × V)} {N ps : List Str} {sp : Sp} (F : FunD K xx qual params body scope dvs kws f (fdOf K f)) (S : FnScope N ps scope)
    (len : ∀ vs H Q E, sp vs H Q E → vs.length = ps.length)
    (hbody : ∀ (cdv : Value) (A : Around) (outer : List Env) (s : Shared) (H : Hp) (vs : List V) (Q : VK) (E : XK), Room k (A.deeper (envOfC qual scope s.heap.objs.size f cdv)) → sp vs H Q E → ∀ s1, Inv (cxOf CX0 P w K mg base N qual scope f cdv A outer s H E).nox [] (L2.start N vs) H s1 → s1.asleep →
      wq (model P w) (A.deeper (envOfC qual scope s.heap.objs.size f cdv)) (execs body (envOfC qual scope s.heap.objs.size f cdv)) (SP (cxOf CX0 P w K mg base N qual scope f cdv A outer s H E).nox [] { nx := fun _ H' => Q .non H', rt := Q }) (fun _ _ => False) s1) :
    FnQ P w K mg base (k + 1) f (fdOf K f) ps sp := by
  refine ⟨len, fun A outer s H args us vs Q E hr e0 hb r hsp hz => ?_⟩
  obtain ⟨oc, od, dV, kV, doc, pm, an, cdv, ct, osl, efd, lk, hcd, _, _⟩ := F.ex
  rw [efd] at hb lk
  have hl := len _ _ _ _ hsp
  have KX : K.In s.heap := e0.mod.kin.keeps fun b o e => (e0.bs b o e).1
  have lim : s.heap.NoLimit := e0.mod.nolimit.keeps fun b o e => (e0.bs b o e).1
  have hkind : ∀ y ∈ ps.zip us, scope.names.lookup y.1 = some .local ∨ (scope.names.lookup y.1 = some .cell ∧ ((cellsFrom (s.heap.objs.size + 1) scope.names []).lookup y.1).isSome = true) := fun ⟨n, v⟩ hy => by
    rcases S.par n (List.of_mem_zip hy).1 with q | q
    · exact .inl q
    · exact .inr ⟨q, PySem.W.cellsFrom_some _ _ _ (.inl q)⟩
  obtain ⟨c, oc2, vs2, tq, hc2, hoc, hdc, hq2⟩ := PySem.W.codeRec_of KX hcd
  subst hc2
  refine cq_of_tree ?_
  show wq _ A.in1 (callAny (.ref f) args) _ _ s
  simp only [callAny]
  refine wq_bind (wq_of_wpAny (wpAny_load (KX _ _ lk) ?_))
  have h1 := S.co
  have h2 := S.gen
  simp only [callFunction, PySem.W.fnOf, h1, h2]
  refine wq_bind (m := field (.ref c) 1) (wq_of_wpAny (wpAny_field hoc hdc hq2 ?_))
  refine wq_bind (wq_pure ?_)
  refine wq_bind (wq_of_wpAny (hb _ _ _ _ ?_))
  refine wq_bind (wq_thn hz (wq_of_wpAny (wpAny_newFunctionEnv_cells S.kind hkind fun env he s1 x => And.intro he x)) fun env s1 hx1 hz1 => ?_)
  obtain ⟨he, x⟩ := hx1
  subst he
  refine wq_bind (wq_of_wpAny (wpAny_enterFrame (lim.keeps x.toInCall.keep) hr.depth ?_))
  refine wq_pure ⟨rfl, ?_⟩
  have I : Inv (cxOf CX0 P w K mg base N qual scope f (.ref c) A outer s H E) [] (L2.start N vs) H s1 := inv_start S hr.hd e0 hl r x
  have W := hbody (.ref c) A outer s H vs Q E (hr.deeper _) hsp s1 (I.wish _) hz1
  refine cq_of_tree ?_
  show wq _ (A.deeper _) (do point; match ← (execs body _).onRaise (leaving _) with | .ret v => ret v | _ => ret .none) _ _ s1
  refine wq_bind (wq_of_wpAny (wpAny_point ?_))
  refine wq_bind (wq_onRaise (wq_mono (E := fun _ _ => False) W (fun fl s' hs => ?_) fun _ _ x => False.elim x))
  have fin : ∀ {σ' : L2.St} {H' : Hp} {v : V} {u : Value}, Inv (cxOf CX0 P w K mg base N qual scope f (.ref c) A outer s H E).nox [] σ' H' s' → RelV v u → Q v H' → CE outer P w H s Q u s' :=
    fun {σ' H' v u} J rv q => ⟨v, H', J.os, J.bare, J.base, J.hok, rv, q⟩
  cases fl with
  | ret u =>
    obtain ⟨v, σ', H', J, rv, q⟩ := hs
    exact wq_pure (fin J rv q)
  | next =>
    obtain ⟨σ', H', J, q⟩ := hs
    exact wq_pure (fin (v := V.non) (u := Value.none) J rfl q)
  | brk =>
    obtain ⟨_, _, _, q⟩ := hs
    exact False.elim q
  | cont =>
    obtain ⟨_, _, _, q⟩ := hs
    exact False.elim q
end
end BgQ
set_option Elab.async false
set_option linter.all false
set_option maxRecDepth 100000
set_option maxHeartbeats 4000000
namespace BgT
open PySem PySem.Spec PyProof.Rows L2
open BgQ (chN)
/-! ### choices, in plain words -/
theorem mem_chN : ∀ {W : List (List Nat)} {cs : List Nat}, cs ∈ BgQ.chN W ↔ Bg.Chosen W cs
  | [], cs => by
    constructor
    · intro h
      have : cs = [] := by simpa [BgQ.chN] using h
      subst this
      exact ⟨rfl, fun i D c h => by simp at h⟩
    · intro h
      have := h.len
      have : cs = [] := List.eq_nil_of_length_eq_zero (by simpa using this)
      subst this
      simp [BgQ.chN]
  | D :: W, cs => by
    constructor
    · intro h
      simp only [BgQ.chN, List.mem_flatMap, List.mem_map] at h
      obtain ⟨c, hc, y, hy, rfl⟩ := h
      have ih := mem_chN.mp hy
      refine ⟨by simp [ih.len], fun i E d h1 h2 => ?_⟩
      cases i with
      | zero => simp at h1 h2; subst h1 h2; exact hc
      | succ i => exact ih.mem i E d (by simpa using h1) (by simpa using h2)
    · intro h
      cases cs with
      | nil => have := h.len; simp at this
      | cons c y =>
        simp only [BgQ.chN, List.mem_flatMap, List.mem_map]
        exact ⟨c, h.mem 0 D c rfl rfl, y, mem_chN.mpr ⟨by have := h.len; simpa using this, fun i E d h1 h2 => h.mem (i + 1) E d (by simpa using h1) (by simpa using h2)⟩, rfl⟩
/-- the cells as ints -/
abbrev nis (cs : List Nat) : List Int := cs.map fun (c : Nat) => (c : Int)
theorem nis_inj : ∀ {a b : List Nat}, nis a = nis b → a = b
  | [], [], _ => rfl
  | [], _ :: _, h => by simp at h
  | _ :: _, [], h => by simp at h
  | x :: a, y :: b, h => by
    simp only [List.map_cons, List.cons.injEq] at h
    rw [nis_inj h.2, show x = y by omega]
theorem bd_nis {B : Nat} {W : List (List Nat)} (hW : ∀ D ∈ W, ∀ x ∈ D, x < B) {cs : List Nat} (h : cs ∈ BgQ.chN W) : TS.Bd (B : Int) (nis cs) := by
  intro m hm
  obtain ⟨c, hc, rfl⟩ := List.mem_map.mp hm
  obtain ⟨i, hi⟩ := List.mem_iff_getElem?.mp hc
  have hC := mem_chN.mp h
  have hl : i < W.length := by rw [← hC.len]; exact (List.getElem?_eq_some_iff.mp hi).1
  have := hW _ (List.getElem_mem hl) c (hC.mem i _ c (List.getElem?_eq_getElem hl) hi)
  exact ⟨by omega, by omega⟩
theorem chN_asc {B : Nat} : ∀ (W : List (List Nat)), (∀ D ∈ W, ∀ x ∈ D, x < B) → (∀ D ∈ W, D.Pairwise (· < ·)) → (BgQ.chN W).Pairwise fun a b => TS.code (B : Int) (nis a) < TS.code (B : Int) (nis b)
  | [], _, _ => by simp [BgQ.chN]
  | D :: W, hW, hA => by
    have ih := chN_asc W (fun E hE => hW E (by simp [hE])) fun E hE => hA E (by simp [hE])
    have hb : ∀ cs ∈ BgQ.chN W, TS.Bd (B : Int) (nis cs) := fun cs h => bd_nis (fun E hE => hW E (by simp [hE])) h
    have hl : ∀ cs ∈ BgQ.chN W, (nis cs).length = W.length := fun cs h => by rw [List.length_map, BgQ.chN_mem_len h]
    have hD := hA D (by simp)
    show (D.flatMap fun c => (BgQ.chN W).map (c :: ·)).Pairwise _
    clear hW hA
    induction D with
    | nil => simp
    | cons c D ihD =>
      rw [List.pairwise_cons] at hD
      rw [List.flatMap_cons, List.pairwise_append]
      refine ⟨?_, ihD hD.2, fun a ha b hb2 => ?_⟩
      · rw [List.pairwise_map]
        refine List.Pairwise.imp_of_mem (fun {a b} ha hb2 h => ?_) ih
        show (c : Int) * (B : Int) ^ (nis a).length + _ < (c : Int) * (B : Int) ^ (nis b).length + _
        rw [hl a ha, hl b hb2]
        exact Int.add_lt_add_left h _
      · obtain ⟨y, hy, rfl⟩ := List.mem_map.mp ha
        obtain ⟨d, hd, hb3⟩ := List.mem_flatMap.mp hb2
        obtain ⟨z, hz, rfl⟩ := List.mem_map.mp hb3
        exact TS.code_lt ((hl y hy).trans (hl z hz).symm) (hb y hy) (hb z hz) (show (c : Int) < (d : Int) by have := hD.1 d hd; omega)
theorem chN_nodup {B : Nat} {W : List (List Nat)} (hW : ∀ D ∈ W, ∀ x ∈ D, x < B) (hA : ∀ D ∈ W, D.Pairwise (· < ·)) : (BgQ.chN W).Nodup :=
  (chN_asc W hW hA).imp fun {a b} h e => by subst e; exact Int.lt_irrefl _ h
/-- a sorted list with the same members is the list -/
theorem sort_is {B : Nat} {W : List (List Nat)} (hW : ∀ D ∈ W, ∀ x ∈ D, x < B) (hA : ∀ D ∈ W, D.Pairwise (· < ·)) {L : List (List Int)} (hp : L.Perm ((BgQ.chN W).map nis)) (hs : L.Pairwise fun a b => TS.code (B : Int) a ≤ TS.code (B : Int) b) : L = (BgQ.chN W).map nis := by
  have hC : ((BgQ.chN W).map nis).Pairwise fun a b => TS.code (B : Int) a < TS.code (B : Int) b := List.pairwise_map.mpr (chN_asc W hW hA)
  have inj : ∀ a ∈ (BgQ.chN W).map nis, ∀ b ∈ (BgQ.chN W).map nis, TS.code (B : Int) a = TS.code (B : Int) b → a = b := by
    intro a ha b hb e
    obtain ⟨i, hi, rfl⟩ := List.mem_iff_getElem.mp ha
    obtain ⟨j, hj, rfl⟩ := List.mem_iff_getElem.mp hb
    rcases Nat.lt_trichotomy i j with q | q | q
    · have := List.pairwise_iff_getElem.mp hC i j hi hj q
      omega
    · subst q; rfl
    · have := List.pairwise_iff_getElem.mp hC j i hj hi q
      omega
  refine List.Perm.eq_of_pairwise (le := fun a b => TS.code (B : Int) a ≤ TS.code (B : Int) b) (fun a b ha hb h1 h2 => ?_) hs (hC.imp fun h => Int.le_of_lt h) hp
  exact inj a (hp.mem_iff.mp ha) b hb (by omega)
theorem prod_small : ∀ (W : List (List Nat)), (BgQ.chN W).length ≤ 2 ^ W.flatten.length
  | [] => by simp [BgQ.chN]
  | D :: W => by
    have ih := prod_small W
    have e : (BgQ.chN (D :: W)).length = D.length * (BgQ.chN W).length := by
      show (D.flatMap fun c => (BgQ.chN W).map (c :: ·)).length = _
      induction D with
      | nil => simp
      | cons c D ih => rw [List.flatMap_cons, List.length_append, List.length_map, ih, List.length_cons, Nat.add_mul, Nat.one_mul, Nat.add_comm]
    rw [e, List.flatten_cons, List.length_append, Nat.pow_add]
    exact Nat.mul_le_mul (Nat.le_of_lt Nat.lt_two_pow_self) ih
/-! ### keys with no None -/
def full (k : List (Option Nat)) : Bool := k.all Option.isSome
theorem full_map (cs : List Nat) : full (cs.map some) = true := by simp [full]
theorem full_some : ∀ {k : List (Option Nat)}, full k = true → ∃ cs : List Nat, k = cs.map some
  | [], _ => ⟨[], rfl⟩
  | none :: k, h => by simp [full] at h
  | some c :: k, h => by
    obtain ⟨cs, rfl⟩ := full_some (k := k) (by simpa [full] using h)
    exact ⟨c :: cs, rfl⟩
theorem some_inj : ∀ {a b : List Nat}, a.map some = b.map some → a = b
  | [], [], _ => rfl
  | [], _ :: _, h => by simp at h
  | _ :: _, [], h => by simp at h
  | x :: a, y :: b, h => by
    simp only [List.map_cons, List.cons.injEq, Option.some.injEq] at h
    rw [some_inj h.2, h.1]
section
variable {S : Bg.Sys} {ps : List (List Nat)} {F : Bg.Tab}
theorem good_chosen {cs : List Nat} (g : Bg.Good S ps F (cs.map some)) : Bg.Chosen ps cs := by
  refine ⟨by have := g.len; simpa using this, fun i D c hD hc => ?_⟩
  rcases g.at_ i D hD with ⟨h, _⟩ | ⟨e, he, h, _⟩
  · rw [List.getElem?_map, hc] at h; simp at h
  · rw [List.getElem?_map, hc] at h
    have : c = e := by simpa using h
    subst this
    exact he
theorem chosen_lt (p : Bg.Parts S ps) {cs : List Nat} (h : Bg.Chosen ps cs) : ∀ c ∈ cs, c < S.n := fun c hc => by
  obtain ⟨i, hi⟩ := List.mem_iff_getElem?.mp hc
  have hl : i < ps.length := by rw [← h.len]; exact (List.getElem?_eq_some_iff.mp hi).1
  exact p.lt (List.getElem?_eq_getElem hl) (h.mem i _ c (List.getElem?_eq_getElem hl) hi)
theorem chosen_nodup (p : Bg.Parts S ps) {cs : List Nat} (h : Bg.Chosen ps cs) : cs.Nodup := by
  refine List.pairwise_iff_getElem.mpr fun i j hi hj hij e => ?_
  have li : i < ps.length := by rw [← h.len]; exact hi
  have lj : j < ps.length := by rw [← h.len]; exact hj
  have a := h.mem i _ _ (List.getElem?_eq_getElem li) (List.getElem?_eq_getElem hi)
  have b := h.mem j _ _ (List.getElem?_eq_getElem lj) (List.getElem?_eq_getElem hj)
  rw [e] at a
  have := p.apart (List.getElem?_eq_getElem li) (List.getElem?_eq_getElem lj) a b
  omega
theorem flat_nodup (p : Bg.Parts S ps) : ps.flatten.Nodup := by
  have key : ∀ i, (ps.take i).flatten.Nodup := by
    intro i
    induction i with
    | zero => simp
    | succ i ih =>
      cases h : ps[i]? with
      | none => rw [List.take_add_one, h]; simpa using ih
      | some D =>
        rw [Bg.take_flat h, List.nodup_append]
        have C := p.comp i D h
        refine ⟨ih, (p.asc D (List.mem_of_getElem? h)).imp fun z => Nat.ne_of_lt z, fun a ha b hb e => ?_⟩
        subst e
        exact C.dj a hb ha
  have := key ps.length
  rwa [List.take_length] at this
theorem parts_lt (p : Bg.Parts S ps) : ∀ D ∈ ps, ∀ x ∈ D, x < S.n := fun D hD x hx => by
  obtain ⟨i, hi⟩ := List.mem_iff_getElem?.mp hD
  exact p.lt hi hx
theorem flatN_len (p : Bg.Parts S ps) : ps.flatten.length ≤ S.n :=
  Bg.nodup_le S.n _ (flat_nodup p) fun b hb => (p.cover b).mpr hb
theorem ch_few (p : Bg.Parts S ps) (h : S.n ≤ 5) : (BgQ.chN ps).length ≤ 32 := by
  refine Nat.le_trans (prod_small ps) ?_
  have := flatN_len p
  exact Nat.le_trans (Nat.pow_le_pow_right (by decide) (show ps.flatten.length ≤ 5 by omega)) (by decide)
end
end BgT
set_option Elab.async false
set_option linter.all false
set_option maxRecDepth 100000
set_option maxHeartbeats 4000000
namespace BgT
open PySem PySem.Spec PyProof.Rows L2
theorem pi_zipAK {X : Cx} {K : PySem.W.Frag} {e e2 : Expr} {ta : TA} {p pos tpos : Pos} {elts : List Expr} {kk : Nat} (hg : Gl X "zip") (hm : X.mg "zip" = none) (ha : PA X [e, e2] ta)
    (hs : starEach [e, e2] X.env = (false, eval e X.env) :: starEach [e2] X.env := by rfl) (hpl : (backTo pos (starEach [e2] X.env)).any (·.1) = false := by rfl) (h : X.K = K := by rfl) :
    PI X (.Tuple elts kk tpos) (.Call (.Name "zip" p) [e, e2] [] pos) (RZ.iZipA K ta) := by subst h; exact RZ.pi_zipA hg hm ha hs hpl
/-! ### the keys and the tables -/
noncomputable abbrev keyOf (rows : List Row) (qs : List Nat) : List (Option Nat) := Bg.ents (Bg.comps (sysOf rows)) (Bg.hist (sysOf rows) Bg.noT qs).2
noncomputable abbrev tabOf (rows : List Row) (qs : List Nat) : Bg.Tab := (Bg.hist (sysOf rows) Bg.noT qs).1
structure KInv (rows : List Row) (H : Hp) (L : List (List Nat)) (xs : List KEnt) : Prop where
  src : ∀ e ∈ xs, ∃ qs ∈ L, e.1 = keyOf rows qs ∧ H e.2.2 = some (.tup (boardV rows.length (tabOf rows qs)))
  all : ∀ qs ∈ L, ∃ e ∈ xs, e.1 = keyOf rows qs
  few : xs.length ≤ L.length
theorem KInv.same {rows : List Row} {H H' : Hp} {L : List (List Nat)} {xs : List KEnt} (k : KInv rows H L xs) (s : Same H H') : KInv rows H' L xs :=
  ⟨fun e he => let ⟨qs, h1, h2, h3⟩ := k.src e he; ⟨qs, h1, h2, s _ _ h3⟩, k.all, k.few⟩
theorem good_of {rows : List Row} (hok : RowsOk rows) {qs : List Nat} (h : ∀ q ∈ qs, q < rows.length) : Bg.Good (sysOf rows) (Bg.comps (sysOf rows)) (tabOf rows qs) (keyOf rows qs) :=
  Bg.play_good hok.sys hok.lvl (Bg.comps_parts hok.sys) qs h
theorem tab_eq {rows : List Row} (hok : RowsOk rows) {qs qs' : List Nat} (h : ∀ q ∈ qs, q < rows.length) (h' : ∀ q ∈ qs', q < rows.length) (e : keyOf rows qs = keyOf rows qs') : tabOf rows qs = tabOf rows qs' :=
  Bg.Good.unique hok.sys (Bg.comps_parts hok.sys) (good_of hok h) (by rw [e]; exact good_of hok h')
theorem ords_few {n k : Nat} (hn : n ≤ 5) (hk : k ≤ 5) : (ords n k).length ≤ 16000 := by
  have h5 : ∀ k, k ≤ 5 → (lev n k).length ≤ 3125 := fun k hk => by
    refine Nat.le_trans (lev_len n k) ?_
    have e1 : n ^ k ≤ 5 ^ k := Nat.pow_le_pow_left hn k
    have e2 : 5 ^ k ≤ 5 ^ 5 := Nat.pow_le_pow_right (by decide) hk
    exact Nat.le_trans e1 e2
  have h6 : ∀ k, k ≤ 5 → (ords n k).length ≤ 1 + 3125 * k := fun k => by
    induction k with
    | zero => intro _; simp [ords]
    | succ k ih =>
      intro hk
      have e1 := ih (by omega)
      have e2 := h5 (k + 1) hk
      rw [ords, List.length_append]
      omega
  have := h6 k hk
  omega
theorem dp_board {K : PySem.W.Frag} {H : Hp} {a : Addr} {n : Nat} {F : Bg.Tab} (h : H a = some (.tup (boardV n F))) : ∃ d, Dp K H (.ref a) d ∧ SeqAt.shaped d = true ∧ PyData.eqv d d = true ∧ d = .tuple ((List.range n).map fun c => pdV (F c)) := by
  have hd : DpAll K H (boardV n F) ((List.range n).map fun c => pdV (F c)) := dpAll_map (fun c => optV (F c)) _ (fun c => dp_V _) _
  have hsh : ∀ d ∈ (List.range n).map (fun c => pdV (F c)), Shal 0 d := fun d hd => by
    obtain ⟨c, _, rfl⟩ := List.mem_map.mp hd
    exact shal_pdV _
  have hb1 := Shal.tup hsh
  exact ⟨_, .tup (SqT.of h) hd, hb1.ok (by decide), SeqAt.eqv_refl _ hb1.1, rfl⟩
theorem ne_boards {K : PySem.W.Frag} {H : Hp} {a b : Addr} {n : Nat} {F : Bg.Tab} {Q : VK} (h : H a = some (.tup (boardV n F))) (k : H b = some (.tup (boardV n F))) (q : Q (.bl false) H) : rNeD K (.ref a) (.ref b) H Q := by
  obtain ⟨d, h1, h2, h3, h4⟩ := dp_board (K := K) h
  obtain ⟨e, k1, k2, k3, k4⟩ := dp_board (K := K) k
  subst h4 k4
  exact ⟨_, _, h1, k1, h2, k2, by rw [h3]; exact q⟩
theorem small20k {n : Nat} (h : n ≤ 20000) : n < sizeLine := by rw [sizeLine_eq]; omega
theorem inV_none : ∀ (k : List (Option Nat)), (!inV .non (k.map optN)) = full k
  | [] => rfl
  | none :: k => rfl
  | some c :: k => by
    have ih := inV_none k
    show (!(eqV (vn c) .non || inV .non (k.map optN))) = (true && full k)
    rw [show eqV (vn c) .non = false from rfl, Bool.false_or, Bool.true_and, ih]
theorem flat_opts (k : List (Option Nat)) : (k.map optN).all flatV = true := by
  rw [List.all_eq_true]
  intro v hv
  obtain ⟨o, _, rfl⟩ := List.mem_map.mp hv
  cases o <;> rfl
def numsOf (k : List (Option Nat)) : List Int := k.map fun o => ((o.getD 0 : Nat) : Int)
theorem nums_some (cs : List Nat) : numsOf (cs.map some) = nis cs := by simp [numsOf]
theorem nums_V {k : List (Option Nat)} (h : full k = true) : k.map optN = (numsOf k).map V.int := by
  obtain ⟨cs, rfl⟩ := full_some h
  simp [numsOf, optN, vn, Function.comp_def]
abbrev fulls (xs : List KEnt) : List KEnt := xs.filter fun e => full e.1
theorem full_perm {P : Program} {w : World} {H : Hp} {a : Addr} {o : Obj} {xs : List KEnt} {rows : List Row} (hok : RowsOk rows) (d : KdAt P w H a o xs) (v : KInv rows H (ords rows.length rows.length) xs) :
    ((fulls xs).map fun e => numsOf e.1).Perm ((BgQ.chN (Bg.comps (sysOf rows))).map nis) := by
  have par := Bg.comps_parts hok.sys
  have hW : ∀ D ∈ Bg.comps (sysOf rows), ∀ x ∈ D, x < rows.length := parts_lt par
  have n1 : (xs.map fun e => e.1.map leafN).Nodup := by
    have := d.nd
    rw [List.map_map] at this
    exact this
  have n2 : xs.Pairwise fun e f => e.1.map leafN ≠ f.1.map leafN := List.pairwise_map.mp n1
  have nl : ((fulls xs).map fun e => numsOf e.1).Nodup := by
    refine List.pairwise_map.mpr (List.Pairwise.imp_of_mem (fun {e f} he hf hne heq => hne ?_) (n2.filter (fun e => full e.1)))
    obtain ⟨c1, e1⟩ := full_some (List.mem_filter.mp he).2
    obtain ⟨c2, e2⟩ := full_some (List.mem_filter.mp hf).2
    rw [e1, e2, nums_some, nums_some] at heq
    rw [e1, e2, nis_inj heq]
  have nr : ((BgQ.chN (Bg.comps (sysOf rows))).map nis).Nodup := List.pairwise_map.mpr ((chN_nodup hW par.asc).imp fun {a b} h e => h (nis_inj e))
  refine (List.perm_ext_iff_of_nodup nl nr).mpr fun m => ?_
  rw [List.mem_map, List.mem_map]
  constructor
  · rintro ⟨e, he, rfl⟩
    obtain ⟨hex, hf⟩ := List.mem_filter.mp he
    obtain ⟨cs, hcs⟩ := full_some hf
    obtain ⟨qs, hq, e1, _⟩ := v.src e hex
    have g := good_of hok ((mem_ords _ qs).mp hq).2.1
    rw [← e1, hcs] at g
    exact ⟨cs, mem_chN.mpr (good_chosen g), by rw [hcs, nums_some]⟩
  · rintro ⟨cs, hcs, rfl⟩
    have hC := mem_chN.mp hcs
    have hlt := chosen_lt par hC
    have hnd := chosen_nodup par hC
    obtain ⟨e, he, e1⟩ := v.all cs ((mem_ords _ cs).mpr ⟨hnd, hlt, Bg.nodup_le _ cs hnd hlt⟩)
    have e2 : e.1 = cs.map some := e1.trans (Bg.ch_play hok.sys par hC)
    exact ⟨e, List.mem_filter.mpr ⟨he, by rw [e2]; exact full_map cs⟩, by rw [e2, nums_some]⟩
/-- what sorted() is asked -/
theorem sort_ask {P : Program} {w : World} {K : PySem.W.Frag} {H H' : Hp} {a D : Addr} {o : Obj} {xs : List KEnt} {rows : List Row} {Q : VK} (hok : RowsOk rows) (h0 : 0 < rows.length) (h5 : rows.length ≤ 5) (d : KdAt P w H a o xs) (v : KInv rows H (ords rows.length rows.length) xs) (s : Same H H') (hD : H' D = some (.lst ((fulls xs).map fun e => V.ref e.2.1)))
    (q : ∀ (L' : List (Addr × List Int)) (p : Addr), (∀ q ∈ L', ∃ e ∈ xs, q = (e.2.1, numsOf e.1) ∧ full e.1 = true) → L'.map (·.2) = (BgQ.chN (Bg.comps (sysOf rows))).map nis → H' p = none → Q (.ref p) (upd H' p (.lst (L'.map fun q => V.ref q.1)))) :
    rSortedL K [V.ref D] H' Q := by
  have par := Bg.comps_parts hok.sys
  have hW : ∀ D ∈ Bg.comps (sysOf rows), ∀ x ∈ D, x < rows.length := parts_lt par
  have pm := full_perm hok d v
  have e2 : ((fulls xs).map fun e => ((e.2.1, numsOf e.1) : Addr × List Int)).map (·.2) = (fulls xs).map fun e => numsOf e.1 := by rw [List.map_map]; rfl
  have hne : Bg.comps (sysOf rows) ≠ [] := fun e => by
    have := (par.cover 0).mp h0
    rw [e] at this
    simp at this
  have nr : ((BgQ.chN (Bg.comps (sysOf rows))).map nis).Nodup := List.pairwise_map.mpr ((chN_nodup hW par.asc).imp fun {a b} h e => h (nis_inj e))
  refine ⟨D, (fulls xs).map fun e => (e.2.1, numsOf e.1), (Bg.comps (sysOf rows)).length, (rows.length : Nat), rfl, ?_, fun p hp => ?_, ?_, ?_, List.length_pos_iff.mpr hne, fun p hp => ?_, fun L' p pmL pw hp => q L' p (fun q hq => ?_) ?_ hp⟩
  · rw [List.map_map]; exact SqL.of hD
  · obtain ⟨e, he, rfl⟩ := List.mem_map.mp hp
    obtain ⟨hex, hf⟩ := List.mem_filter.mp he
    refine SqT.of (s _ _ ?_)
    rw [← nums_V hf]
    exact d.key e hex
  · rw [e2]; exact pm.nodup_iff.mpr nr
  · have := pm.length_eq
    rw [List.length_map, List.length_map] at this
    rw [List.length_map, this]
    exact Nat.lt_of_le_of_lt (ch_few par h5) (by decide)
  · have hm : p.2 ∈ (BgQ.chN (Bg.comps (sysOf rows))).map nis := pm.mem_iff.mp (by rw [← e2]; exact List.mem_map.mpr ⟨p, hp, rfl⟩)
    obtain ⟨cs, hcs, e⟩ := List.mem_map.mp hm
    rw [← e]
    exact ⟨by rw [List.length_map, BgQ.chN_mem_len hcs], bd_nis hW hcs⟩
  · obtain ⟨e, he, rfl⟩ := List.mem_map.mp (pmL.mem_iff.mp hq)
    obtain ⟨hex, hf⟩ := List.mem_filter.mp he
    exact ⟨e, hex, rfl, hf⟩
  · refine sort_is hW par.asc ?_ (List.pairwise_map.mpr pw)
    have := pmL.map (·.2)
    rw [e2] at this
    exact this.trans pm
section
variable {P : Program} {w : World} {K : PySem.W.Frag} {mg : Str → Option Value} {base : Heap}
theorem sc_law_small_right : FnScope ["_law_rows_here", "_law_lots", "_law_web_here", "_law_known", "_law_quests", "_law_played_here", "_law_chosen", "_law_told", "_law_one", "_law_least"] ["_law_rows_here", "_law_lots", "_law_web_here"] (defScope s_law_small_right) := ⟨rfl, rfl, rfl, by decide +kernel, rfl, by decide +kernel, by decide +kernel⟩
theorem bd_law_small_right {K : PySem.W.Frag} {mg : Str → Option Value} (T : Tx K mg) : Binds K (fdOf K (He.ga K "_law_small_right")) ["_law_rows_here", "_law_lots", "_law_web_here"] [] := T.F_law_small_right.bindsN (fun _ _ _ _ _ _ us hl => match us, hl with | [_, _, _], _ => rfl)
theorem small_pre (T : Tx K mg) (cdv : Value) (A : Around) (outer : List Env) (s : Shared) (H : Hp) (E : XK) (hr : Room 80 (A.deeper (envOfC "_law_small_right" (defScope s_law_small_right) s.heap.objs.size (He.ga K "_law_small_right") cdv)))
    {la x ra : Addr} {us rs : List V} {rows : List Row} (hra : H ra = some (.lst rs)) (hrl : rs.length = rows.length) (h0 : 0 < rows.length) (h5 : rows.length ≤ 5) (hs : SysAt K H x rows) (hok : RowsOk rows) (hla : H la = some (.lst us)) (hcs : CsAt H us (Bg.comps (sysOf rows))) :
    ∃ t, PSs (cxOf CX0 P w K mg base ["_law_rows_here", "_law_lots", "_law_web_here", "_law_known", "_law_quests", "_law_played_here", "_law_chosen", "_law_told", "_law_one", "_law_least"] "_law_small_right" (defScope s_law_small_right) (He.ga K "_law_small_right") cdv A outer s H E).nox ((defBody s_law_small_right).take 4) t ∧
      ∀ D : Ends, (∀ H' (kd : Addr) (o : Obj) (xs : List KEnt) (a4 a5 a6 a7 : Option V), Same H H' → KdAt P w H' kd o xs → KInv rows H' (ords rows.length rows.length) xs → D.nx [some (.ref ra), some (.ref la), some (.ref x), some (.ref kd), a4, a5, a6, a7, none, none] H') →
        t D (L2.start ["_law_rows_here", "_law_lots", "_law_web_here", "_law_known", "_law_quests", "_law_played_here", "_law_chosen", "_law_told", "_law_one", "_law_least"] [.ref ra, .ref la, .ref x]) H := by
  have hu : (A.deeper (envOfC "_law_small_right" (defScope s_law_small_right) s.heap.objs.size (He.ga K "_law_small_right") cdv)).units + 1 < cLine := by have := hr.units; omega
  refine ⟨_, (pss_cons (ps_set (i := 3) sc_law_small_right.nd rfl (Or.inl rfl) (pe_dnewL (P := P) (w := w)))
 (pss_cons (ps_for PassesOwn.never rfl (pi_list (pe_call (ok_law_orders T) (hr.mono (by decide)) rfl T.g_law_orders T.F_law_orders.kp (bd_law_orders T) .nil pass0 (pa_cons (pe_listRg rfl (by rfl) T.b_list (prg_1 (by rfl) T.b_range (pe_callB call_len_seq (by rfl) T.b_len (by decide +kernel) (pa_cons (pv 0) pa_nil)))) pa_nil))) (pg_name (i := 4) sc_law_small_right.nd rfl (Or.inl rfl))
 (pss_cons (ps_set (i := 5) sc_law_small_right.nd rfl (Or.inl rfl) (pe_call (ok_law_played T) (hr.mono (by decide)) rfl T.g_law_played T.F_law_played.kp (bd_law_played T) .nil pass0 (pa_cons (pv 0) (pa_cons (pv 1) (pa_cons (pv 2) (pa_cons (pv 4) pa_nil))))))
 (pss_one (ps_if (PW.pt (pw_or (pt_cmpR op_isN (pv 5) pe_non (nomark _)) (pw_or1 (pt_cmpR (op_neDK (K := K) hr.units) (pe_ksd (P := P) (w := w) hu (pv 3) (pe_ix ix_tup (pv 5) pe_int (fun _ _ => rfl)) (pe_ix ix_tup (pv 5) pe_int (fun _ _ => rfl)) ⟨rfl, rfl, rfl, rfl⟩) (pe_ix ix_tup (pv 5) pe_int (fun _ _ => rfl)) (nomark _)))))
 (pss_one (ps_ret pe_bl))
 pss_nil))))
 (pss_cons (ps_for PassesOwn.never rfl (pi_list (pe_callB (cr_sortedLK (K := K)) (by rfl) T.b_sorted (by decide +kernel) (pa_cons (pe_lc (own := [("_law_one", 8)]) (g := gName 8) rfl sc_law_small_right.nd (pi_kd (P := P) (w := w) (pv 3)) (blkOk_by (own := [("_law_one", 8)]) (N := ["_law_rows_here", "_law_lots", "_law_web_here", "_law_known", "_law_quests", "_law_played_here", "_law_chosen", "_law_told", "_law_one", "_law_least"]) (sc := defScope s_law_small_right) (by decide +kernel)) (fun _ _ _ _ _ => (pg_name (i := 8) sc_law_small_right.nd rfl (by first | exact Or.inl rfl | exact Or.inr rfl))) (fun _ _ _ _ _ => pts_one (pt_cmpR (op_notIn_seqK (K := K)) pe_non (pv 8) (by rfl))) (fun _ _ _ _ _ => (pv 8))) pa_nil))) (pg_name (i := 6) sc_law_small_right.nd rfl (Or.inl rfl))
 (pss_one (ps_if (pt_cmpR (op_neDK (K := K) hr.units) (pe_call (ok_table_by_entries T) (hr.mono (by decide)) rfl T.g_table_by_entries T.F_table_by_entries.kp (bd_table_by_entries T) .nil pass0 (pa_cons (pv 2) (pa_cons (pv 6) pa_nil))) (pe_kget (P := P) (w := w) hu (pv 3) (pv 6) (fun _ _ => rfl)) (nomark _))
 (pss_one (ps_ret pe_bl))
 pss_nil)))
 (pss_one (ps_for PassesOwn.never rfl (pi_kd (P := P) (w := w) (pv 3)) (pg_name (i := 6) sc_law_small_right.nd rfl (Or.inl rfl))
 (pss_cons (ps_set (i := 7) sc_law_small_right.nd rfl (Or.inl rfl) (pe_call (ok_entries_of T) (hr.mono (by decide)) rfl T.g_entries_of T.F_entries_of.kp (bd_entries_of T) .nil pass0 (pa_cons (pv 2) (pa_cons (pe_kget (P := P) (w := w) hu (pv 3) (pv 6) (fun _ _ => rfl)) pa_nil))))
 (pss_cons (ps_if (PW.pt (pw_or (pt_cmpR (op_neDK (K := K) hr.units) (pe_call (ok_table_by_entries T) (hr.mono (by decide)) rfl T.g_table_by_entries T.F_table_by_entries.kp (bd_table_by_entries T) .nil pass0 (pa_cons (pv 2) (pa_cons (pv 6) pa_nil))) (pe_kget (P := P) (w := w) hu (pv 3) (pv 6) (fun _ _ => rfl)) (nomark _)) (pw_or1 (pt_cmpR op_ne (pe_ix ix_tup (pv 7) pe_int (fun _ _ => rfl)) pe_str (nomark _)))))
 (pss_one (ps_ret pe_bl))
 pss_nil)
 (pss_one (ps_if (pt_cmpR (op_neNil hr.units) (pe_lc (own := [("_law_one", 8), ("_law_least", 9)]) (g := gTup K 2 (gCons (gName 8) (gCons (gName 9) gNil))) rfl sc_law_small_right.nd (pi_zipAK (K := K) (by rfl) T.b_zip (pa_cons (pv 6) (pa_cons (pe_ix ix_tup (pv 7) pe_int (fun _ _ => rfl)) pa_nil))) (blkOk_by (own := [("_law_one", 8), ("_law_least", 9)]) (N := ["_law_rows_here", "_law_lots", "_law_web_here", "_law_known", "_law_quests", "_law_played_here", "_law_chosen", "_law_told", "_law_one", "_law_least"]) (sc := defScope s_law_small_right) (by decide +kernel)) (fun _ _ _ _ _ => (pg_tup rfl (pgs_cons (pg_name (i := 8) sc_law_small_right.nd rfl (by first | exact Or.inl rfl | exact Or.inr rfl)) (pgs_cons (pg_name (i := 9) sc_law_small_right.nd rfl (by first | exact Or.inl rfl | exact Or.inr rfl)) pgs_nil)))) (fun _ _ _ _ _ => pts_one (PW.pt (pw_and (pt_cmpR op_notN (pv 8) pe_non (nomark _)) (pw_and1 (pt_cmpR op_gt (pv 9) (pv 8) (nomark _)))))) (fun _ _ _ _ _ => (pv 8))) (pe_lst pa_nil) (nomark _))
 (pss_one (ps_ret pe_bl))
 pss_nil))))))))), ?_⟩
  intro D hD
  have hle := hok.le
  have sok := hok.sys
  have slv := hok.lvl
  intro kd o0 hkd hK0
  have sK0 : Same H (upd H kd (kdO kd o0)) := same_upd hkd
  refine ⟨_, rfl, ra, _, rfl, .inl (SqL.of (sK0 _ _ hra)), _, rfl, ⟨by omega, by omega, by omega, by omega, by omega⟩, fun oa hoa => ?_⟩
  rw [hrl, rgV_cells]
  have sA0 : Same (upd H kd (kdO kd o0)) (upd (upd H kd (kdO kd o0)) oa (.lst (cellsV rows.length))) := same_upd hoa
  refine ⟨oa, rows.length, rfl, upd_same, h5, fun H1 l ou s1 hl hou => ⟨l, rfl, ⟨_, SqL.of hl⟩, ?_⟩⟩
  have hK1 : KdAt P w H1 kd o0 [] := (hK0.same sA0).same s1
  have s01 : Same H H1 := (sK0.trans sA0).trans s1
  clear hoa sA0 s1 hK0 sK0
  have hOL := hou.len
  have hfew := ords_few h5 h5
  have ordm : ∀ {i : Nat} {qs : List Nat}, qs ∈ (ords rows.length rows.length).take i → ∀ q ∈ qs, q < rows.length := fun {i qs} h => ((mem_ords _ qs).mp (List.mem_of_mem_take h)).2.1
  have keepK : ∀ {H' : Hp}, (∀ b o, b ≠ kd → H1 b = some o → H' b = some o) → ∀ {b : Addr} {ys : List V}, H1 b = some (.tup ys) → H' b = some (.tup ys) := fun {H'} k {b ys} e => k b _ (ne_of e hK1.st (fun z => nomatch z)) e
  have keepS : ∀ {H' : Hp}, (∀ b o, b ≠ kd → H1 b = some o → H' b = some o) → SysAt K H' x rows := fun {H'} k => by
    obtain ⟨dxs, ts, vss, hs1, hs2, g1, g2⟩ := hs.same s01
    have nn : ∀ {a o}, H1 a = some o → (∀ z, o ≠ HO.ext z) → H' a = some o := fun {a o} h hn => k a o (ne_of h hK1.st (hn _)) h
    refine ⟨dxs, ts, vss, nn hs1 (by simp), nn hs2 (by simp), g1, fun k r e => ?_⟩
    obtain ⟨v, z, a, o, f, e1, e2, e3, e4⟩ := g2 k r e
    refine ⟨v, z, a, o, f, e1, nn e2 (by simp), nn e3 (by simp), ?_⟩
    cases hfn : r.fn with
    | lev kk c => rw [hfn] at e4; obtain ⟨a, e, h⟩ := e4; exact ⟨a, e, nn h (by simp)⟩
    | tab t => rw [hfn] at e4; obtain ⟨a, b, e, h, q⟩ := e4; exact ⟨a, b, e, nn h (by simp), nn q (by simp)⟩
  refine for_it (walk_list (K := K) (a := l) (xs := ou)) (fun i σ H' => ∃ (o : Obj) (xs : List KEnt) (a4 a5 : Option V), σ = [some (.ref ra), some (.ref la), some (.ref x), some (.ref kd), a4, a5, none, none, none, none] ∧ (∀ b o, b ≠ kd → H1 b = some o → H' b = some o) ∧ KdAt P w H' kd o xs ∧ KInv rows H' ((ords rows.length rows.length).take i) xs)
    ⟨o0, [], _, _, rfl, fun b o _ e => e, hK1, ⟨fun e he => (by cases he), fun qs h => (by simp at h), Nat.zero_le _⟩⟩ (fun i σ H' _ h => by obtain ⟨o, xs, a4, a5, rfl, k, _⟩ := h; exact SqL.of (k _ _ (ne_of hl hK1.st (fun z => nomatch z)) hl)) ?_ ?_
  · rintro i y σ H3 H3' hi ⟨o, xs, a4, a5, rfl, k3, d3, v3⟩ ⟨rfl, hy⟩
    obtain ⟨qa, qs, rfl, hqs, hqa⟩ := hou.get hy
    have hqm : qs ∈ ords rows.length rows.length := List.mem_of_getElem? hqs
    obtain ⟨hqn, hqc, hql⟩ := (mem_ords _ qs).mp hqm
    have hcs3 : CsAt H3' us (Bg.comps (sysOf rows)) := (hcs.same s01).keepT fun a ys e => keepK k3 e
    have hla3 : H3' la = some (.lst us) := k3 _ _ (ne_of (s01 _ _ hla) hK1.st (fun z => nomatch z)) (s01 _ _ hla)
    have hg := good_of hok hqc
    refine ⟨_, rfl, _, rfl, _, rfl, _, rfl, V.ref ra, la, x, qa, us, rows, qs, rfl, keepS k3, hok, hla3, hcs3, .inr (keepK k3 hqa), by omega, hqc, fun H4 pp tb ee s4 hpp0 hpp htb hee => ?_⟩
    have d4 := d3.same s4
    have v4 := v3.same s4
    have k4 : ∀ b o, b ≠ kd → H1 b = some o → H4 b = some o := fun b o n e => s4 _ _ (k3 b o n e)
    have etk : (ords rows.length rows.length).take (i + 1) = (ords rows.length rows.length).take i ++ [qs] := take_snoc hqs
    have hxl : xs.length ≤ i := by have := v4.few; rw [List.length_take] at this; omega
    refine ⟨_, rfl, rfl, _, rfl, iteF ?_⟩
    refine ⟨_, rfl, kd, o, xs, rfl, d4, _, rfl, pp, _, _, _, rfl, rfl, SqT.of hpp, atI_nat (j := 1) rfl, _, rfl, pp, _, _, _, rfl, rfl, SqT.of hpp, atI_nat (j := 0) rfl, o, xs, keyOf rows qs, ee, tb, rfl, rfl, d4, hee, by omega, fun e he hek => ?_, fun hno o' d5 => ?_⟩
    · obtain ⟨qs', hq', e1, e2⟩ := v4.src e he
      have hq2 := ordm hq'
      rw [tab_eq hok hq2 hqc (e1.symm.trans hek)] at e2
      refine ⟨_, rfl, pp, _, _, _, rfl, rfl, SqT.of hpp, atI_nat (j := 0) rfl, ne_boards e2 htb ⟨_, rfl, iteF ?_⟩⟩
      refine ⟨o, xs, _, _, rfl, k4, d4, ?_⟩
      rw [etk]
      refine ⟨fun f hf => ?_, fun q hq => ?_, ?_⟩
      · obtain ⟨q, h1, h2⟩ := v4.src f hf
        exact ⟨q, List.mem_append_left _ h1, h2⟩
      · rcases List.mem_append.mp hq with hq | hq
        · exact v4.all q hq
        · rw [List.mem_singleton.mp hq]; exact ⟨e, he, hek⟩
      · rw [List.length_append]; exact Nat.le_trans v4.few (Nat.le_add_right _ _)
    · have ne : ∀ {c : Addr} {ys : List V}, H4 c = some (.tup ys) → upd H4 kd (kdO kd o') c = some (.tup ys) := fun {c ys} e => by rw [upd_ne (ne_of e d4.st (fun z => nomatch z))]; exact e
      refine ⟨_, rfl, pp, _, _, _, rfl, rfl, SqT.of (ne hpp), atI_nat (j := 0) rfl, ne_boards (ne htb) (ne htb) ⟨_, rfl, iteF ?_⟩⟩
      refine ⟨o', xs ++ [(keyOf rows qs, ee, tb)], _, _, rfl, fun b z n e => by rw [upd_ne n]; exact k4 b z n e, d5, ?_⟩
      rw [etk]
      refine ⟨fun f hf => ?_, fun q hq => ?_, ?_⟩
      · rcases List.mem_append.mp hf with hf | hf
        · obtain ⟨q, h1, h2, h3⟩ := v4.src f hf
          exact ⟨q, List.mem_append_left _ h1, h2, ne h3⟩
        · rw [List.mem_singleton.mp hf]
          exact ⟨qs, by simp, rfl, ne htb⟩
      · rcases List.mem_append.mp hq with hq | hq
        · obtain ⟨e, h1, h2⟩ := v4.all q hq
          exact ⟨e, List.mem_append_left _ h1, h2⟩
        · rw [List.mem_singleton.mp hq]; exact ⟨(keyOf rows qs, ee, tb), List.mem_append_right _ List.mem_cons_self, rfl⟩
      · rw [List.length_append, List.length_append]
        exact Nat.add_le_add_right v4.few _
  · rintro σ H3 ⟨o, xs, a4, a5, rfl, k3, d3, v3⟩
    rw [hOL, List.take_length] at v3
    refine ⟨_, rfl, kd, o, xs, rfl, d3, fun N hN => ?_⟩
    refine walk_any (walk_kd (d := kd) (o := o) (es := xs)) (fun i H' => Same H3 H' ∧ H' N = some (.lst (((xs.take i).filter fun e => full e.1).map fun e => V.ref e.2.1))) ⟨same_upd hN, upd_same⟩ (fun i H' _ h => h.1 _ _ d3.st) ?_ ?_
    · rintro i y H4 H4' hi ⟨s4, h4⟩ ⟨rfl, e, he, rfl⟩
      have hem := List.mem_of_getElem? he
      have hflt := List.length_filter_le (fun e : KEnt => full e.1) (xs.take i)
      have hxl : xs.length ≤ 16000 := Nat.le_trans v3.few hfew
      rw [List.length_take] at hflt
      have etk : xs.take (i + 1) = xs.take i ++ [e] := take_snoc he
      refine ⟨rfl, _, rfl, _, _, rfl, .inr (SqT.of (s4 _ _ (d3.key e hem))), rfl, flat_opts _, _, rfl, ?_⟩
      rw [show (if true = true then !inV V.non (e.1.map optN) else inV V.non (e.1.map optN)) = full e.1 from inV_none e.1, etk, List.filter_append, List.map_append]
      cases hf : full e.1 with
      | true =>
        refine iteT ⟨_, rfl, _, h4, small20k (by rw [List.length_map]; omega), sameN s4 hN, ?_⟩
        rw [upd_same, List.filter_cons, hf]
        rfl
      | false =>
        refine iteF ⟨s4, ?_⟩
        rw [h4, List.filter_cons, hf]
        simp
    · rintro H4 ⟨s4, h4⟩
      rw [List.take_length] at h4
      unfold tNil
      refine sort_ask (K := K) hok h0 h5 d3 v3 s4 h4 fun L' p hL' _ hp => ⟨p, rfl, ⟨_, SqL.of upd_same⟩, ?_⟩
      have s5 : Same H3 (upd H4 p (.lst (L'.map fun q => V.ref q.1))) := s4.trans (same_upd hp)
      have hp5 := upd_same (H := H4) (a := p) (o := .lst (L'.map fun q => V.ref q.1))
      generalize upd H4 p (.lst (L'.map fun q => V.ref q.1)) = H5 at s5 hp5
      refine for_it (walk_list (K := K) (a := p) (xs := L'.map fun q => V.ref q.1)) (fun i σ H' => ∃ (a4 a5 a6 : Option V), σ = [some (.ref ra), some (.ref la), some (.ref x), some (.ref kd), a4, a5, a6, none, none, none] ∧ Same H5 H')
        ⟨_, _, _, rfl, .refl H5⟩ (fun i σ H' _ h => by obtain ⟨a4, a5, a6, rfl, k⟩ := h; exact SqL.of (k _ _ hp5)) ?_ ?_
      · rintro i y σ H6 H6' hi ⟨a4, a5, a6, rfl, s6⟩ ⟨rfl, hy⟩
        obtain ⟨q, hq, rfl⟩ := map_at hy
        obtain ⟨e, he, rfl, hf⟩ := hL' q (List.mem_of_getElem? hq)
        obtain ⟨qs, hqs, e1, e2⟩ := v3.src e he
        have hg := good_of hok ((mem_ords _ qs).mp hqs).2.1
        rw [← e1] at hg
        have s36 := s5.trans s6
        have k6 : ∀ b o, b ≠ kd → H1 b = some o → H6' b = some o := fun b o n z => s36 _ _ (k3 b o n z)
        refine ⟨_, rfl, _, rfl, x, e.2.1, rows, e.1, tabOf rows qs, rfl, keepS k6, hok, s36 _ _ (d3.key e he), hg, fun H7 pt s7 hpt => ?_⟩
        have d7 := d3.same (s36.trans s7)
        refine ⟨_, rfl, _, rfl, kd, o, xs, e, e.2.1, rfl, rfl, d7, he, d7.key e he, ne_boards hpt (s7 _ _ (s36 _ _ e2)) ⟨_, rfl, iteF ?_⟩⟩
        exact ⟨_, _, _, rfl, s6.trans s7⟩
      · rintro σ H6 ⟨a4, a5, a6, rfl, s6⟩
        have s36 := s5.trans s6
        have d6 := d3.same s36
        have v6 := v3.same s36
        have k6 : ∀ b o, b ≠ kd → H1 b = some o → H6 b = some o := fun b o n z => s36 _ _ (k3 b o n z)
        clear s36 s6 hp5 s5 h4 s4 hN v3 d3 k3
        refine ⟨_, rfl, kd, o, xs, rfl, d6, ?_⟩
        refine for_it (walk_kd (d := kd) (o := o) (es := xs)) (fun i σ H' => ∃ (a4 a5 a6 a7 : Option V), σ = [some (.ref ra), some (.ref la), some (.ref x), some (.ref kd), a4, a5, a6, a7, none, none] ∧ Same H6 H')
          ⟨_, _, _, _, rfl, .refl H6⟩ (fun i σ H' _ h => by obtain ⟨a4, a5, a6, a7, rfl, k⟩ := h; exact k _ _ d6.st) ?_ ?_
        · rintro i y σ H7 H7' hi ⟨a4, a5, a6, a7, rfl, s7⟩ ⟨rfl, e, hei, rfl⟩
          have he := List.mem_of_getElem? hei
          obtain ⟨qs, hqs, e1, e2⟩ := v6.src e he
          have hg := good_of hok ((mem_ords _ qs).mp hqs).2.1
          rw [← e1] at hg
          have d7 := d6.same s7
          have k7 : ∀ b o, b ≠ kd → H1 b = some o → H7' b = some o := fun b o n z => s7 _ _ (k6 b o n z)
          refine ⟨_, rfl, _, rfl, _, rfl, kd, o, xs, e, e.2.1, rfl, rfl, d7, he, d7.key e he, x, e.2.2, rows, e.1, tabOf rows qs, rfl, keepS k7, hok, s7 _ _ e2, hg, fun H8 ta tp told s8 hta htp htold => ?_⟩
          have d8 := d7.same s8
          have k8 : ∀ b o, b ≠ kd → H1 b = some o → H8 b = some o := fun b o n z => s8 _ _ (k7 b o n z)
          refine ⟨_, rfl, _, rfl, x, e.2.1, rows, e.1, tabOf rows qs, rfl, keepS k8, hok, d8.key e he, hg, fun H9 pt s9 hpt => ?_⟩
          have d9 := d8.same s9
          refine ⟨_, rfl, _, rfl, kd, o, xs, e, e.2.1, rfl, rfl, d9, he, d9.key e he, ne_boards hpt (s9 _ _ (s8 _ _ (s7 _ _ e2))) ⟨_, rfl, iteF ?_⟩⟩
          refine ⟨_, rfl, ta, _, _, _, rfl, rfl, SqT.of (s9 _ _ hta), atI_nat (j := 0) rfl, rfl, _, rfl, ?_⟩
          refine iteF ?_
          refine ⟨_, rfl, _, rfl, ta, _, _, _, rfl, rfl, SqT.of (s9 _ _ hta), atI_nat (j := 1) rfl, e.2.1, tp, _, _, rfl, .inr ⟨SqT.of (d9.key e he), SqT.of (s9 _ _ htp), fun N hN => ?_⟩⟩
          refine walk_any (walk_zipT (K := K) (a := e.2.1) (b := tp) (xs := e.1.map optN) (ys := told.map optN) (n := e.1.length) (by simp [htold.1])) (fun i H' => Same H9 H' ∧ H' N = some (.lst [])) ⟨same_upd hN, upd_same⟩ (fun i H' _ h => ⟨SqT.of (h.1 _ _ (d9.key e he)), SqT.of (h.1 _ _ (s9 _ _ htp))⟩) ?_ ?_
          · rintro j y H10 H11 hj ⟨s10, h10⟩ ⟨T', x1, x2, rfl, hT, rfl, g1, g2⟩
            obtain ⟨c, hc, rfl⟩ := map_at (show (e.1.map optN)[j]? = some x1 from g1)
            obtain ⟨c', hc', rfl⟩ := map_at (show (told.map optN)[j]? = some x2 from g2)
            have s11 : Same H9 (upd H10 T' (.tup [optN c, optN c'])) := s10.trans (same_upd hT)
            have h11 : upd H10 T' (.tup [optN c, optN c']) N = some (.lst []) := same_upd hT _ _ h10
            have hT' : upd H10 T' (.tup [optN c, optN c']) T' = some (.tup [optN c, optN c']) := upd_same
            generalize upd H10 T' (.tup [optN c, optN c']) = H11 at s11 h11 hT'
            refine ⟨_, _, rfl, SqT.of hT', rfl, _, _, rfl, _, _, rfl, rfl, rfl, _, rfl, rfl, ?_⟩
            rcases htold.2 j c hc with ⟨rfl, ht⟩ | ⟨a, b, rfl, ht, hab⟩
            · exact ⟨_, rfl, iteF (iteF ⟨s11, h11⟩)⟩
            · rw [ht] at hc'
              cases hc'
              refine ⟨_, rfl, iteT ⟨_, rfl, _, rfl, _, _, rfl, rfl, _, rfl, ?_⟩⟩
              rw [decide_eq_false (by omega)]
              exact iteF ⟨s11, h11⟩
          · rintro H10 ⟨s10, h10⟩
            refine ⟨sz0, fun em hem => ?_⟩
            have s11 := s10.trans (same_upd hem (o := .lst []))
            refine ⟨N, em, [], [], 0, rfl, rfl, SqL.of (same_upd hem _ _ h10), .nil, by simp, by decide, SqL.of upd_same, _, rfl, ?_⟩
            exact iteF ⟨_, _, _, _, rfl, ((s7.trans s8).trans s9).trans s11⟩
        · rintro σ H7 ⟨a4, a5, a6, a7, rfl, s7⟩
          refine hD H7 kd o xs a4 a5 a6 a7 (fun b z e => ?_) (d6.same s7) (v6.same s7)
          exact s7 _ _ (k6 b z (ne_of_none e hkd) (s01 _ _ e))
end
end BgT
set_option Elab.async false
set_option linter.all false
set_option maxRecDepth 100000
set_option maxHeartbeats 4000000
namespace BgQ
open PySem PySem.Spec PyProof.Rows L2 GenW BgT
section
variable {M : Model} {A : Around} {E : Value → Shared → Prop} {s : Shared} {env : Env}
theorem wq_execs_app {pre post : List Stmt} {Q : Flow → Shared → Prop} (h : wq M A (execs pre env) (fun f s' => match f with | .next => wq M A (execs post env) Q E s' | f => Q f s') E s) : wq M A (execs (pre ++ post) env) Q E s := by
  have e := execs_app_wrap (env := env) (K := fun f => .pure f) (J := .raise) (gd := id) (lv := id) pre post
  rw [wrap_self] at e
  rw [e]
  refine wq_wrap (wq_mono h (fun f s' q => ?_) fun e s' q => wq_raise q)
  cases f with
  | next =>
    show wq M A ((execs post env).wrap _ _ _ _) Q E s'
    rw [wrap_self]
    exact q
  | brk => exact wq_pure q
  | cont => exact wq_pure q
  | ret v => exact wq_pure q
theorem wq_operate {vs : List Value} {m : Sem Value} {Q : Value → Shared → Prop} (h : wq M A m Q E s) : wq M A (operate vs m) Q E s := by
  unfold operate
  exact wq_bind (wq_mono (wq_holding h) (fun r s' q => wq_bind (wq_of_wpAny (wpAny_release (wq_pure q)))) fun _ _ x => x)
theorem wq_ret_cmp {l r : Expr} {op : CmpOp} {pos pos' : Pos} {Q : Flow → Shared → Prop} (hm : behindInMarks op r = false) (h : wq M A (eval l env) (fun a s1 => wq M A (eval r env) (fun b s2 => wq M A (compareOp op a b) (fun v s3 => Q (.ret v) s3) E s2) E s1) E s) :
    wq M A (execs [.Return (some (.Compare l [op] [r] pos)) pos'] env) Q E s := by
  rw [execs_cons]
  refine wq_bind ?_
  rw [exec_Return_some]
  refine wq_bind (wq_of_wpAny (wpAny_standAt ?_))
  refine wq_bind ?_
  rw [eval_Compare1, markedBehindIn_of_false hm]
  refine wq_bind (wq_mono h (fun a s1 h1 => ?_) fun _ _ x => x)
  refine wq_bind (wq_holding (wq_mono h1 (fun b s2 h2 => ?_) fun _ _ x => x))
  refine wq_bind (wq_of_wpAny (wpAny_standAt ?_))
  exact wq_operate (wq_mono h2 (fun v s3 q => wq_pure (wq_pure q)) fun _ _ x => x)
end
/-! ### _law_small_right -/
theorem dp_tups {K : PySem.W.Frag} {H : Hp} : ∀ {ts : List Addr} {ls : List (List Nat)}, Paired (fun t l => H t = some (.tup l)) ts (ls.map (·.map vn)) → DpAll K H (ts.map V.ref) (ls.map fun l => .tuple (l.map pdC))
  | [], [], _ => .nil
  | t :: ts, l :: ls, .cons h r => .cons (.tup (SqT.of h) (dpAll_cells l)) (dp_tups r)
  | [], _ :: _, h => by cases h
  | _ :: _, [], h => by cases h
theorem pair_of {H : Hp} {L : List (Addr × List Int)} : ∀ {ls : List (List Nat)}, (∀ q ∈ L, H q.1 = some (.tup (q.2.map V.int))) → L.map (·.2) = ls.map nis → Paired (fun t l => H t = some (.tup l)) (L.map (·.1)) (ls.map (·.map vn)) := by
  induction L with
  | nil => intro ls _ e; cases ls with
    | nil => exact .nil
    | cons _ _ => simp at e
  | cons q L ih =>
    intro ls h e
    cases ls with
    | nil => simp at e
    | cons l ls =>
      simp only [List.map_cons, List.cons.injEq] at e
      refine .cons ?_ (ih (fun q hq => h q (by simp [hq])) e.2)
      have := h q (by simp)
      rw [e.1, List.map_map] at this
      exact this
section
variable {P : Program} {w : World} {K : PySem.W.Frag} {mg : Str → Option Value} {base : Heap}
abbrev smX (P : Program) (w : World) (K : PySem.W.Frag) (mg : Str → Option Value) (base : Heap) (cdv : Value) (A : Around) (outer : List Env) (s : Shared) (H : Hp) (E : XK) : Cx :=
  (cxOf CX0 P w K mg base ["_law_rows_here", "_law_lots", "_law_web_here", "_law_known", "_law_quests", "_law_played_here", "_law_chosen", "_law_told", "_law_one", "_law_least"] "_law_small_right" (defScope s_law_small_right) (He.ga K "_law_small_right") cdv A outer s H E).nox
def sp_law_small_right (K : PySem.W.Frag) : Sp := fun vs H Q _ => ∃ (ra la x : Addr) (us rs : List V) (rows : List BgT.Row), vs = [.ref ra, .ref la, .ref x] ∧ H ra = some (.lst rs) ∧ rs.length = rows.length ∧ 0 < rows.length ∧ rows.length ≤ 5 ∧ SysAt K H x rows ∧ RowsOk rows ∧ H la = some (.lst us) ∧ CsAt H us (Bg.comps (sysOf rows)) ∧ ∀ H', Same H H' → Q (.bl true) H'
theorem fq_law_small_right (T : Tx K mg) : FnQ P w K mg base 81 (He.ga K "_law_small_right") (fdOf K (He.ga K "_law_small_right")) ["_law_rows_here", "_law_lots", "_law_web_here"] (sp_law_small_right K) := by
  refine fnq_of T.F_law_small_right sc_law_small_right (fun vs H Q E h => ?_) (fun cdv A outer s H vs Q E hr h s1 I hz => ?_)
  · obtain ⟨ra, la, x, us, rs, rows, rfl, _⟩ := h; rfl
  · obtain ⟨ra, la, x, us, rs, rows, rfl, hra, hrl, h0, h5, hs, hok, hla, hcs, q⟩ := h
    obtain ⟨t, ht, hq⟩ := small_pre (P := P) (w := w) (base := base) T cdv A outer s H E hr hra hrl h0 h5 hs hok hla hcs
    have I1 := ht.run [] s1 _ H { nx := fun σ' H' => ∃ (kd : Addr) (o : Obj) (xs : List KEnt) (a4 a5 a6 a7 : Option V), σ' = [some (.ref ra), some (.ref la), some (.ref x), some (.ref kd), a4, a5, a6, a7, none, none] ∧ Same H H' ∧ KdAt P w H' kd o xs ∧ KInv rows H' (ords rows.length rows.length) xs, rt := fun _ _ => False, bk := fun _ _ => False, ct := fun _ _ => False } I
      (hq _ fun H' kd o xs a4 a5 a6 a7 b1 b2 b3 => ⟨kd, o, xs, a4, a5, a6, a7, rfl, b1, b2, b3⟩)
    rw [← List.take_append_drop 4 (defBody s_law_small_right)]
    refine wq_execs_app (wq_thn hz (lift (fun _ _ x => x) I1) fun f s2 h2 hz2 => ?_)
    cases f with
    | brk => obtain ⟨_, _, _, z⟩ := h2; exact z.elim
    | cont => obtain ⟨_, _, _, z⟩ := h2; exact z.elim
    | ret v => obtain ⟨_, _, _, _, _, z⟩ := h2; exact z.elim
    | next =>
      obtain ⟨σ2, H2, I2, kd, o, xs, a4, a5, a6, a7, rfl, s2', d2, v2⟩ := h2
      show wq _ _ (execs (List.drop 4 (defBody s_law_small_right)) _) _ _ s2
      have par := Bg.comps_parts hok.sys
      refine wq_ret_cmp (by rfl) (wq_thn hz2 (lift (fun _ _ x => x) (PE.run (pe_callB (cr_sortedLK (K := K)) (by rfl) T.b_sorted (by decide +kernel) (pa_cons (pe_lc (own := [("_law_one", 8)]) (g := gName 8) rfl sc_law_small_right.nd (pi_kd (P := P) (w := w) (pv 3)) (blkOk_by (own := [("_law_one", 8)]) (N := ["_law_rows_here", "_law_lots", "_law_web_here", "_law_known", "_law_quests", "_law_played_here", "_law_chosen", "_law_told", "_law_one", "_law_least"]) (sc := defScope s_law_small_right) (by decide +kernel)) (fun _ _ _ _ _ => (pg_name (i := 8) sc_law_small_right.nd rfl (by first | exact Or.inl rfl | exact Or.inr rfl))) (fun _ _ _ _ _ => pts_one (pt_cmpR (op_notIn_seqK (K := K)) pe_non (pv 8) (by rfl))) (fun _ _ _ _ _ => (pv 8))) pa_nil)) [] s2 _ H2 (fun v H3 => ∃ (p : Addr) (L' : List (Addr × List Int)), v = .ref p ∧ Same H2 H3 ∧ H3 p = some (.lst (L'.map fun q => V.ref q.1)) ∧ (∀ q ∈ L', H3 q.1 = some (.tup (q.2.map V.int))) ∧ L'.map (·.2) = (chN (Bg.comps (sysOf rows))).map nis) I2 ?_)) fun a s3 h3 hz3 => ?_)
      · refine ⟨_, rfl, kd, o, xs, rfl, d2, fun N hN => ?_⟩
        refine walk_any (walk_kd (d := kd) (o := o) (es := xs)) (fun i H' => Same H2 H' ∧ H' N = some (.lst (((xs.take i).filter fun e => full e.1).map fun e => V.ref e.2.1))) ⟨same_upd hN, upd_same⟩ (fun i H' _ h => h.1 _ _ d2.st) ?_ ?_
        · rintro i y H4 H4' hi ⟨s4, h4⟩ ⟨rfl, e, he, rfl⟩
          have hem := List.mem_of_getElem? he
          have hflt := List.length_filter_le (fun e : KEnt => full e.1) (xs.take i)
          have hxl : xs.length ≤ 16000 := Nat.le_trans v2.few (ords_few h5 h5)
          rw [List.length_take] at hflt
          have etk : xs.take (i + 1) = xs.take i ++ [e] := take_snoc he
          refine ⟨rfl, _, rfl, _, _, rfl, .inr (SqT.of (s4 _ _ (d2.key e hem))), rfl, flat_opts _, _, rfl, ?_⟩
          rw [show (if true = true then !inV V.non (e.1.map optN) else inV V.non (e.1.map optN)) = full e.1 from inV_none e.1, etk, List.filter_append, List.map_append]
          cases hf : full e.1 with
          | true =>
            refine iteT ⟨_, rfl, _, h4, small20k (by rw [List.length_map]; omega), sameN s4 hN, ?_⟩
            rw [upd_same, List.filter_cons, hf]
            rfl
          | false =>
            refine iteF ⟨s4, ?_⟩
            rw [h4, List.filter_cons, hf]
            simp
        · rintro H4 ⟨s4, h4⟩
          rw [List.take_length] at h4
          unfold tNil
          refine sort_ask (K := K) hok h0 h5 d2 v2 s4 h4 fun L' p hL' hLe hp => ⟨p, L', rfl, s4.trans (same_upd hp), upd_same, fun q hq => ?_, hLe⟩
          obtain ⟨e, he, rfl, hf⟩ := hL' q hq
          have := s4 _ _ (d2.key e he)
          rw [nums_V hf] at this
          exact same_upd hp _ _ this
      · obtain ⟨v, H3, I3, rv, p, L', rfl, s3', hp, hL, hLe⟩ := h3
        cases rv
        have hs3 : SysAt K H3 x rows := (hs.same s2').same s3'
        have hpw : prW (Bg.comps (sysOf rows)) ≤ 1000 := by rw [← chN_prW]; exact Nat.le_trans (ch_few par h5) (by decide)
        refine wq_thn hz3 (wq_listAll (X := smX P w K mg base cdv A outer s H E) T (cm_var 2) (by rfl) (by rfl) T.b_list (by rfl) hr (by rfl) I3 (by rfl) hz3 (by rfl) hs3 hok hpw) fun b s4 h4 hz4 => ?_
        obtain ⟨D, ts, H4, rfl, I4, s34, hD, pD⟩ := h4
        have d1 : Dp K H4 (.ref p) (.list ((chN (Bg.comps (sysOf rows))).map fun l => .tuple (l.map pdC))) := by
          refine .lst (xs := (L'.map (·.1)).map V.ref) (SqL.of (by rw [List.map_map]; exact s34 _ _ hp)) (dp_tups (pair_of (fun q hq => s34 _ _ (hL q hq)) hLe))
        have d2' : Dp K H4 (.ref D) (.list ((chN (Bg.comps (sysOf rows))).map fun l => .tuple (l.map pdC))) := .lst (SqL.of hD) (dp_tups pD)
        have hsh : ∀ d ∈ (chN (Bg.comps (sysOf rows))).map (fun l => PyData.tuple (l.map pdC)), Shal 1 d := fun d hd => by
          obtain ⟨l, _, rfl⟩ := List.mem_map.mp hd
          exact Shal.tup (shal_cells l)
        have hb := Shal.lst hsh
        refine wq_mono (wq_of_wpAny ((op_eqDK (X := smX P w K mg base cdv A outer s H E) (K := K) hr.units rfl) [] s4 _ H4 (.ref p) (.ref D) _ _ (fun v H' => v = .bl true ∧ H' = H4) I4 rfl rfl ⟨_, _, d1, d2', hb.ok (by decide), hb.ok (by decide), by rw [SeqAt.eqv_refl _ hb.1], rfl⟩)) (fun r s5 h5' => ?_) fun _ _ x => x
        obtain ⟨_, H5, I5, rr, rfl, rfl⟩ := h5'
        exact ⟨.bl true, _, H5, I5, rr, q _ ((s2'.trans s3').trans s34)⟩
end
end BgQ
set_option Elab.async false
set_option linter.all false
set_option maxRecDepth 100000
set_option maxHeartbeats 4000000
namespace BgQ
open PySem PySem.Spec PyProof.Rows L2 GenW BgT
section
variable {M : Model} {A : Around} {E : Value → Shared → Prop} {s : Shared}
theorem wq_keep {α : Type} {vs : List Value} {m : Sem α} {Q : α → Shared → Prop} (h : wq M A m Q E s) : wq M A (m.keep vs) Q E s := by
  rw [Sem.keep_eq_wrap]
  exact wq_wrap (wq_mono h (fun _ _ x => wq_pure x) fun _ _ x => wq_raise x)
theorem wq_callWithK {K : PySem.W.Frag} {pos : Pos} {f : Value} {args : List (Bool × Sem Value)} {Q : Value → Shared → Prop} (hplain : args.any (·.1) = false) (hk : PySem.W.keepIn K f = true)
    (h : wq M A (evalArgs f true args []) (fun a s₁ => K.In s₁.heap ∧ wq M A (call f ([] ++ a.pos) a.kw) Q E s₁) E s) : wq M A (callWith pos f [] args []) Q E s := by
  unfold callWith
  refine wq_bind (wq_holding (wq_mono h (fun a s₁ h₁ => wq_bind (wq_of_wpAny (wpAny_standAt ?_))) fun _ _ x => x))
  obtain ⟨k, hk', L⟩ := PySem.W.keeps_K (M := M) hk _ h₁.1
  simp only [hplain, List.any_nil, Bool.or_false]
  refine wq_bind (wq_of_wpAny (L.here ?_))
  have tail : ∀ {t : Sem Value}, wq M A t Q E s₁ → wq M A (t >>= fun r => holding [r] point >>= fun _ => pure r) Q E s₁ :=
    fun ht => wq_bind (wq_mono ht (fun r s₂ hr => wq_bind (wq_holding (wq_of_wpAny (wpAny_point (wq_pure hr))))) fun _ _ x => x)
  have marked (mk : Value) : wq M A (callMarked mk f ([] ++ a.pos) a.kw) Q E s₁ := by unfold callMarked; exact wq_keep h₁.2
  rcases hk' with rfl | rfl | rfl <;> dsimp only <;> first | exact tail h₁.2 | (split <;> first | exact tail h₁.2 | exact tail (marked _))
end
section
variable {X : Cx} {k : Nat} {f : Addr} {fd : FuncData} {ps : List Str} {sp : Sp} {x : Str} {e : Expr} {es : List Expr} {t : TA} {p pos : Pos}
/-- f(e, ..) -/
theorem eq_call (hxe : ∀ e s, X.xe e s → False) (F : FnQ X.prog X.w X.K X.mg X.base k f fd ps sp) (hr : Room k X.A) (hg : Gl X x) (hm : X.mg x = some (.ref f)) (hk : PySem.W.keepIn X.K (.ref f) = true) (hb : Binds X.K fd ps []) (ha : PA X (e :: es) t)
    (hdb : (x == ("__debug__" : Str)) = false := by decide) (he : starEach (e :: es) X.env = (false, eval e X.env) :: starEach es X.env := by rfl) (hpl : (backTo pos (starEach (e :: es) X.env)).any (·.1) = false := by rfl) :
    EQ X (.Call (.Name x p) (e :: es) [] pos) (tCall sp [] E0 t) := by
  refine ⟨fun pins s σ H Q I hz h => ?_⟩
  rw [arm_eval_Call_Name']
  refine wq_bind (wq_of_wpAny (ld_glob I hg hm ?_ hdb))
  show wq _ _ (callWith pos (.ref f) [] (backTo pos (starEach (e :: es) X.env)) []) _ _ s
  have ar := ha.run pos pins s σ H _ I h
  refine wq_callWithK (K := X.K) hpl hk ?_
  rw [he] at ar ⊢
  refine wq_thn hz (lift hxe (Calls.evalArgs_plain (f := .ref f) (Q := fun a s1 => ∃ us, a = ⟨us, []⟩ ∧ AP X pins σ (fun vs H1 => sp (vs ++ []) H1 Q E0) us s1) (wpAny_mono ar (fun us s1 q => ⟨us, rfl, q⟩) fun _ _ x => x))) fun a s1 h1 hz1 => ?_
  obtain ⟨us, rfl, vs, H1, I1, r, q⟩ := h1
  rw [List.append_nil] at q
  refine ⟨I1.kIn, ?_⟩
  have hl : us.length = ps.length := by rw [← r.length]; exact F.len _ _ _ _ q
  have hb1 : BindsTo s1 fd ⟨us, []⟩ (ps.zip us) := by
    have := hb s1 us I1.kIn (by rw [List.append_nil]; exact hl)
    rwa [List.append_nil] at this
  refine wq_call (cq_mono (F.run X.A X.stack s1 H1 ⟨us, []⟩ us vs Q E0 hr I1.env0 hb1 r q hz1) fun r s' hq => ?_)
  cases r with
  | error e => exact False.elim hq
  | ok fl =>
    cases fl with
    | ret u => exact I1.after hq
    | next => exact False.elim hq
    | brk => exact False.elim hq
    | cont => exact False.elim hq
end
end BgQ
set_option Elab.async false
set_option linter.all false
set_option maxRecDepth 100000
set_option maxHeartbeats 4000000
namespace BgQ
open PySem PySem.Spec PyProof.Rows L2 GenW BgT
theorem sqs_nil {X : Cx} : SQs X [] tNext := ⟨fun pins s σ H D I _ h => wq_of_wpAny (wpAny_execs_nil ⟨σ, H, I, h⟩)⟩
theorem lots_ne {H : Hp} {l p q : Addr} {us : List V} {W : List (List Nat)} {ns : List Int} {t : Nat} (hl : H l = some (.lst us)) (hc : CsAt H us W) (hP : Pen H p q ns t) : l ≠ p := by
  rintro rfl
  obtain ⟨g, _, h1, _⟩ := hP
  rw [hl] at h1
  have e : us = [.ref q, .int (t : Nat), .int g] := by injection h1 with h1; injection h1
  subst e
  obtain ⟨a, D, h2, _⟩ := hc.get (i := 1) (v := .int (t : Nat)) rfl
  cases h2
section
variable {P : Program} {w : World} {K : PySem.W.Frag} {mg : Str → Option Value} {base : Heap}
theorem sc_law : FnScope ["_law_script", "_law_pen_here", "_law_turn", "_law_rows_here", "_law_web_here", "_law_lots"] ["_law_script"] (defScope s_law) := ⟨rfl, rfl, rfl, by decide +kernel, rfl, by decide +kernel, by decide +kernel⟩
theorem bd_law {K : PySem.W.Frag} {mg : Str → Option Value} (T : Tx K mg) : Binds K (fdOf K (He.ga K "law")) ["_law_script"] [] := T.F_law.bindsN (fun _ _ _ _ _ _ us hl => match us, hl with | [_], _ => rfl)
def sp_law (K : PySem.W.Frag) : Sp := fun vs H Q _ => ∃ (a : Addr) (ns : List Int), vs = [.ref a] ∧ SqL K H a (ns.map V.int) ∧ ns.length ≤ 63 ∧ ∀ H', Q (.bl true) H'
theorem fq_law (T : Tx K mg) : FnQ P w K mg base 82 (He.ga K "law") (fdOf K (He.ga K "law")) ["_law_script"] (sp_law K) := by
  refine fnq_of T.F_law sc_law (fun vs H Q E h => ?_) (fun cdv A outer s H vs Q E hr h s1 I hz => ?_)
  · obtain ⟨a, ns, rfl, _⟩ := h; rfl
  · obtain ⟨a, ns, rfl, ha, hn, q⟩ := h
    have hx : ∀ (e : Value) (s' : Shared), (cxOf CX0 P w K mg base ["_law_script", "_law_pen_here", "_law_turn", "_law_rows_here", "_law_web_here", "_law_lots"] "law" (defScope s_law) (He.ga K "law") cdv A outer s H E).nox.xe e s' → False := fun _ _ h => h
    suffices h : ∃ t, SQs (cxOf CX0 P w K mg base ["_law_script", "_law_pen_here", "_law_turn", "_law_rows_here", "_law_web_here", "_law_lots"] "law" (defScope s_law) (He.ga K "law") cdv A outer s H E).nox (defBody s_law) t ∧ t { nx := fun _ H' => Q .non H', rt := Q } (L2.start ["_law_script", "_law_pen_here", "_law_turn", "_law_rows_here", "_law_web_here", "_law_lots"] [.ref a]) H from let ⟨t, h1, h2⟩ := h; h1.run [] s1 _ H _ I hz h2
    refine ⟨_, sqs_cons (sq_ps hx (ps_set (i := 1) sc_law.nd rfl (Or.inl rfl) (pe_call (ok_law_pen T) (hr.mono (by decide)) rfl T.g_law_pen T.F_law_pen.kp (bd_law_pen T) .nil pass0 (pa_cons (pv 0) pa_nil))))
      (sqs_cons (sq_for hx rfl (pi_range1 rfl T.b_range (pa_cons pe_int pa_nil)) (pg_name (i := 2) sc_law.nd rfl (Or.inl rfl))
        (sqs_cons (sq_ps hx (ps_set (i := 3) sc_law.nd rfl (Or.inl rfl) (pe_call (ok_law_rows T) (hr.mono (by decide)) rfl T.g_law_rows T.F_law_rows.kp (bd_law_rows T) .nil pass0 (pa_cons (pv 1) (pa_cons (pe_ix ix_list (pe_lst (pa_cons pe_int (pa_cons pe_int (pa_cons pe_int (pa_cons pe_int (pa_cons pe_int pa_nil)))))) (pv 2) (fun _ _ => rfl)) (pa_cons (pe_ix ix_list (pe_lst (pa_cons pe_int (pa_cons pe_int (pa_cons pe_int (pa_cons pe_int (pa_cons pe_int pa_nil)))))) (pv 2) (fun _ _ => rfl)) pa_nil))))))
        (sqs_cons (sq_ps hx (ps_set (i := 4) sc_law.nd rfl (Or.inl rfl) (pe_call (ok_law_web T) (hr.mono (by decide)) rfl T.g_law_web T.F_law_web.kp (bd_law_web T) .nil pass0 (pa_cons (pv 3) pa_nil))))
        (sqs_cons (sq_ps hx (ps_set (i := 5) sc_law.nd rfl (Or.inl rfl) (pe_call (ok_law_parts T) (hr.mono (by decide)) rfl T.g_law_parts T.F_law_parts.kp (bd_law_parts T) .nil pass0 (pa_cons (pv 3) (pa_cons (pe_listRg rfl (by rfl) T.b_list (prg_1 (by rfl) T.b_range (pe_callB call_len_seq (by rfl) T.b_len (by decide +kernel) (pa_cons (pv 3) pa_nil)))) pa_nil)))))
        (sqs_cons (sq_if (tq_and (tq_pt hx (pt_cmpR op_lt (pe_callB call_len_seq (by rfl) T.b_len (by decide +kernel) (pa_cons (pv 3) pa_nil)) pe_int (nomark _))) (tq_not (tq_val (eq_call hx (fq_law_small_right T) (hr.mono (by decide)) rfl T.g_law_small_right T.F_law_small_right.kp (bd_law_small_right T) (pa_cons (pv 3) (pa_cons (pv 5) (pa_cons (pv 4) pa_nil))))))) (sqs_one (sq_ps hx (ps_ret pe_bl))) sqs_nil)
        (sqs_one (sq_if (tq_pt hx (pt_not (pt_val (pe_call (ok_law_large_right T) (hr.mono (by decide)) rfl T.g_law_large_right T.F_law_large_right.kp (bd_law_large_right T) .nil pass0 (pa_cons (pv 1) (pa_cons (pv 3) (pa_cons (pv 5) (pa_cons (pv 4) pa_nil)))))))) (sqs_one (sq_ps hx (ps_ret pe_bl))) sqs_nil)))))))
      (sqs_one (sq_ps hx (ps_ret pe_bl)))), ?_⟩
    refine ⟨_, rfl, a, ns, rfl, ha, hn, fun H1 p pq s01 hp P1 => ?_⟩
    refine ⟨_, rfl, by omega, by omega, ?_⟩
    refine for_it (walk_range (lo := 0) (n := 5)) (fun i σ H' => ∃ (t : Nat) (b2 b3 b4 b5 : Option V), σ = [some (.ref a), some (.ref p), b2, b3, b4, b5] ∧ Pen H' p pq ns t ∧ t ≤ 4000 * i)
      ⟨0, _, _, _, _, rfl, P1, by omega⟩ (fun _ _ _ _ _ => trivial) ?_ ?_
    · rintro i y σ H2 H2' hi ⟨t, b2, b3, b4, b5, rfl, P2, ht⟩ ⟨rfl, hy⟩
      obtain rfl : y = V.int (i : Nat) := by
        rw [hy]
        show V.int (0 + (i : Int)) = V.int (i : Int)
        rw [Int.zero_add]
      obtain ⟨m1, g1, l1, u1⟩ : ∃ m : Nat, ([.int 4, .int 5, .int 4, .int 24, .int 24] : List V)[i]? = some (vn m) ∧ 1 ≤ m ∧ m ≤ 24 := by
        match i, hi with
        | 0, _ => exact ⟨4, rfl, by decide, by decide⟩
        | 1, _ => exact ⟨5, rfl, by decide, by decide⟩
        | 2, _ => exact ⟨4, rfl, by decide, by decide⟩
        | 3, _ => exact ⟨24, rfl, by decide, by decide⟩
        | 4, _ => exact ⟨24, rfl, by decide, by decide⟩
      obtain ⟨m2, g2, l2, u2⟩ : ∃ m : Nat, ([.int 6, .int 6, .int 6, .int 6, .int 24] : List V)[i]? = some (vn m) ∧ 1 ≤ m ∧ m ≤ 24 := by
        match i, hi with
        | 0, _ => exact ⟨6, rfl, by decide, by decide⟩
        | 1, _ => exact ⟨6, rfl, by decide, by decide⟩
        | 2, _ => exact ⟨6, rfl, by decide, by decide⟩
        | 3, _ => exact ⟨6, rfl, by decide, by decide⟩
        | 4, _ => exact ⟨24, rfl, by decide, by decide⟩
      refine ⟨_, rfl, sz5, fun L1 hL1 => ⟨_, rfl, L1, _, _, _, rfl, rfl, SqL.of upd_same, atI_nat g1, sz5, fun L2 hL2 => ⟨_, rfl, L2, _, _, _, rfl, rfl, SqL.of upd_same, atI_nat g2, ?_⟩⟩⟩
      refine ⟨p, pq, ns, t, m1, m2, rfl, (P2.new hL1).new hL2, l1, u1, l2, u2, by omega, fun H3 l ws rows t3 k3 nlp P3 ht3 hl htr hok => ?_⟩
      have hwl := htr.1
      have hle := hok.le
      have hps := hok.pos
      refine ⟨_, rfl, l, ws, rows, rfl, .inl (SqL.of hl), htr, hok, fun H4 x s4 hs4 => ?_⟩
      have hl4 := s4 _ _ hl
      refine ⟨_, rfl, _, rfl, l, _, rfl, .inl (SqL.of hl4), _, rfl, ⟨by omega, by omega, by omega, by omega, by omega⟩, fun oa hoa => ?_⟩
      rw [hwl, rgV_cells]
      have s5 : Same H4 (upd H4 oa (.lst (cellsV rows.length))) := same_upd hoa
      refine ⟨l, oa, ws, rows, rfl, s5 _ _ hl4, (htr.same s4).same s5, hok, upd_same, fun H6 la us s6 hla hcs => ?_⟩
      have s46 := s5.trans s6
      have s36 := s4.trans s46
      have hl6 := s36 _ _ hl
      have hs6 := hs4.same s46
      have P6 := P3.same s36
      refine ⟨_, rfl, l, _, rfl, .inl (SqL.of hl6), _, _, rfl, rfl, _, rfl, ?_⟩
      by_cases h6 : ws.length < 6
      · rw [decide_eq_true (by omega)]
        refine iteT ⟨_, rfl, _, rfl, _, rfl, l, la, x, us, ws, rows, rfl, hl6, hwl, by omega, by omega, hs6, hok, hla, hcs, fun H7 s7 => ⟨_, rfl, iteF ⟨_, rfl, _, rfl, _, rfl, _, rfl, p, pq, la, x, V.ref l, us, ws, l, ns, t3, rows, rfl, P6.same (s7), lots_ne hla hcs P6, nlp, (s7) _ _ hl6, hwl, by omega, hs6.same (s7), hok, (s7) _ _ hla, hcs.same (s7), by omega, fun H8 t8 k8 P8 ht8 => ⟨_, rfl, iteF ⟨t8, _, _, _, _, rfl, P8, by omega⟩⟩⟩⟩⟩
      · rw [decide_eq_false (by omega)]
        refine iteF (iteF ⟨_, rfl, _, rfl, _, rfl, _, rfl, p, pq, la, x, V.ref l, us, ws, l, ns, t3, rows, rfl, P6.same (Same.refl H6), lots_ne hla hcs P6, nlp, (Same.refl H6) _ _ hl6, hwl, by omega, hs6.same (Same.refl H6), hok, (Same.refl H6) _ _ hla, hcs.same (Same.refl H6), by omega, fun H8 t8 k8 P8 ht8 => ⟨_, rfl, iteF ⟨t8, _, _, _, _, rfl, P8, by omega⟩⟩⟩)
    · rintro σ H2 ⟨t, b2, b3, b4, b5, rfl, P2, ht⟩
      exact q _
end
end BgQ
set_option Elab.async false
set_option linter.all false
set_option maxRecDepth 100000
set_option maxHeartbeats 4000000
noncomputable section
namespace BgQ
open PySem PySem.W PySem.Calls PyProof.Rows
/-! ### the end of a thread at this machine -/
theorem stepH_halt {M : Model} {s s1 : Shared} {t : Thread} {o : Outcome} (h : M.step s t = .halt o s1) (ho : o.ends = true) : stepH M.den M.prog M.w s t = .halt o s1 := by
  cases hl : t.loud with
  | true => rw [M.step_loud hl] at h; injection h with h1 _; subst h1; simp [Outcome.ends] at ho
  | false =>
    rw [M.step_quiet hl] at h
    have hc : t.calm = true := by
      rw [Thread.calm_eq, hl]
      cases hr : t.refused with
      | false => rfl
      | true =>
        obtain ⟨what, e⟩ := stepK_refused M.den M.prog M.w (s := s) hr
        rw [e] at h; injection h with h1 _; subst h1; simp [Outcome.ends] at ho
    rw [stepH_ok _ _ _ (by unfold okH; rw [hc]; rfl)]
    exact h
theorem thread_q {prog : Program} {w : World} {t : Sem PySem.Fin} {s : Shared} {R : Result → Shared → Prop} (hz : s.asleep)
    (h : wq (model prog w) callerA t (fun fin s' => ∃ f, fin = .done f ∧ (R (.ok f) s' ∧ leftWithCleanup s'.gens = false)) (fun _ _ => False) s) :
    ∃ n r s' s'', runN (denote table) prog w n s ⟨t, .builtin "claim.caller" {}, default, []⟩ = .halted (outcomeOf r) s' ∧
      schedN (denote table) prog w n (.single s ⟨t, .builtin "claim.caller" {}, default, []⟩) = .halted (outcomeOf r) s' ∧ s'.forget = s''.forget ∧ R r s'' := by
  obtain ⟨p1, s1, h1⟩ := h (.builtin "claim.caller" {}) [] default (fun f => .pure f) .raise id id caller_in
  rw [wrap_self] at h1
  rcases h1 with ⟨fin, ⟨f, rfl, hR, hg⟩, n, hn⟩ | ⟨_, z, _⟩
  · have hs : (model prog w).step s1 ⟨leafOf (.ok f), .builtin "claim.caller" {}, p1, []⟩ = .halt (outcomeOf (.ok f)) s1 := by
      rw [step_leaf_nil]
      simp only [finish, hg, Bool.false_eq_true, if_false]
    have h2 := stepH_halt hs (outcomeOf_ends _)
    have h3 : runH (model prog w).den (model prog w).prog (model prog w).w (n + 1) s ⟨t, .builtin "claim.caller" {}, default, []⟩ = .halted (outcomeOf (.ok f)) s1 := by
      rw [runH_add hn]
      show runH _ _ _ 1 s1 ⟨leafOf (.ok f), .builtin "claim.caller" {}, p1, []⟩ = _
      simp only [runH, h2]
    obtain ⟨s2, a, b, c⟩ := runH_full (model prog w).den (model prog w).prog (model prog w).w h3 (outcomeOf_ends _) hz
    exact ⟨n + 1, .ok f, s2, s1, b, a, c, hR⟩
  · exact z.elim
/-- what the walk of a law has to show -/
abbrev WalkQ (q : Program) (loose : List Str) (XP : (Str → Option Value) → Heap → Prop) (YP : World → Heap → Prop) (r : RowW) (d : DefRec) (kwd : List (Str × Expr)) : Prop :=
  ∀ (w : World) (s₀ s₁ : Shared) (mg mb : Str → Option Value), Ground q loose r.records XP w s₀ mg mb s₁.heap → YP w s₁.heap → s₁.asleep → ∀ (a : Addr) (o : Obj) (pm cd doc dV kV : Value), s₁.heap.get? a = some o →
    o.data = .func { docDef d.name d.params d.body d.scope pm cd doc with defaults := dV, kwdefaults := kV } → s₁.heap.CodeRec cd d.name → Dflts mg s₁.heap d.params kwd dV kV → mg d.name = some (.ref a) → s₁.gens = #[] →
    ∀ (args : List WData) (vals : List Value) (as : List Addr), r.claim.pre args = true → WData.layableAll args = true → ReadsAllW r.records (classAt s₀.heap) s₁.heap vals args as → WellAll w.params s₁.heap vals args →
      cq (model r.prog w) callerA (.call (.ref a) ⟨vals, []⟩) (fun res s' => ∃ v, res = .ok (.ret v) ∧ GoodWG r.claim (classAt s₀.heap) (ExcName.means s₀.heap) args s₁ (.ok (.ret v)) s') s₁
theorem callFrom_q {c : ClaimW} {tree : List Value → Sem PySem.Fin} {w : World} {s : Shared} {free : Addr → Prop} {gens : Prop} {kept : Heap → Prop} (hz : s.asleep) (hgens : s.gens = #[])
    (spec : ∀ args, c.pre args = true → WData.layableAll args = true → ∀ ord : List DictEntry → List DictEntry, (∀ l, (ord l).Perm l) →
      ∃ vs s₁, layAllW c.records (classAt s.heap) w.params ord args s = some (vs, s₁) ∧
        wq (model c.prog w) callerA (tree vs) (fun fin s' => ∃ f, fin = .done f ∧ (c.Ends s args vs s₁ (.ok f) s' ∧ s'.os = s.os ∧ AllBare s'.gens ∧ kept s'.heap)) (fun _ _ => False) s₁) :
    c.CallFrom (fun vs => ⟨tree vs, .builtin "claim.caller" {}, default, []⟩) w free gens kept s := by
  intro args hpre hlay ord hord
  obtain ⟨vs, s₁, hl, hq⟩ := spec args hpre hlay ord hord
  have rest := layAllW_rest _ _ _ hl
  obtain ⟨k, r, s', s2, hrun, hsch, hfo, hE, hos, hkp⟩ := thread_q (prog := c.prog) (w := w) (t := tree vs) (s := s₁) (R := fun r s' => c.Ends s args vs s₁ r s' ∧ s'.os = s.os ∧ kept s'.heap) (Shared.asleep_of_life rest.2.2.2 hz)
    (wq_mono hq (fun fin s' ⟨f, e, h1, h2, h3, h4⟩ => ⟨f, e, ⟨h1, h2, h4⟩, leftWithCleanup_false_of_bare h3⟩) fun _ _ x => x)
  obtain ⟨eh, _, _, eo, _⟩ := Shared.forget_eq hfo
  rw [← eh] at hkp
  rw [← eo] at hos
  have hlife : s'.heap.life = s.heap.life := (runN_life _ _ _ hrun).trans rest.2.2.2
  refine ⟨vs, s₁, hl, k, _, s', hsch, ?_, (fun _ i x hx => by rw [hgens] at hx; simp at hx), hkp, by rw [hlife], Shared.rest_eq hos⟩
  rcases hE.congr eh with ⟨v, rfl, d1, d2, d3, d4, d5⟩ | ⟨e, ob, cls, rfl, d1, d2, d3, d4, d5⟩
  · exact .inl ⟨v, rfl, d1, d2, d3, fun b o y _ => d4 b o y, d5⟩
  · exact .inr ⟨e, ob, cls, rfl, d1, d2, d3, d4, fun b o y _ => d5 b o y⟩
end BgQ
set_option Elab.async false
set_option linter.all false
set_option maxRecDepth 100000
set_option maxHeartbeats 4000000
noncomputable section
namespace BgQ
open PySem PySem.W PySem.Calls PyProof.Rows
/-- a row, from the walk of its law -/
theorem holds_q {r : OpenRow} {q : Program} {loose : List Str} {Xt : Shared → Bool} {XP : (Str → Option Value) → Heap → Prop} {α : Type} {Yf : Shared → α} {Ya : World → α} {YP : World → Heap → Prop} {d : DefRec} {kwd : List (Str × Expr)} {N : Nat}
    (left : LeftO r.prog q loose Xt Yf Ya N) (hY : ∀ w s, Yf s = Ya w → YP w s.heap) (hYk : ∀ w h h', YP w h → (∀ b o, h.get? b = some o → h'.get? b = some o) → YP w h')
    (hX : ∀ s, Xt s = true → XP (s.heap.nsMap mainGlobals) s.heap) (hXk : ∀ mg h h', XP mg h → (∀ b o, h.get? b = some o → h'.get? b = some o) → XP mg h')
    (hdef : defOf q r.name = some (d, kwd)) (hp : r.prog.theDef r.name = some (d.params, d.body, d.scope)) (hk : kwWritten? d.params.kwonlyargs d.params.kw_defaults = some kwd) (hRf : ∀ s, Xt s = true → RecFacts r.records s.heap) (hwr : (!r.writes || r.records.isEmpty) = true)
    (k1 : r.wellSaid = true) (ok : (chainsOk q && opensWell r.prog && (frees r.toRowW && r.within.isEmpty)) = true) (hb : r.prog.bare) (hw : r.toRowW.promised)
    (call : WalkQ q loose XP YP r.toRowW d kwd) : r.Holds := by
  obtain ⟨ok1, ok2⟩ := Bool.and_eq_true_iff.mp ok
  obtain ⟨hch, hop⟩ := Bool.and_eq_true_iff.mp ok1
  obtain ⟨hfr, hwin⟩ := Bool.and_eq_true_iff.mp ok2
  obtain ⟨hsame, hu, ha, hap, hm⟩ := frees_parts hfr
  refine ⟨k1, hw, ⟨hb, hop, by show r.toRowW.makers.map _ = []; rw [hm]; rfl⟩, hw.witness, fun w => ⟨(left.behind hX hch w).1, fun s' hs' => ?_⟩⟩
  obtain ⟨s₀, hf, hg0, s, hT, hz, hgens, hg, G00, y⟩ := (left.behind (XP := fun mg h => XP mg h ∧ RecFacts r.records h) (fun s hs => ⟨hX s hs, hRf s hs⟩) hch w).2 s' hs'
  have G0 : Ground q loose [] XP w s (s.heap.nsMap mainGlobals) (s.heap.nsMap builtinsNs) s.heap := ⟨G00.T, G00.B, G00.D, G00.TE, G00.TD, G00.W, G00.X.1, G00.cls, G00.has, G00.apart, G00.once, G00.K⟩
  have RF := G00.X.2
  refine ⟨s₀, hf, hg0, s, hT, fun n hn => ?_, RF.1, RF.2.1, ?_⟩
  · obtain rfl : n = r.name := by split at hn <;> simp_all
    exact pinned_of_view hg G0 hdef hp hk
  · have hgens : s.gens = #[] := Array.eq_empty_of_size_eq_zero (beq_iff_eq.mp hgens)
    have G : Ground q loose r.records XP w s _ _ s.heap := RF.ground G0
    refine callFrom_q (c := r.toRowW.claim) hz hgens fun args hpre hlay ord hord => ?_
    obtain ⟨⟨vs, s₁⟩, hlaid⟩ := Option.isSome_iff_exists.mp (layAllW_isSome (P := w.params) (ord := ord) G.has args r.toRowW.args s (pre_splitW hpre).1)
    have keeps := layAllW_keeps _ _ _ hlaid
    have rest := layAllW_rest _ _ _ hlaid
    obtain ⟨as, hrd, hin, hold⟩ := reads_layAllW hord _ _ _ hlaid hlay s₁.heap (fun _ _ e => e)
    have L : Laid r.records w s s₁ args vs as := ⟨⟨ord, hord, hlaid⟩, hrd, hin, hold, keeps, rest.1.trans hgens, rest.2.2.1⟩
    have G₁ := G.keeps hXk keeps
    obtain ⟨a, o, pm, cd, doc, dV, kV, h1, h2, h3, h4, h5⟩ := G₁.fn hdef
    have hc := call w s s₁ _ _ G₁ (hYk _ _ _ (hY w s y) keeps) (Shared.asleep_of_life rest.2.2.2 hz) a o pm cd doc dV kV h2 h3 h4 h5 (defOf_name hdef ▸ h1) L.gens args vs as hpre hlay L.reads L.well
    have hi := ident_freeW hu ha hap
    have hwi : r.toRowW.claim.within = [] := List.isEmpty_iff.mp hwin
    refine ⟨vs, s₁, hlaid, ?_⟩
    refine wq_bind (wq_of_wpAny (wpAny_nsGet G₁.T.g ?_))
    rw [h1]
    refine wq_bind (wq_call (cq_mono hc ?_))
    rintro res s2 ⟨v, rfl, g⟩
    have z := g.laid (c := r.toRowW.claim) hsame hwi hi L
    exact wq_pure ⟨_, rfl, z.1, z.2.1, z.2.2, fun qq => ⟨namesKept_of hT hg _ keeps g.2.1.old, noTable hwr qq⟩⟩
end BgQ
set_option Elab.async false
set_option linter.all false
set_option maxRecDepth 100000
set_option maxHeartbeats 4000000
noncomputable section
namespace BgQ
open PySem PySem.Spec PyProof.Rows L2 GenW BgT
/-- the law's def at the heap behind the top -/
theorem law_q {P : Program} {w : World} {K : PySem.W.Frag} {mg mb : Str → Option Value} {k : Nat} {fa a : Addr} {fd : FuncData} {x : Str} {sp : Sp} {t0 : Shared} {ws : List Value} {ms : List Int}
    (inK : K.In t0.heap) (nsG : t0.heap.Ns mainGlobals mg) (nsB : t0.heap.Ns builtinsNs mb) (bB : ∀ z : Str, z ≠ "__name__" → mb z = bootBuiltins z) (noL : t0.heap.NoLimit) (noG : t0.gens = #[]) (sl : t0.asleep)
    (atA : t0.heap.get? a = some { cls := .type "list", data := .seq ws.toArray }) (are : IntsAre ws ms) (few : ms.length ≤ sizeLine) (rm : Room k callerA)
    (F : ∀ base : Heap, K.In base → base.Ns mainGlobals mg → FnQ P w K mg base k fa fd [x] sp) (bd : ∀ (s : Shared) (u : Value), BindsTo s fd ⟨[u], []⟩ [(x, u)])
    (prom : ∀ H : Hp, Only H → SqL K H a (ms.map V.int) → sp [.ref a] H (fun v _ => v = .bl true) E0) :
    cq (model P w) callerA (.call (.ref fa) ⟨[.ref a], []⟩) (fun r s' => r = .ok (.ret (.bool true)) ∧ OldK t0.heap s'.heap ∧ s'.os = t0.os ∧ AllBare s'.gens) t0 := by
  have vi := vals_ints are
  have nl := are.length
  have main : ∀ H : Hp, Only H → SqL K H a (ms.map V.int) → HOk P w H t0.heap → (∀ b, H b ≠ none → b = a) → (H a ≠ none → K.lookup a = none) →
      cq (model P w) callerA (.call (.ref fa) ⟨[.ref a], []⟩) (fun r s' => r = .ok (.ret (.bool true)) ∧ OldK t0.heap s'.heap ∧ s'.os = t0.os ∧ AllBare s'.gens) t0 := by
    intro H only sq okH atH kH
    have dictNo : ∀ {b : Addr} {o : Obj} {es : Array DictEntry} {ep : Nat}, t0.heap.get? b = some o → o.data = .dict es ep → H b = none := fun {b o es ep} e d => Classical.byContradiction fun z => by
      obtain rfl := atH b z
      rw [atA] at e
      cases e
      exact nomatch (show Data.seq ws.toArray _ = Data.dict es ep from d)
    have ns : ∀ {b : Addr} {m : Str → Option Value}, t0.heap.Ns b m → (hidT t0.heap H).Ns b m := fun {b m} ⟨o, es, ep, e, d, r⟩ => ⟨o, es, ep, hidT_get e (dictNo e d), d, r⟩
    have inH : K.In (hidT t0.heap H) := fun b o e => hidT_get (inK b o e) (Classical.byContradiction fun z => by
      obtain rfl := atH b z
      rw [kH z] at e
      cases e)
    have mod : Mod K mg (hidT t0.heap H) := ⟨inH, ns nsG, ⟨mb, ns nsB, bB⟩, let ⟨mc, u, v⟩ := noL; ⟨mc, ns u, v⟩⟩
    have env : Env0 P w K mg (hidT t0.heap H) callerA [] t0 H := ⟨rfl, mod, fun b o e => of_hidT e, Nat.le_of_eq (hidT_size _ _), trivial, fun b hb => (by cases hb), okH, .of_eq noG⟩
    refine cq_mono ((F _ inH (ns nsG)).run callerA [] t0 H ⟨[.ref a], []⟩ [.ref a] [.ref a] _ _ rm env (bd t0 (.ref a)) (.cons rfl .nil) (prom H only sq) sl) fun r s' h => ?_
    cases r with
    | error e => exact h.elim
    | ok fl =>
      cases fl with
      | next => exact h.elim
      | brk => exact h.elim
      | cont => exact h.elim
      | ret u =>
        obtain ⟨v, H', os, bare, un, ok', rv, (rfl : v = .bl true)⟩ := h
        obtain rfl : u = Value.bool true := rv
        refine ⟨rfl, OldK.of_keep fun b o e => ?_, os, bare⟩
        rcases only b with z | ⟨ob, xs, z⟩
        · exact un.keep b o e z (fun y => by cases y) (fun y => by cases y)
        · obtain ⟨e1, _⟩ := okH b _ z
          obtain ⟨e2, _⟩ := ok' b _ (un.frzs b ob _ z)
          rw [e] at e1
          cases e1
          exact e2
  cases hk : K.lookup a with
  | some o =>
    have e := inK a o hk
    rw [atA] at e
    cases e
    refine main (fun _ => none) (fun _ => .inl rfl) (.inr ⟨_, ws.toArray, _, hk, rfl, rfl, rfl, ?_, by simpa using vi⟩) (fun b u z => nomatch z) (fun b z => (z rfl).elim) fun z => (z rfl).elim
    rw [List.size_toArray, nl]
    exact few
  | none =>
    have one : ∀ {b : Addr} {u : HO}, (if b = a then some (HO.frz { cls := .type "list", data := .seq ws.toArray } (.lst (ms.map V.int))) else none) = some u → b = a ∧ u = .frz { cls := .type "list", data := .seq ws.toArray } (.lst (ms.map V.int)) := fun {b u} z => by
      split at z
      · rename_i e; cases z; exact ⟨e, rfl⟩
      · cases z
    refine main (fun b => if b = a then some (.frz { cls := .type "list", data := .seq ws.toArray } (.lst (ms.map V.int))) else none) (fun b => ?_) (.inl (.inr ⟨_, if_pos rfl⟩)) (fun b u z => ?_) (fun b z => ?_) fun _ => hk
    · by_cases e : b = a
      · exact .inr ⟨_, _, if_pos e⟩
      · exact .inl (if_neg e)
    · obtain ⟨rfl, rfl⟩ := one z
      exact ⟨atA, by rw [List.length_map]; exact few, ws, _, vi, atA⟩
    · exact Classical.byContradiction fun e => z (if_neg e)
end BgQ
set_option Elab.async false
set_option linter.all false
set_option maxRecDepth 100000
set_option maxHeartbeats 4000000
noncomputable section
namespace BgQ
open PySem PySem.Spec PyProof.Rows L2 GenW BgT
open PySem.W in
/-- the head by its run, the walk at this machine -/
theorem head_q {r : OpenRow} {q : Program} {hk : Hook} {see : SharedT → hk.α} {M : Nat} {other : List PySem.Str} {d : DefRec} (hs : ∀ s : SharedT, see s = hk.obs s.abs)
    (e : opening r.prog = plainProg r.prog.main.scope.names) (f : ∀ s, fenceModules? r.prog s = some s) (run : ∀ w, HandSHeadRun.RunEq r q hk see M other w)
    (hdef : defOf q r.name = some (d, [])) (hp : r.prog.theDef r.name = some (d.params, d.body, d.scope)) (hkw : kwWritten? d.params.kwonlyargs d.params.kw_defaults = some [])
    (hwr : (!r.writes || r.records.isEmpty) = true) (k1 : r.wellSaid = true) (ok : (chainsOk q && opensWell r.prog && (frees r.toRowW && r.within.isEmpty)) = true) (hb : r.prog.bare) (hw : r.toRowW.promised)
    (walk : WalkQ q other (XL q []) hk.says r.toRowW d []) : r.Holds := by
  have left : LeftO r.prog q other (fun s => xlAt q [] s && recOk r.toRowW.records s) hk.obs hk.val (M + 600) true := by
    refine HandSHeadRun.left_one (M := M) e (Nat.ble_eq_true_of_le (by omega)) f (Nat.ble_eq_true_of_le (by omega)) fun w os => ?_
    have z := run w os
    rw [show see = fun s => hk.obs s.abs from funext hs] at z
    simp only [HandSHeadRun.endQ_eq, HandSHeadRun.seenQ_eq]
    exact z
  exact holds_q left hk.of hk.keeps (fun s z => xl_of s (Bool.and_eq_true_iff.mp z).1) XL.keeps hdef hp hkw (fun s z => recFacts_of (Bool.and_eq_true_iff.mp z).2) hwr k1 ok hb hw walk
end BgQ
namespace BgQ
open PySem PySem.W PySem.Calls PyProof.Rows
theorem law_walk : WalkQ (view BgT.RwO.prog [101]) BgT.names (XL (view BgT.RwO.prog [101]) []) BgT.hk.says BgT.RwO.toRowW (HandSHeadRun.topDef BgT.RwO.prog 101) [] := by
  intro w s₀ s₁ mg mb G Y sl fa o pm cd doc dV kV ho hd hcd hD hmg hg args vals as hpre hlay hrd hwl
  obtain ⟨a, vs, ns, rfl, rfl, hobj, hints, hlen⟩ := Att.script_of (l := PySem.Challenge.rw_busyguess_k24_whole_what_was_called_firs) (n := 63) rfl hpre hwl
  obtain ⟨K, KX, c⟩ := Y
  have T : BgT.Tx K mg := BgT.tx_of KX G.T.g c
  have hn : (HandSHeadRun.topDef BgT.RwO.prog 101).name = ("law" : PySem.Str) := by kernel_rfl
  rw [hn, T.g_law] at hmg
  cases hmg
  have bd := T.F_law.bindsA (ps := ["_law_script"]) fun _ _ _ _ _ _ us hl => match us, hl with | [_], _ => rfl
  refine cq_mono (law_q (K := K) (mg := mg) (mb := mb) (k := 82) (fd := BgT.fdOf K (He.ga K "law")) (x := "_law_script") (sp := sp_law K) KX G.T.g G.T.b G.T.builtins G.T.nolimit hg sl hobj hints (Nat.le_trans hlen (by decide)) ⟨rfl, by decide, by decide⟩ (fun base _ _ => fq_law T) (fun s v => bd s [v] rfl) fun H _ hS => ⟨a, ns, rfl, hS, hlen, fun _ => rfl⟩) ?_
  rintro r s' ⟨rfl, h2, h3, h4⟩
  exact ⟨.bool true, rfl, .inl ⟨.bool true, .bool true, [], rfl, fun _ => rfl, .bool true, Att.post_true _ _, fun _ => ⟨List.Pairwise.nil, fun _ hm => nomatch hm⟩⟩, h2, h3, h4⟩
end BgQ
open PySem PySem.W PySem.Calls PyProof.Rows
theorem PySem.Challenge.cw_busyguess_k24_whole_what_was_called_firs_holds : PySem.Challenge.rw_busyguess_k24_whole_what_was_called_firs.Holds := by
  w_on; o_law
  refine BgQ.head_q (r := OpenLaw.row PySem.Challenge.rw_busyguess_k24_whole_what_was_called_firs) (q := view (OpenLaw.row PySem.Challenge.rw_busyguess_k24_whole_what_was_called_firs).prog [101]) (hk := BgT.hk) (see := BgT.ob) (M := 8000) (other := BgT.names) (d := HandSHeadRun.topDef (OpenLaw.row PySem.Challenge.rw_busyguess_k24_whole_what_was_called_firs).prog 101) BgT.ob_eq
    (by kernel_rfl) (fun s => by kernel_rfl) BgT.headRun (by kernel_rfl) (by kernel_rfl) (by kernel_rfl) (by rfl) (by first | assumption | decide +kernel) (by decide +kernel) ⟨rfl, rfl, rfl, rfl, rfl, by decide +kernel⟩ ?hw BgQ.law_walk
  case hw => w_witness2
