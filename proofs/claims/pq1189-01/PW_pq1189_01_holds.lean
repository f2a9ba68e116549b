import PyProof.Rows.All
import Wide.All
import OpenK.AllK
import Wide.FinOn
import Lean
import PySem.Challenge.RW_pq1189_01
open PySem PySem.W PyProof.Rows PySem.Calls
open Sem (wp)
set_option Elab.async false
set_option maxRecDepth 100000
set_option maxHeartbeats 8000000
set_option rowWalk.seconds 3000
set_option linter.all false
namespace Mine
/-! PQTop -/
/-! room, and addresses apart -/
theorem lim0 {n D L : Nat} (h : n + D < L) : n < L := Nat.lt_of_le_of_lt (Nat.le_add_right n D) h
theorem lim1 {n a0 D L : Nat} (h : n + D < L) (e : Nat.ble (a0) D = true) : n + a0 < L := Nat.lt_of_le_of_lt (Nat.add_le_add_left (Nat.le_of_ble_eq_true e) n) h
theorem lim2 {n a0 a1 D L : Nat} (h : n + D < L) (e : Nat.ble (a0 + a1) D = true) : n + a0 + a1 < L := (Nat.add_assoc n a0 a1).symm ▸ lim1 h e
theorem lim3 {n a0 a1 a2 D L : Nat} (h : n + D < L) (e : Nat.ble (a0 + a1 + a2) D = true) : n + a0 + a1 + a2 < L := (Nat.add_assoc n a0 a1).symm ▸ lim2 h e
theorem lim4 {n a0 a1 a2 a3 D L : Nat} (h : n + D < L) (e : Nat.ble (a0 + a1 + a2 + a3) D = true) : n + a0 + a1 + a2 + a3 < L := (Nat.add_assoc n a0 a1).symm ▸ lim3 h e
theorem lim5 {n a0 a1 a2 a3 a4 D L : Nat} (h : n + D < L) (e : Nat.ble (a0 + a1 + a2 + a3 + a4) D = true) : n + a0 + a1 + a2 + a3 + a4 < L := (Nat.add_assoc n a0 a1).symm ▸ lim4 h e
theorem ne0 {a  b : Nat} {R : Prop} (h : b < a ∧ R) : b ≠ a := Nat.ne_of_lt h.1
theorem ne0' {a  b : Nat} {R : Prop} (h : b < a ∧ R) : a ≠ b := Nat.ne_of_gt h.1
theorem ne1 {a x0 b : Nat} {R : Prop} (h : x0 < a ∧ b < a ∧ R) : b ≠ a := Nat.ne_of_lt h.2.1
theorem ne1' {a x0 b : Nat} {R : Prop} (h : x0 < a ∧ b < a ∧ R) : a ≠ b := Nat.ne_of_gt h.2.1
theorem ne2 {a x0 x1 b : Nat} {R : Prop} (h : x0 < a ∧ x1 < a ∧ b < a ∧ R) : b ≠ a := Nat.ne_of_lt h.2.2.1
theorem ne2' {a x0 x1 b : Nat} {R : Prop} (h : x0 < a ∧ x1 < a ∧ b < a ∧ R) : a ≠ b := Nat.ne_of_gt h.2.2.1
theorem ne3 {a x0 x1 x2 b : Nat} {R : Prop} (h : x0 < a ∧ x1 < a ∧ x2 < a ∧ b < a ∧ R) : b ≠ a := Nat.ne_of_lt h.2.2.2.1
theorem ne3' {a x0 x1 x2 b : Nat} {R : Prop} (h : x0 < a ∧ x1 < a ∧ x2 < a ∧ b < a ∧ R) : a ≠ b := Nat.ne_of_gt h.2.2.2.1
theorem ne4 {a x0 x1 x2 x3 b : Nat} {R : Prop} (h : x0 < a ∧ x1 < a ∧ x2 < a ∧ x3 < a ∧ b < a ∧ R) : b ≠ a := Nat.ne_of_lt h.2.2.2.2.1
theorem ne4' {a x0 x1 x2 x3 b : Nat} {R : Prop} (h : x0 < a ∧ x1 < a ∧ x2 < a ∧ x3 < a ∧ b < a ∧ R) : a ≠ b := Nat.ne_of_gt h.2.2.2.2.1
theorem ne5 {a x0 x1 x2 x3 x4 b : Nat} {R : Prop} (h : x0 < a ∧ x1 < a ∧ x2 < a ∧ x3 < a ∧ x4 < a ∧ b < a ∧ R) : b ≠ a := Nat.ne_of_lt h.2.2.2.2.2.1
theorem ne5' {a x0 x1 x2 x3 x4 b : Nat} {R : Prop} (h : x0 < a ∧ x1 < a ∧ x2 < a ∧ x3 < a ∧ x4 < a ∧ b < a ∧ R) : a ≠ b := Nat.ne_of_gt h.2.2.2.2.2.1
theorem ne6 {a x0 x1 x2 x3 x4 x5 b : Nat} {R : Prop} (h : x0 < a ∧ x1 < a ∧ x2 < a ∧ x3 < a ∧ x4 < a ∧ x5 < a ∧ b < a ∧ R) : b ≠ a := Nat.ne_of_lt h.2.2.2.2.2.2.1
theorem ne6' {a x0 x1 x2 x3 x4 x5 b : Nat} {R : Prop} (h : x0 < a ∧ x1 < a ∧ x2 < a ∧ x3 < a ∧ x4 < a ∧ x5 < a ∧ b < a ∧ R) : a ≠ b := Nat.ne_of_gt h.2.2.2.2.2.2.1
theorem ne7 {a x0 x1 x2 x3 x4 x5 x6 b : Nat} {R : Prop} (h : x0 < a ∧ x1 < a ∧ x2 < a ∧ x3 < a ∧ x4 < a ∧ x5 < a ∧ x6 < a ∧ b < a ∧ R) : b ≠ a := Nat.ne_of_lt h.2.2.2.2.2.2.2.1
theorem ne7' {a x0 x1 x2 x3 x4 x5 x6 b : Nat} {R : Prop} (h : x0 < a ∧ x1 < a ∧ x2 < a ∧ x3 < a ∧ x4 < a ∧ x5 < a ∧ x6 < a ∧ b < a ∧ R) : a ≠ b := Nat.ne_of_gt h.2.2.2.2.2.2.2.1
theorem ne8 {a x0 x1 x2 x3 x4 x5 x6 x7 b : Nat} {R : Prop} (h : x0 < a ∧ x1 < a ∧ x2 < a ∧ x3 < a ∧ x4 < a ∧ x5 < a ∧ x6 < a ∧ x7 < a ∧ b < a ∧ R) : b ≠ a := Nat.ne_of_lt h.2.2.2.2.2.2.2.2.1
theorem ne8' {a x0 x1 x2 x3 x4 x5 x6 x7 b : Nat} {R : Prop} (h : x0 < a ∧ x1 < a ∧ x2 < a ∧ x3 < a ∧ x4 < a ∧ x5 < a ∧ x6 < a ∧ x7 < a ∧ b < a ∧ R) : a ≠ b := Nat.ne_of_gt h.2.2.2.2.2.2.2.2.1
theorem ne9 {a x0 x1 x2 x3 x4 x5 x6 x7 x8 b : Nat} {R : Prop} (h : x0 < a ∧ x1 < a ∧ x2 < a ∧ x3 < a ∧ x4 < a ∧ x5 < a ∧ x6 < a ∧ x7 < a ∧ x8 < a ∧ b < a ∧ R) : b ≠ a := Nat.ne_of_lt h.2.2.2.2.2.2.2.2.2.1
theorem ne9' {a x0 x1 x2 x3 x4 x5 x6 x7 x8 b : Nat} {R : Prop} (h : x0 < a ∧ x1 < a ∧ x2 < a ∧ x3 < a ∧ x4 < a ∧ x5 < a ∧ x6 < a ∧ x7 < a ∧ x8 < a ∧ b < a ∧ R) : a ≠ b := Nat.ne_of_gt h.2.2.2.2.2.2.2.2.2.1
theorem ne10 {a x0 x1 x2 x3 x4 x5 x6 x7 x8 x9 b : Nat} {R : Prop} (h : x0 < a ∧ x1 < a ∧ x2 < a ∧ x3 < a ∧ x4 < a ∧ x5 < a ∧ x6 < a ∧ x7 < a ∧ x8 < a ∧ x9 < a ∧ b < a ∧ R) : b ≠ a := Nat.ne_of_lt h.2.2.2.2.2.2.2.2.2.2.1
theorem ne10' {a x0 x1 x2 x3 x4 x5 x6 x7 x8 x9 b : Nat} {R : Prop} (h : x0 < a ∧ x1 < a ∧ x2 < a ∧ x3 < a ∧ x4 < a ∧ x5 < a ∧ x6 < a ∧ x7 < a ∧ x8 < a ∧ x9 < a ∧ b < a ∧ R) : a ≠ b := Nat.ne_of_gt h.2.2.2.2.2.2.2.2.2.2.1
theorem ne11 {a x0 x1 x2 x3 x4 x5 x6 x7 x8 x9 x10 b : Nat} {R : Prop} (h : x0 < a ∧ x1 < a ∧ x2 < a ∧ x3 < a ∧ x4 < a ∧ x5 < a ∧ x6 < a ∧ x7 < a ∧ x8 < a ∧ x9 < a ∧ x10 < a ∧ b < a ∧ R) : b ≠ a := Nat.ne_of_lt h.2.2.2.2.2.2.2.2.2.2.2.1
theorem ne11' {a x0 x1 x2 x3 x4 x5 x6 x7 x8 x9 x10 b : Nat} {R : Prop} (h : x0 < a ∧ x1 < a ∧ x2 < a ∧ x3 < a ∧ x4 < a ∧ x5 < a ∧ x6 < a ∧ x7 < a ∧ x8 < a ∧ x9 < a ∧ x10 < a ∧ b < a ∧ R) : a ≠ b := Nat.ne_of_gt h.2.2.2.2.2.2.2.2.2.2.2.1
theorem ne12 {a x0 x1 x2 x3 x4 x5 x6 x7 x8 x9 x10 x11 b : Nat} {R : Prop} (h : x0 < a ∧ x1 < a ∧ x2 < a ∧ x3 < a ∧ x4 < a ∧ x5 < a ∧ x6 < a ∧ x7 < a ∧ x8 < a ∧ x9 < a ∧ x10 < a ∧ x11 < a ∧ b < a ∧ R) : b ≠ a := Nat.ne_of_lt h.2.2.2.2.2.2.2.2.2.2.2.2.1
theorem ne12' {a x0 x1 x2 x3 x4 x5 x6 x7 x8 x9 x10 x11 b : Nat} {R : Prop} (h : x0 < a ∧ x1 < a ∧ x2 < a ∧ x3 < a ∧ x4 < a ∧ x5 < a ∧ x6 < a ∧ x7 < a ∧ x8 < a ∧ x9 < a ∧ x10 < a ∧ x11 < a ∧ b < a ∧ R) : a ≠ b := Nat.ne_of_gt h.2.2.2.2.2.2.2.2.2.2.2.2.1
theorem el0_2 {A B G : Prop} (h : A ∧ B) (k : A → B → G) : G := k h.1 h.2
theorem el0_3 {A B C G : Prop} (h : A ∧ B ∧ C) (k : A → B → C → G) : G := k h.1 h.2.1 h.2.2
theorem el0_5 {A B C D E G : Prop} (h : A ∧ B ∧ C ∧ D ∧ E) (k : A → B → C → D → E → G) : G := k h.1 h.2.1 h.2.2.1 h.2.2.2.1 h.2.2.2.2
theorem el1_3 {α : Type} {A B C : α → Prop} {G : Prop} (h : ∃ a, A a ∧ B a ∧ C a) (k : ∀ a, A a → B a → C a → G) : G := h.elim fun a h => k a h.1 h.2.1 h.2.2
theorem el4_4 {α β γ δ : Type} {A B C D : α → β → γ → δ → Prop} {G : Prop} (h : ∃ a b c d, A a b c d ∧ B a b c d ∧ C a b c d ∧ D a b c d) (k : ∀ a b c d, A a b c d → B a b c d → C a b c d → D a b c d → G) : G := h.elim fun a h => h.elim fun b h => h.elim fun c h => h.elim fun d h => k a b c d h.1 h.2.1 h.2.2.1 h.2.2.2
theorem elFn {α β γ δ ε ζ κ : Type} {B : α → β → γ → δ → ε → ζ → κ → Prop} {P : α → Prop} {G : Prop} (h : ∃ a b c d e f g, P a ∧ B a b c d e f g) (k : ∀ a, P a → G) : G := h.elim fun a h => h.elim fun b h => h.elim fun c h => h.elim fun d h => h.elim fun e h => h.elim fun f h => h.elim fun g h => k a h.1
theorem el1_5 {α : Type} {A B C D E : α → Prop} {G : Prop} (h : ∃ a, A a ∧ B a ∧ C a ∧ D a ∧ E a) (k : ∀ a, A a → B a → C a → D a → E a → G) : G := h.elim fun a h => k a h.1 h.2.1 h.2.2.1 h.2.2.2.1 h.2.2.2.2
theorem el3_6 {α β γ : Type} {A B C D E F : α → β → γ → Prop} {G : Prop} (h : ∃ a b c, A a b c ∧ B a b c ∧ C a b c ∧ D a b c ∧ E a b c ∧ F a b c) (k : ∀ a b c, A a b c → B a b c → C a b c → D a b c → E a b c → F a b c → G) : G := h.elim fun a h => h.elim fun b h => h.elim fun c h => k a b c h.1 h.2.1 h.2.2.1 h.2.2.2.1 h.2.2.2.2.1 h.2.2.2.2.2
theorem el5_7 {α β γ δ ε : Type} {A B C D E F H : α → β → γ → δ → ε → Prop} {G : Prop} (h : ∃ a b c d e, A a b c d e ∧ B a b c d e ∧ C a b c d e ∧ D a b c d e ∧ E a b c d e ∧ F a b c d e ∧ H a b c d e) (k : ∀ a b c d e, A a b c d e → B a b c d e → C a b c d e → D a b c d e → E a b c d e → F a b c d e → H a b c d e → G) : G :=
  h.elim fun a h => h.elim fun b h => h.elim fun c h => h.elim fun d h => h.elim fun e h => k a b c d e h.1 h.2.1 h.2.2.1 h.2.2.2.1 h.2.2.2.2.1 h.2.2.2.2.2.1 h.2.2.2.2.2.2
theorem elTop {α β : Type} {A B : α → Prop} {C D E F I J : α → β → Prop} {G : Prop} (h : ∃ a, A a ∧ B a ∧ ∃ b, C a b ∧ D a b ∧ E a b ∧ F a b ∧ I a b ∧ J a b) (k : ∀ a, A a → B a → ∀ b, C a b → D a b → E a b → F a b → I a b → J a b → G) : G :=
  h.elim fun a h => h.2.2.elim fun b i => k a h.1 h.2.1 b i.1 i.2.1 i.2.2.1 i.2.2.2.1 i.2.2.2.2.1 i.2.2.2.2.2
theorem inTop {α β : Type} {A B : α → Prop} {C D E F I : α → β → Prop} (a : α) (x1 : A a) (x2 : B a) (b : β) (x3 : C a b) (x4 : D a b) (x5 : E a b) (x6 : F a b) (x7 : I a b) : ∃ a, A a ∧ B a ∧ ∃ b, C a b ∧ D a b ∧ E a b ∧ F a b ∧ I a b := ⟨a, x1, x2, b, x3, x4, x5, x6, x7⟩
theorem of_pinned {c : Bool} {m n : Str} {P : Str → Prop} (h : n ∈ if c = true then [m] else []) (hp : P m) : P n := by
  cases c
  · cases h
  · exact List.mem_singleton.mp h ▸ hp
/-! The head's other end: the call is asked for at the caller's own context alone. -/
abbrev callerG : Ctx := ⟨.builtin "claim.caller" {}, none, none, [], none⟩
def AtCaller {α : Type} (p : Program) (w : World) (t : Sem α) (Q : α → Shared → Prop) (s : Shared) : Prop := ∀ x, wp (model p w) callerG t (fun a _ s' => Q a s') (fun _ _ _ => False) x s
section
variable {α β : Type} {p : Program} {w : World} {s : Shared}
theorem AtCaller.mono {t : Sem α} {Q Q' : α → Shared → Prop} (h : AtCaller p w t Q s) (hQ : ∀ a s, Q a s → Q' a s) : AtCaller p w t Q' s :=
  fun x => Sem.wp_mono _ _ t (fun a _ s => hQ a s) (fun _ _ _ z => z) x s (h x)
theorem AtCaller.bind {t : Sem α} {f : α → Sem β} {Q : β → Shared → Prop} (h : AtCaller p w t (fun a s' => AtCaller p w (f a) Q s') s) : AtCaller p w (t >>= f) Q s := fun x => by
  rw [Sem.wp_bind']
  exact Sem.wp_mono _ _ t (fun a x' s' h' => h' x') (fun _ _ _ z => z) x s (h x)
theorem AtCaller.any {t : Sem α} {Q : α → Shared → Prop} (h : wpAny (model p w) callerA t Q (fun _ _ => False) s) : AtCaller p w t Q s := fun x => h _ x caller_in
/-- the thread ends as the tree says -/
theorem AtCaller.ends {t : Sem Fin} {R : Result → Shared → Prop} (hs : s.asleep) (h : AtCaller p w t (fun fin s' => ∃ f, fin = .done f ∧ R (.ok f) s' ∧ leftWithCleanup s'.gens = false) s) :
    ∃ n r s' s'', runN (denote table) p w n s ⟨t, .builtin "claim.caller" {}, default, []⟩ = .halted (outcomeOf r) s' ∧
      schedN (denote table) p w n (.single s ⟨t, .builtin "claim.caller" {}, default, []⟩) = .halted (outcomeOf r) s' ∧ s'.forget = s''.forget ∧ R r s'' := by
  have hw : wp (model p w) callerG t (Sem.finPost (model p w) callerG fun r s' => R r s' ∧ leftWithCleanup s'.gens = false) (fun e _ s' => R (.error e) s' ∧ leftWithCleanup s'.gens = false) default s := by
    refine Sem.wp_mono _ _ t (fun fin x s' h' => ?_) (fun _ _ _ z => z.elim) default s (h default)
    obtain ⟨f, rfl, hf⟩ := h'
    exact hf
  obtain ⟨n, r, s₁, s₂, e1, e2, e3, e4⟩ := wp_halts_full (M := model p w) (R := R) hs hw
  exact ⟨n, r, s₂, s₁, e2, e1, e3, e4⟩
end
/-- what is asked of the walk -/
abbrev WalkP (q : Program) (loose : List Str) (XP : (Str → Option Value) → Heap → Prop) (YP : World → Heap → Prop) (r : RowW) : Prop :=
  ∀ (w : World) (s₀ s₁ : Shared) (mg mb : Str → Option Value), Ground q loose r.records XP w s₀ mg mb s₁.heap → YP w s₁.heap → ∀ f, mg r.name = some f → s₁.gens = #[] →
    ∀ (args : List WData) (vals : List Value) (as : List Addr), r.claim.pre args = true → WData.layableAll args = true → ReadsAllW r.records (classAt s₀.heap) s₁.heap vals args as → WellAll w.params s₁.heap vals args → (∀ a ∈ as, (a == sysModules) = false) →
      AtCaller r.prog w (PySem.call f vals) (fun v s' => GoodWG r.claim (classAt s₀.heap) (ExcName.means s₀.heap) args s₁ (.ok (.ret v)) s') s₁
def KeptP (r : OpenRow) (s : Shared) (h' : Heap) : Prop := r.writes = true → namesKept r.claim.prog r.keeps s.heap h' ∧ ∀ x ∈ r.claim.records, ∀ a, classAt s.heap x.1 = some a → recordClass h' a x.1 (x.2.map (·.1)) = true
def EndR (r : OpenRow) (s : Shared) (args : List WData) (vs : List Value) (s₁ : Shared) (res : Result) (s' : Shared) : Prop := r.claim.Ends s args vs s₁ res s' ∧ s'.os = s.os ∧ KeptP r s s'.heap
theorem callTree {r : OpenRow} {q : Program} {loose : List Str} {XP : (Str → Option Value) → Heap → Prop} {w : World} {s₀ s s₁ : Shared} {f : Value} {mg mb : Str → Option Value} {args : List WData} {vs : List Value} {as : List Addr}
    (hwr : (!r.writes || r.records.isEmpty) = true) (hwi : r.within.isEmpty = true) (hsame : r.same = none) (hi : ∀ as bs, r.claim.ident as bs = true)
    (hT : TopRan r.prog w s₀ s) (hg : s.heap.isNs mainGlobals = true) (L : Laid r.records w s s₁ args vs as) (G : Ground q loose r.records XP w s mg mb s₁.heap) (h1 : mg r.name = some f)
    (body : AtCaller r.prog w (PySem.call f vs) (fun v s' => GoodWG r.claim (classAt s.heap) (ExcName.means s.heap) args s₁ (.ok (.ret v)) s') s₁) :
    AtCaller r.prog w (do match ← nsGet mainNs r.name with
      | some f => do ret (← PySem.call f vs)
      | none => unsupported "claim.caller:no-such-global") (fun fin s' => ∃ f, fin = .done f ∧ EndR r s args vs s₁ (.ok f) s' ∧ leftWithCleanup s'.gens = false) s₁ := by
  refine .bind (.any (wpAny_nsGet G.T.g ?_))
  rw [h1]
  refine .bind (body.mono fun v s' g => .any (wpAny_pure ?_))
  exact el0_3 (g.laid (c := r.claim) hsame (List.isEmpty_iff.mp hwi) hi L) fun z1 z2 z3 => ⟨_, rfl, ⟨z1, z2, fun q => ⟨namesKept_of hT hg r.keeps L.keeps g.2.1.old, noTable hwr q⟩⟩, leftWithCleanup_false_of_bare z3⟩
def OutP (r : OpenRow) (w : World) (s : Shared) (args : List WData) (ord : List DictEntry → List DictEntry) : Prop :=
  ∃ vs s₁ k res s', layAllW r.records (classAt s.heap) w.params ord args s = some (vs, s₁) ∧ schedN (denote table) r.prog w k (.single s₁ (callStub r.name vs)) = .halted (outcomeOf res) s' ∧ r.claim.Ends s args vs s₁ res s' ∧
    s'.gens.size ≥ 0 ∧ KeptP r s s'.heap ∧ s'.heap.life.seen = s.heap.life.seen ∧ s'.rest = s.rest
theorem callOut {r : OpenRow} {w : World} {s₀ s : Shared} (hgens : s.gens = #[]) (h : ∀ args, r.claim.pre args = true → WData.layableAll args = true → ∀ ord : List DictEntry → List DictEntry, (∀ l, (ord l).Perm l) → OutP r w s args ord) :
    ClaimW.CallFrom (callStub r.name) r.claim w (fun b => r.writes = true ∧ madeByTheTop s₀ s b) (r.writes = false) (KeptP r s) s := fun args h1 h2 ord h3 =>
  el5_7 (h args h1 h2 ord h3) fun vs s₁ k res s' e1 e2 e3 e4 e5 e6 e7 => ⟨vs, s₁, e1, k, _, s', e2,
    e3.elim (fun h => .inl (el1_5 h fun v y c1 c2 c3 c4 => ⟨v, congrArg outcomeOf y, c1, c2, c3, fun b o y _ => c4.1 b o y, c4.2⟩))
      (fun h => .inr (el3_6 h fun e ob cls y c1 c2 c3 c4 c5 => ⟨e, ob, cls, congrArg outcomeOf y, c1, c2, c3, c4, fun b o y _ => c5 b o y⟩)),
    (fun _ i x hx => absurd hx (by rw [hgens]; exact nofun)), e5, e6, e7⟩
theorem inOut {r : OpenRow} {w : World} {s : Shared} {args : List WData} {ord : List DictEntry → List DictEntry} {v : List Value × Shared} {k : Nat} {res : Result} {s' : Shared} (e1 : layAllW r.records (classAt s.heap) w.params ord args s = some v)
    (e2 : schedN (denote table) r.prog w k (.single v.2 (callStub r.name v.1)) = .halted (outcomeOf res) s') (e3 : r.claim.Ends s args v.1 v.2 res s') (e4 : s'.gens.size ≥ 0) (e5 : KeptP r s s'.heap) (e6 : s'.heap.life.seen = s.heap.life.seen) (e7 : s'.rest = s.rest) : OutP r w s args ord :=
  ⟨v.1, v.2, k, res, s', e1, e2, e3, e4, e5, e6, e7⟩
/-- the call, from the state that the head left -/
theorem callEnd {r : OpenRow} {q : Program} {loose : List Str} {XP : (Str → Option Value) → Heap → Prop} {YP : World → Heap → Prop} {d : DefRec} {kwd : List (Str × Expr)} {w : World} {s₀ s : Shared}
    (hYk : ∀ w h h', YP w h → (∀ b o, h.get? b = some o → h'.get? b = some o) → YP w h') (hXk : ∀ mg h h', XP mg h → (∀ b o, h.get? b = some o → h'.get? b = some o) → XP mg h')
    (hdef : defOf q r.name = some (d, kwd)) (hwr : (!r.writes || r.records.isEmpty) = true) (hwi : r.within.isEmpty = true) (hsame : r.same = none) (hi : ∀ as bs, r.claim.ident as bs = true)
    (hT : TopRan r.prog w s₀ s) (hz : s.asleep) (hgens : s.gens = #[]) (hg : s.heap.isNs mainGlobals = true) (G : Ground q loose r.records XP w s (s.heap.nsMap mainGlobals) (s.heap.nsMap builtinsNs) s.heap) (y : YP w s.heap)
    (call : WalkP q loose XP YP r.toRowW) :
    ClaimW.CallFrom (callStub r.name) r.claim w (fun b => r.writes = true ∧ madeByTheTop s₀ s b) (r.writes = false) (KeptP r s) s := by
  refine callOut hgens fun args hpre hlay ord hord => ?_
  refine Exists.elim (Option.isSome_iff_exists.mp (layAllW_isSome (P := w.params) (ord := ord) G.has args r.args s (pre_splitW hpre).1)) fun vs1 hlaid => ?_
  have keeps := layAllW_keeps _ _ _ hlaid
  have hal := layAllW_rest _ _ _ hlaid
  refine el1_3 (reads_layAllW hord _ _ _ hlaid hlay vs1.2.heap (fun _ _ e => e)) fun as hrd hin hold => ?_
  have L : Laid r.records w s vs1.2 args vs1.1 as := ⟨⟨ord, hord, hlaid⟩, hrd, hin, hold, keeps, hal.1.trans hgens, hal.2.2.1⟩
  have G₁ := G.keeps hXk keeps
  refine elFn (G₁.fn hdef) fun a h1 => ?_
  refine el4_4 (AtCaller.ends (R := EndR r s args vs1.1 vs1.2) (Shared.asleep_of_life hal.2.2.2 hz) (callTree hwr hwi hsame hi hT hg L G₁ h1 (call w s vs1.2 _ _ G₁ (hYk _ _ _ y keeps) (.ref a) h1 L.gens args vs1.1 as hpre hlay L.reads L.well (L.low G.low)))) fun k res s' s'' hrun hsched hfo hR => ?_
  exact inOut hlaid hsched (hR.1.congr (Shared.forget_eq hfo).1) (Nat.zero_le _) ((Shared.forget_eq hfo).1 ▸ hR.2.2) (congrArg (·.seen) ((runN_life _ _ _ hrun).trans hal.2.2.2)) (Shared.rest_eq ((Shared.forget_eq hfo).2.2.2.1 ▸ hR.2.1))
theorem holds_caller {r : OpenRow} {q : Program} {loose : List Str} {Xt : Shared → Bool} {XP : (Str → Option Value) → Heap → Prop} {α : Type} {Yf : Shared → α} {Ya : World → α} {YP : World → Heap → Prop} {d : DefRec} {kwd : List (Str × Expr)} {N : Nat}
    (left : LeftO r.prog q loose Xt Yf Ya N) (hY : ∀ w s, Yf s = Ya w → YP w s.heap) (hYk : ∀ w h h', YP w h → (∀ b o, h.get? b = some o → h'.get? b = some o) → YP w h')
    (hX : ∀ s, Xt s = true → XP (s.heap.nsMap mainGlobals) s.heap) (hXk : ∀ mg h h', XP mg h → (∀ b o, h.get? b = some o → h'.get? b = some o) → XP mg h')
    (hdef : defOf q r.name = some (d, kwd)) (hp : r.prog.theDef r.name = some (d.params, d.body, d.scope)) (hk : kwWritten? d.params.kwonlyargs d.params.kw_defaults = some kwd) (hRf : ∀ s, Xt s = true → RecFacts r.records s.heap) (hwr : (!r.writes || r.records.isEmpty) = true)
    (k1 : r.wellSaid = true) (ok : (chainsOk q && opensWell r.prog && (frees r.toRowW && r.within.isEmpty)) = true) (hb : r.prog.bare) (hw : r.toRowW.promised)
    (call : WalkP q loose XP YP r.toRowW) : r.Holds := by
  refine el0_2 (Bool.and_eq_true_iff.mp ok) fun ok1 ok2 => el0_2 (Bool.and_eq_true_iff.mp ok1) fun hch ho => el0_2 (Bool.and_eq_true_iff.mp ok2) fun hfr hwi => el0_5 (frees_parts hfr) fun hsame hu ha hap hm => ?_
  refine ⟨k1, hw, ⟨hb, ho, by show r.makers.map _ = []; rw [hm]; rfl⟩, hw.witness, fun w => ⟨(left.behind hX hch w).1, fun sx hsx => ?_⟩⟩
  refine elTop ((left.behind (XP := fun mg h => XP mg h ∧ RecFacts r.records h) (fun s hs => ⟨hX s hs, hRf s hs⟩) hch w).2 sx hsx) fun s₀ e1 e2 s hT hz hgens hg G0 y => ?_
  have G1 : Ground q loose [] XP w s (s.heap.nsMap mainGlobals) (s.heap.nsMap builtinsNs) s.heap := ⟨G0.T, G0.B, G0.D, G0.TE, G0.TD, G0.W, G0.X.1, G0.cls, G0.has, G0.apart, G0.once, G0.K⟩
  refine inTop s₀ e1 e2 s hT (fun n hn => ?_) G0.X.2.1 G0.X.2.2.1 (?_)
  · exact of_pinned hn (pinned_of_view hg G1 hdef hp hk)
  · exact callEnd hYk hXk hdef hwr hwi hsame (ident_freeW hu ha hap) hT hz (Array.eq_empty_of_size_eq_zero (beq_iff_eq.mp hgens)) hg (G0.X.2.ground G1) (hY w s y) call

/-! PQHead -/

/-! The head: one check of the top's run, over a heap that is a tree. -/
def mkBT : List Obj → BT → Nat → Option (BT × Nat)
  | [], T, n => some (T, n)
  | o :: r, T, n => match ((T.ins n o).get n).isSome with
    | true => mkBT r (T.ins n o) (n + 1)
    | false => none
theorem mkBT_spec (life : Life) : ∀ (l : List Obj) (T : BT) (n : Nat) (T' : BT) (n' : Nat), mkBT l T n = some (T', n') →
    absHeap T' n' life = ⟨(absHeap T n life).objs ++ l.toArray, life⟩
  | [], T, n, T', n', h => by
    simp only [mkBT, Option.some.injEq, Prod.mk.injEq] at h
    obtain ⟨rfl, rfl⟩ := h
    simp [absHeap]
  | o :: r, T, n, T', n', h => by
    unfold mkBT at h
    cases e : ((T.ins n o).get n).isSome with
    | false => rw [e] at h; cases h
    | true =>
      rw [e] at h
      have := mkBT_spec life r _ _ _ _ h
      rw [this, absHeap_ins e]
      show Heap.mk _ _ = Heap.mk _ _
      congr 1
      show (absHeap T n life).objs.push o ++ r.toArray = _
      apply Array.ext'
      simp

def topRunT (den : Code → Sem Fin) (p : Program) (w : World) (n₀ : Nat) (ann : Option Value) : Nat → SharedT → Thread → Option SharedT
  | 0, _, _ => none
  | n + 1, s, t => match through t with
    | true => some s
    | false => match stepOk n₀ ann t with
      | false => none
      | true => match stepT den p w s t with
        | some (s', t') => topRunT den p w n₀ ann n s' t'
        | none => none
theorem topRunT_of {tb : String → Option Builtin} {p : Program} {w : World} {n₀ : Nat} {ann : Option Value} : ∀ {n : Nat} {s s' : SharedT} {t : Thread},
    topRunT (denote tb) p w n₀ ann n s t = some s' → topRun tb p w n₀ ann n s.abs t = some s'.abs
  | 0, _, _, _, h => by cases h
  | n + 1, s, s', t, h => by
    unfold topRunT at h
    unfold topRun
    cases ht : through t with
    | true => rw [ht] at h; cases h; rfl
    | false =>
      rw [ht] at h
      cases hk : stepOk n₀ ann t with
      | false => rw [hk] at h; cases h
      | true =>
        rw [hk] at h
        cases hs : stepT (denote tb) p w s t with
        | none => rw [hs] at h; cases h
        | some r => obtain ⟨s₂, t₂⟩ := r; rw [hs] at h; rw [stepT_spec hs]; exact topRunT_of h

def topFromT (den : Code → Sem Fin) (p : Program) (w : World) (N : Nat) (s₀ : Shared) : Option SharedT :=
  match s₀.heap.isNs mainGlobals && s₀.gens.size == 0 with
  | true => match mkBT s₀.heap.objs.toList .nil 0 with
    | some (T, n) => (topRunT den p w s₀.heap.objs.size (s₀.heap.nsMap mainGlobals "__annotations__") N ⟨T, n, s₀.heap.life, s₀.gens, s₀.drawn, s₀.toks, s₀.os⟩ (topStub p)).bind fun s₁ =>
      match staticsOk (importedModules p.main.body) s₀.heap s₁.abs.heap && namesBound p s₁.abs.heap && gensDone s₁.abs && laidKept s₀.heap s₁.abs.heap with
      | true => some s₁
      | false => none
    | none => none
  | false => none
theorem topFromT_of {tb : String → Option Builtin} {p : Program} {w : World} {N : Nat} {s₀ : Shared} {s₁ : SharedT} (h : topFromT (denote tb) p w N s₀ = some s₁) : topFrom tb p w N s₀ = some s₁.abs := by
  unfold topFromT at h
  unfold topFrom
  cases e : (s₀.heap.isNs mainGlobals && s₀.gens.size == 0) with
  | false => rw [e] at h; cases h
  | true =>
    rw [e] at h
    dsimp only at h ⊢
    cases eb : mkBT s₀.heap.objs.toList .nil 0 with
    | none => rw [eb] at h; cases h
    | some r =>
      obtain ⟨T, n⟩ := r
      rw [eb] at h
      dsimp only at h
      obtain ⟨s₂, h1, h2⟩ := Option.bind_eq_some_iff.mp h
      have hs := topRunT_of h1
      have ha : (⟨T, n, s₀.heap.life, s₀.gens, s₀.drawn, s₀.toks, s₀.os⟩ : SharedT).abs = s₀ := by
        unfold SharedT.abs
        have := mkBT_spec s₀.heap.life _ _ _ _ _ eb
        dsimp only
        rw [this]
        obtain ⟨⟨objs, life⟩, gens, drawn, toks, os⟩ := s₀
        show Shared.mk _ _ _ _ _ = _
        congr 1
        show Heap.mk _ _ = Heap.mk _ _
        congr 1
        apply Array.ext'
        simp [absHeap, BT.list]
      rw [ha] at hs
      rw [hs]
      dsimp only [Option.bind_some]
      split at h2
      · rename_i q
        rw [q]
        cases h2
        rfl
      · cases h2

noncomputable abbrev denQ : Code → Sem Fin := PySem.W.Fast.tw11892475500146522536 PySem.W.Fast.tw14364793385576792824
theorem denQ_eq : denQ = denote treeTable := by
  show PySem.W.Fast.tw11892475500146522536 PySem.W.Fast.tw14364793385576792824 = _
  rw [← PySem.W.Fast.te11892475500146522536, ← PySem.W.Fast.te14364793385576792824]
/-- an object read off the tree -/
def getT (s : SharedT) (a : Addr) : Option Obj := match Nat.blt a s.n with
  | true => alive ((s.tree.get a).getD default)
  | false => none
theorem getT_eq (s : SharedT) (a : Addr) : s.abs.heap.get? a = getT s a := by
  unfold getT
  show (absHeap s.tree s.n s.life).get? a = _
  cases e : Nat.blt a s.n with
  | false => exact abs_get_none fun h => Bool.noConfusion (e.symm.trans (Nat.ble_eq_true_of_le h : Nat.blt a s.n = true))
  | true =>
    have h : a < s.n := Nat.le_of_ble_eq_true e
    cases g : s.tree.get a with
    | some o => exact abs_get h g
    | none => unfold Heap.get?; rw [absHeap_at, if_pos h, g]; rfl
theorem leftK {p q : Program} {loose : List Str} {Xt : Shared → Bool} {K : Params → Frag} {as : List Addr} {e : ∀ P, as = (K P).map (·.1)} {N : Nat} {g0 : Bool}
    (h : ∀ w, ((fencedOpening treeTable p w N).bind (topFromT denQ p w N)).map (fun s => (openSeen q loose (importedModules p.main.body) Xt g0 s.abs, as.map (getT s))) = some (openGood q loose, (K w.params).map fun x => some x.2)) :
    LeftO p q loose Xt (Hook.obs (kHook K as e)) (Hook.val (kHook K as e)) N g0 := fun w => by
  obtain ⟨s₁, h1, h2⟩ := Option.map_eq_some_iff.mp (h w)
  obtain ⟨s₀, h3, h4⟩ := Option.bind_eq_some_iff.mp h1
  rw [denQ_eq] at h4
  unfold openEnds
  rw [h3]
  show (topFrom treeTable p w N s₀).map _ = _
  rw [topFromT_of h4]
  refine congrArg some (Eq.trans ?_ h2)
  show (_, as.map s₁.abs.heap.get?) = _
  rw [funext (getT_eq s₁)]

def lawView : Program := view PySem.Challenge.pw_pq1189_01 [57]
def looseNames : List Str := (PySem.Challenge.pw_pq1189_01.main.scope.names.map (·.1)).filter fun n => !(startupNames.contains n) && n != ("law" : Str)

theorem headSaid : (PySem.Challenge.rw_pq1189_01).wellSaid = true := by
  delta OpenLaw.wellSaid OpenRow.wellSaid OpenRow.partSaid looksOpen
  repeat' (with_reducible refine look_both ?_ ?_)
  all_goals first
    | (with_reducible refine (congrFun (congrFun PySem.W.Fast.te8326940854005059898 _) _).trans ?_); decide +kernel
    | (with_reducible refine (congrFun (congrFun (congrFun PySem.W.Fast.te17119622794617984870 _) _) _).trans ?_); decide +kernel
    | (with_reducible refine (congrFun PySem.W.Fast.te8377067652309620493 _).trans ?_); decide +kernel
    | decide +kernel
local macro_rules | `(tactic| o_law) => `(tactic| refine holds_law Mine.headSaid fun said => ?_)
local macro_rules | `(tactic| k_qdec) => `(tactic| fail)
set_option hygiene false in
local macro_rules | `(tactic| o_head $H) => `(tactic| (
  refine holds_caller (q := Mine.lawView) (loose := Mine.looseNames) (Xt := fun s => xlAt Mine.lawView [] s && recOk (RowW.records (OpenRow.toRowW (OpenLaw.row PySem.Challenge.rw_pq1189_01))) s) (XP := XL Mine.lawView [])
    (Yf := Hook.obs $H) (Ya := Hook.val $H) (YP := Hook.says $H) (N := 7450) ?hl (Hook.of $H) (Hook.keeps $H) (fun s e => xl_of s (Bool.and_eq_true_iff.mp e).1) XL.keeps (by rfl) (by rfl) (by rfl)
    (fun s e => recFacts_of (Bool.and_eq_true_iff.mp e).2) (by rfl) (by first | assumption | decide +kernel) (by decide +kernel) ⟨rfl, rfl, rfl, rfl, rfl, by decide +kernel⟩ ?hw ?hc
  (case hl => exact leftK (fun w => by kernel_rfl))))
set_option maxRecDepth 100000 in
set_option maxHeartbeats 0 in
open_top hd for PySem.Challenge.rw_pq1189_01

/-! PQBase -/
theorem fill : (PySem.Challenge.rw_pq1189_01, hd.heap_1) = (PySem.Challenge.rw_pq1189_01, hd.heap_1) := by
  k_fill
  rfl

/-! What a call leaves as it was. -/
def Ext (mods : List Addr) (h h' : Heap) : Prop := ∀ b o, h.get? b = some o → b ∉ mods → h'.get? b = some o
theorem Ext.refl {mods : List Addr} {h : Heap} : Ext mods h h := fun _ _ e _ => e
theorem Ext.trans {mods : List Addr} {h h' h'' : Heap} (x : Ext mods h h') (y : Ext mods h' h'') : Ext mods h h'' := fun b o e n => y b o (x b o e n) n
theorem Ext.mono {mods mods' : List Addr} {h h' : Heap} (x : Ext mods h h') (s : ∀ a ∈ mods, a ∈ mods') : Ext mods' h h' := fun b o e n => x b o e fun q => n (s _ q)
theorem Ext.fr {mods : List Addr} {h₀ h h' : Heap} {L : Addr} {m : Str → Option Value} (x : Ext mods h h') (F : Fr h₀ L h m) (hm : ∀ a ∈ mods, a ≠ L ∧ h₀.get? a = none) : Fr h₀ L h' m := by
  obtain ⟨oL, es, ep, hL, r⟩ := F.ns
  refine ⟨⟨oL, es, ep, x _ _ hL fun q => (hm _ q).1 rfl, r⟩, fun b o e => x _ _ (F.keep b o e) fun q => ?_, F.above⟩
  have := (hm _ q).2
  rw [e] at this; cases this
theorem Ext.news {mods : List Addr} {h₀ h h' : Heap} {L : Addr} {news : List (Addr × Obj)} (x : Ext mods h h') (N : News h₀ L h news) (hm : ∀ p ∈ news, p.1 ∉ mods) : News h₀ L h' news :=
  fun p hp => ⟨x _ _ (N p hp).1 (hm p hp), (N p hp).2⟩
theorem Ext.news0 {h₀ h h' : Heap} {L : Addr} {news : List (Addr × Obj)} (x : Ext [] h h') (N : News h₀ L h news) : News h₀ L h' news :=
  x.news N fun _ _ q => nomatch q

abbrev pw : Program := PySem.Challenge.pw_pq1189_01
abbrev TopM (mean : ExcName → Option Value) (mg mb : Str → Option Value) (h : Heap) : Prop := Top lawView (looseW lawView looseNames) mean mg mb h

/-- What a call of the def at f does with these arguments, where the ledger bears objs; it turns mods alone. -/
def Does (w : World) (f : Addr) (d u : Nat) (vs : List Value) (objs : List (Addr × Obj)) (mods : List Addr) (Post : Heap → Value → Heap → Prop) : Prop :=
  ∀ (dp un : Nat) (gd : Option (List Code)) (env : Env) (outer : List Env) (A₀ : Around) (base h₀ : Heap) (L : Addr) (m : Str → Option Value) (mean : ExcName → Option Value) (mg mb : Str → Option Value) (s : Shared) (Q E : Value → Shared → Prop),
    Below A₀ base outer h₀ → Fr h₀ L s.heap m → (hd.heap_1 w.params).In h₀ → TopM mean mg mb h₀ → News h₀ L s.heap objs → env.frame = some L → env.scope.kind = .function → dp + d < recursionLimit → un + u < cLine →
    (∀ v h' tk', Ext mods s.heap h' → Post s.heap v h' → Q v { s with heap := h', toks := tk' }) →
    wpAny (model pw w) { handled := none, depth := dp, frames := some (env :: outer), guards := gd, units := un } (call (.ref f) vs) Q E s

/-- The end of a def's body. -/
def Back (objs : List (Addr × Obj)) (h : Heap) (P : Value → Shared → Prop) (g : Heap) (v : Value) (s' : Shared) : Prop :=
  ∃ L' m' news', Fr g L' s'.heap m' ∧ News g L' s'.heap news' ∧ ((∀ mods, (∀ p ∈ objs, p.1 ∈ mods ∨ p ∈ news') → Ext mods h s'.heap) → P v s')
theorem back_ {objs : List (Addr × Obj)} {h g : Heap} {P : Value → Shared → Prop} {v : Value} {s' : Shared} {L' : Addr} {m' : Str → Option Value} {news' : List (Addr × Obj)} (F : Fr g L' s'.heap m') (N : News g L' s'.heap news')
    (k : (∀ mods, (∀ p ∈ objs, p.1 ∈ mods ∨ p ∈ news') → Ext mods h s'.heap) → P v s') : Back objs h P g v s' := ⟨L', m', news', F, N, k⟩

theorem enter_def {w : World} {name qual : Str} {params : Arguments} {body : List Stmt} {scope : Scope} {dV kV doc pm cdv ct oc : Value} {an od : Option Addr} {osl : Array (Option Value)} {f : Addr} {vs : List Value} {binds : List (Str × Value)}
    {dp un : Nat} {gd : Option (List Code)} {env : Env} {outer : List Env} {A₀ : Around} {base h₀ : Heap} {L : Addr} {m : Str → Option Value} {mean : ExcName → Option Value} {mg mb : Str → Option Value} {s : Shared} {Q E : Value → Shared → Prop} {objs : List (Addr × Obj)}
    (B : Below A₀ base outer h₀) (F : Fr h₀ L s.heap m) (X : (hd.heap_1 w.params).In h₀) (T : TopM mean mg mb h₀) (N : News h₀ L s.heap objs) (hf : env.frame = some L) (hke : env.scope.kind = .function) (hroom : dp < recursionLimit)
    (ho : (hd.heap_1 w.params).lookup f = some ⟨oc, od, .func (fnOf name qual params body scope dV kV doc pm an cdv ct), osl⟩) (hcd : codeIn (hd.heap_1 w.params) cdv qual = true)
    (hbind : (hd.heap_1 w.params).In s.heap → BindsTo s (fnOf name qual params body scope dV kV doc pm an cdv ct) ⟨vs, []⟩ binds) (hloc : ∀ y ∈ binds, scope.names.lookup y.1 = some .local)
    (h : ∀ g L' h₁, Fr g L' h₁ (fun y => binds.reverse.lookup y) → News g L' h₁ objs → Below { handled := none, depth := dp, frames := some (env :: outer), guards := gd, units := un } base (env :: outer) g → (hd.heap_1 w.params).In g → TopM mean mg mb g →
      (∀ b o, s.heap.get? b = some o → b ∉ objs.map (·.1) → g.get? b = some o) → (∀ p ∈ objs, p.1 < L') → s.heap.objs.size = L' →
      wpAny (model pw w) { handled := none, depth := dp + 1, frames := some (envOf qual scope L' f cdv :: env :: outer), guards := gd, units := un + 3 } (execs body (envOf qual scope L' f cdv))
        (fun fl s' => Back objs s.heap Q g (match fl with | .ret v => v | _ => .none) s')
        (fun e s' => wpAny (model pw w) { handled := none, depth := dp + 1, frames := some (envOf qual scope L' f cdv :: env :: outer), guards := gd, units := un + 3 } (leaving (envOf qual scope L' f cdv) e) (fun _ s'' => E e s'') (fun e' s'' => E e' s'') s')
        { s with heap := h₁, toks := s.toks + binds.length })
    (hco : scope.isCoroutine = false) (hgen : scope.isGenerator = false) (hk : scope.kind = .function) (hcell : ∀ x ∈ scope.names, x.2 ≠ .cell) :
    wpAny (model pw w) { handled := none, depth := dp, frames := some (env :: outer), guards := gd, units := un } (call (.ref f) vs) Q E s := by
  refine wpAny_call ?_
  have XS : (hd.heap_1 w.params).In s.heap := Frag.In.keeps X F.keep
  obtain ⟨FG, BG, st, lv⟩ := groundX (A := { handled := none, depth := dp, frames := some (env :: outer), guards := gd, units := un }) (R := fun r s' => match r with | .ok (.ret v) => Q v s' | .ok _ => False | .error e => E e s') B F N rfl hf hke
  refine codeAny_call_def (fd := fnX name qual params body scope [] dV kV doc pm an cdv ct) (body := body) (binds := binds) hroom (XS _ _ ho) rfl (T.nolimit.keeps F.keep) (codeRec_of XS hcd) rfl (hbind XS) hcell hloc (fun h₁ hns hk₁ => ?_) hco hgen hk
  have sub : ∀ b o, (hideAll s.heap (objs.map (·.1))).get? b = some o → h₁.get? b = some o := fun b o e => hk₁ b o (of_hideAll _ e)
  refine wpAny_mono (h _ s.heap.objs.size h₁ ⟨hns, sub, Nat.le_of_eq (hideAll_size _ _)⟩
    (fun p hp => ⟨hk₁ _ _ (N p hp).1, Nat.ne_of_lt (Heap.lt_size (N p hp).1), hideAll_none _ (List.mem_map_of_mem hp)⟩) BG (X.keeps st) (T.keeps st) (fun b o e n => hideAll_get _ e n) (fun p hp => Heap.lt_size (N p hp).1) rfl) (fun fl s' hl => ?_) fun _ _ y => y
  obtain ⟨L', m', news', F', N', k⟩ := hl
  refine k fun mods hsub b o e n => ?_
  by_cases hb : b ∈ objs.map (·.1)
  · obtain ⟨p, hp, rfl⟩ := List.mem_map.mp hb
    rcases hsub p hp with q | q
    · exact absurd q n
    · have e1 := (N p hp).1
      rw [e1] at e
      cases e
      exact (N' p q).1
  · exact F'.keep b o (hideAll_get _ e hb)

abbrev tupOf (vs : List Value) : Obj := { cls := .type "tuple", data := .seq vs.toArray }
abbrev lstOf (vs : List Value) (n : Nat) : Obj := { cls := .type "list", data := .seq vs.toArray n }

/-- an object that was made anew -/
def New (h : Heap) (a : Addr) (o : Obj) (h' : Heap) : Prop := h.get? a = none ∧ h'.get? a = some o
theorem New.news {h₀ h h' : Heap} {L a : Addr} {o : Obj} {m : Str → Option Value} {news : List (Addr × Obj)} (x : New h a o h') (F : Fr h₀ L h m) (N : News h₀ L h' news) : News h₀ L h' ((a, o) :: news) := by
  intro p hp
  rcases List.mem_cons.mp hp with rfl | hp
  · refine ⟨x.2, fun q => ?_, ?_⟩
    · obtain ⟨oL, _, _, hL, _⟩ := F.ns
      have := x.1
      rw [show a = L from q, hL] at this; cases this
    · cases q : h₀.get? a with
      | none => rfl
      | some o' => have := x.1; rw [F.keep _ _ q] at this; cases this
  · exact N p hp
theorem New.ne {h₀ h h' : Heap} {L a : Addr} {o : Obj} {news : List (Addr × Obj)} (x : New h a o h') (N : News h₀ L h news) : ∀ p ∈ news, p.1 ≠ a := fun p hp q => by
  have := x.1
  rw [← q, (N p hp).1] at this; cases this
theorem New.of {h g h' : Heap} {L a : Addr} {o : Obj} {objs news : List (Addr × Obj)} (hs : ∀ b o, h.get? b = some o → b ∉ objs.map (·.1) → g.get? b = some o) (N : News g L h' news) (hm : (a, o) ∈ news) (hn : a ∉ objs.map (·.1)) : New h a o h' := by
  refine ⟨?_, (N _ hm).1⟩
  cases q : h.get? a with
  | none => rfl
  | some o' => have := hs _ _ q hn; rw [(N _ hm).2.2] at this; cases this

/-! PQG -/

/-! Contexts without a frame that holds a bytearray, and the calculus over them: no exception is let by. -/
def holders : List String := "bytearray.__contains__" :: "bytearray.__mod__" :: "bytearray.__rmod__" :: "_struct.pack_into.held" :: "bytearray.find.held" :: Builtin.Bytes.decodersThatHold
def bareCode : Code → Bool
  | .builtin id _ => !holders.contains id
  | _ => true
def Clean (l : List (Code × Pos)) : Prop := ∀ x ∈ l, bareCode x.1 = true
def wG {α : Type} (w : World) (A : Around) (t : Sem α) (Q : α → Shared → Prop) (s : Shared) : Prop :=
  ∀ Γ p, Γ.In A → bareCode Γ.code = true → Clean Γ.below → wp (model pw w) Γ t (fun a _ s' => Q a s') (fun _ _ _ => False) p s
def cG (w : World) (A : Around) (c : Code) (R : Flow → Shared → Prop) (s : Shared) : Prop :=
  ∀ Γ p, Γ.code = c → Γ.Below A → Clean Γ.below → wpCode (model pw w) Γ (fun r s' => match r with | .ok f => R f s' | .error _ => False) p s
abbrev noE : Value → Shared → Prop := fun _ _ => False

section
variable {α β : Type} {w : World} {A : Around} {s : Shared}
theorem wG_any {t : Sem α} {Q : α → Shared → Prop} (h : wpAny (model pw w) A t Q noE s) : wG w A t Q s := fun Γ p hΓ _ _ => h Γ p hΓ
theorem wG_pure {a : α} {Q : α → Shared → Prop} (h : Q a s) : wG w A (pure a) Q s := fun _ _ _ _ _ => h
theorem wG_mono {t : Sem α} {Q Q' : α → Shared → Prop} (h : wG w A t Q s) (hQ : ∀ a s, Q a s → Q' a s) : wG w A t Q' s :=
  fun Γ p hΓ h1 h2 => Sem.wp_mono _ Γ t (fun a _ s => hQ a s) (fun _ _ _ x => x) p s (h Γ p hΓ h1 h2)
theorem wG_bind {m : Sem α} {f : α → Sem β} {Q : β → Shared → Prop} (h : wG w A m (fun a s' => wG w A (f a) Q s') s) : wG w A (m >>= f) Q s := fun Γ p hΓ h1 h2 => by
  rw [Sem.wp_bind']
  exact Sem.wp_mono _ Γ m (fun a p' s' h' => h' Γ p' hΓ h1 h2) (fun _ _ _ h' => h') p s (h Γ p hΓ h1 h2)
theorem wG_onRaise {m : Sem α} {k : Value → Sem Unit} {Q : α → Shared → Prop} (h : wG w A m Q s) : wG w A (m.onRaise k) Q s := fun Γ p hΓ h1 h2 => by
  rw [Sem.wp_onRaise]
  exact Sem.wp_mono _ Γ m (fun _ _ _ h' => h') (fun _ _ _ h' => h'.elim) p s (h Γ p hΓ h1 h2)
theorem wG_attempt {m : Sem α} {Q : Except Value α → Shared → Prop} (h : wG w A m (fun a => Q (.ok a)) s) : wG w A m.attempt Q s := fun Γ p hΓ h1 h2 => by
  rw [Sem.wp_attempt]
  exact Sem.wp_mono _ Γ m (fun _ _ _ h' => h') (fun _ _ _ h' => h'.elim) p s (h Γ p hΓ h1 h2)
theorem wG_holding {vs : List Value} {m : Sem α} {Q : α → Shared → Prop} (h : wG w A m Q s) : wG w A (holding vs m) Q s := fun Γ p hΓ h1 h2 => by rw [Sem.wp_holding]; exact h Γ p hΓ h1 h2
theorem wG_keep {vs : List Value} {m : Sem α} {Q : α → Shared → Prop} (h : wG w A m Q s) : wG w A (m.keep vs) Q s := fun Γ p hΓ h1 h2 => by rw [Sem.wp_keep]; exact h Γ p hΓ h1 h2
theorem wG_at {pos : Pos} {Q : Unit → Shared → Prop} (h : Q () s) : wG w A (standAt pos) Q s := fun _ _ _ _ _ => h
theorem wG_point {Q : Unit → Shared → Prop} (h : Q () s) : wG w A point Q s := fun _ _ _ _ _ => h
theorem wG_operate {vs : List Value} {m : Sem Value} {Q : Value → Shared → Prop} (h : wG w A m Q s) : wG w A (operate vs m) Q s := fun Γ p hΓ h1 h2 => by rw [Sem.wp_operate]; exact h Γ p hΓ h1 h2

theorem clean_enter {Γ : Ctx} {p : Pos} (h1 : bareCode Γ.code = true) (h2 : Clean Γ.below) : Clean ((Γ.code, p) :: Γ.below) := fun x hx => by
  rcases List.mem_cons.mp hx with rfl | hx
  · exact h1
  · exact h2 x hx
theorem wG_run {c : Code} {Q : Flow → Shared → Prop} (h : cG w A c Q s) : wG w A (run c none) Q s := fun Γ p hΓ h1 h2 => by
  rw [Sem.wp_run]
  refine wpCode_mono (fun r s' hr => ?_) (h _ p rfl (hΓ.enter c none p (by intro x; cases x)) (clean_enter h1 h2))
  cases r with
  | ok f => exact hr
  | error e => exact hr.elim
theorem wG_runValue {c : Code} {Q : Value → Shared → Prop} (h : cG w A c (fun f s' => match f with | .ret v => Q v s' | _ => False) s) : wG w A (runValue c) Q s := fun Γ p hΓ h1 h2 => by
  rw [Sem.wp_runValue]
  refine wpCode_mono (fun r s' hr => ?_) (h _ p rfl (hΓ.enter c none p (by intro x; cases x)) (clean_enter h1 h2))
  cases r with
  | ok f => cases f <;> exact hr
  | error e => exact hr.elim
theorem wG_call {f : Value} {pos : List Value} {kw : List (Str × Value)} {Q : Value → Shared → Prop} (h : cG w A (.call f ⟨pos, kw⟩) (fun f s' => match f with | .ret v => Q v s' | _ => False) s) : wG w A (call f pos kw) Q s := wG_runValue h
theorem cG_mono {c : Code} {R R' : Flow → Shared → Prop} (h : cG w A c R s) (hR : ∀ f s, R f s → R' f s) : cG w A c R' s := fun Γ p hc hΓ h2 =>
  wpCode_mono (fun r s' hr => by cases r with | ok f => exact hR _ _ hr | error e => exact hr) (h Γ p hc hΓ h2)
def finG (w : World) (A : Around) (R : Flow → Shared → Prop) (fin : Fin) (s' : Shared) : Prop := match fin with
  | .done f => R f s'
  | .again c' => c'.quiet = true ∧ cG w A c' R s'
theorem cG_tree {c : Code} {R : Flow → Shared → Prop} (hb : bareCode c = true) (h : wG w (A.under c) ((model pw w).den c) (finG w A R) s) : cG w A c R s := fun Γ p hc hΓ h2 => by
  rw [wpCode_iff_wp, hc]
  refine Sem.wp_mono _ Γ _ (fun fin p' s' h' => ?_) (fun _ _ _ h' => h'.elim) p s (h Γ p (hc ▸ hΓ.in) (by rw [hc]; exact hb) h2)
  cases fin with
  | done f => exact h'
  | again c' => exact ⟨h'.1, h'.2 (Γ.goto c') p' rfl (hΓ.goto c') h2⟩
/-- loops -/
theorem cG_loop {c : Code} {R : Flow → Shared → Prop} (hb : bareCode c = true) (hq : c.quiet = true) (I : Nat → Shared → Prop)
    (turn : ∀ n s, I n s → wG w (A.under c) ((model pw w).den c) (fun fin s' => match fin with | .done f => R f s' | .again c' => c' = c ∧ ∃ m, m < n ∧ I m s') s)
    (n : Nat) (h : I n s) : cG w A c R s := by
  induction n using Nat.strongRecOn generalizing s with
  | ind n ih =>
    refine cG_tree hb (wG_mono (turn n s h) (fun fin s' hf => ?_))
    cases fin with
    | done f => exact hf
    | again c' => obtain ⟨rfl, m, hm, hI⟩ := hf; exact ⟨hq, ih m hm hI⟩
end

section
variable {w : World} {A : Around} {s : Shared} {env : Env}
theorem gx_nil {Q : Flow → Shared → Prop} (h : Q .next s) : wG w A (execs [] env) Q s := fun _ _ _ _ _ => h
def thenG (w : World) (A : Around) (rest : List Stmt) (env : Env) (Q : Flow → Shared → Prop) (f : Flow) (s' : Shared) : Prop := match f with
  | .next => wG w A (execs rest env) Q s'
  | f => Q f s'
theorem gx_cons {st : Stmt} {rest : List Stmt} {Q : Flow → Shared → Prop} (h : wG w A (exec st env) (thenG w A rest env Q) s) : wG w A (execs (st :: rest) env) Q s := by
  rw [execs_cons]
  refine wG_bind (wG_mono h fun f s' h' => ?_)
  cases f <;> first | exact h' | exact wG_pure h'
/-- a statement that no bytearray is reached by -/
theorem gx_any {st : Stmt} {Q : Flow → Shared → Prop} (h : wpAny (model pw w) A (exec st env) Q noE s) : wG w A (exec st env) Q s := wG_any h
theorem gx_assign_name {x : Str} {pos' pos : Pos} {value : Expr} {Q : Flow → Shared → Prop} (h : wG w A (eval value env) (fun v s₁ => wpAny (model pw w) A (storeName env x v) (fun _ => Q .next) noE s₁) s)
    (hs : swapsWith value (some (.Name x pos')) pos.line env = pure false := by rfl) : wG w A (exec (.Assign [.Name x pos'] value pos) env) Q s := by
  rw [exec_Assign_Name env x pos' value pos hs]
  exact wG_bind (wG_at (wG_bind (wG_mono h fun v s₁ h₁ => wG_bind (wG_at (wG_bind (wG_any (wpAny_bindName (wpAny_mono h₁ (fun _ _ x => wG_pure x) fun _ _ x => x))))))))
theorem gx_expr {e : Expr} {pos : Pos} {Q : Flow → Shared → Prop} (h : wG w A (eval e env) (fun v s' => v = .none ∧ Q .next s') s) (hi : interactive env = false := by rfl) (hs : swapsWith e none pos.line env = pure false := by rfl) :
    wG w A (exec (.Expr e pos) env) Q s := by
  rw [exec_Expr env e pos hi hs]
  refine wG_bind (wG_at (wG_bind (wG_mono h fun v s' h' => ?_)))
  obtain ⟨rfl, h'⟩ := h'
  rw [dropValue_plain (fun a hva => by cases hva)]
  exact wG_pure h'
theorem gx_if {test : Expr} {body orelse : List Stmt} {pos : Pos} {Q : Flow → Shared → Prop}
    (h : wpAny (model pw w) A (isTrue test env (eval test env)) (fun b s₂ => if b then wG w A (execs body env) Q s₂ else wG w A (execs orelse env) Q s₂) noE s) : wG w A (exec (.If test body orelse pos) env) Q s := by
  rw [exec_If]
  refine wG_bind (wG_at (wG_bind (wG_any (wpAny_mono h (fun b s₂ h₂ => ?_) fun _ _ x => x))))
  cases b <;> exact h₂
theorem gx_return {e : Expr} {pos : Pos} {Q : Flow → Shared → Prop} (h : wG w A (eval e env) (fun v => Q (.ret v)) s) : wG w A (exec (.Return (some e) pos) env) Q s := by
  rw [exec_Return_some]
  exact wG_bind (wG_at (wG_bind (wG_mono h fun v s' h' => wG_pure h')))
theorem gx_while {test : Expr} {body orelse : List Stmt} {pos : Pos} {Q : Flow → Shared → Prop} (h : cG w A (.whileLoop test body orelse env) Q s) : wG w A (exec (.While test body orelse pos) env) Q s := by
  rw [exec_While]
  refine wG_bind (wG_at ?_)
  unfold runOwn
  exact wG_onRaise (wG_run h)
theorem cG_while {test : Expr} {body orelse : List Stmt} {R : Flow → Shared → Prop} (I : Nat → Shared → Prop)
    (turn : ∀ n s, I n s → wpAny (model pw w) A (isTrue test env (eval test env)) (fun b s₂ =>
        if b then wG w A (execs body env) (fun f s₃ => match f with
            | .next | .cont => ∃ m, m < n ∧ I m s₃
            | .brk => R .next s₃
            | .ret v => R (.ret v) s₃) s₂
        else wG w A (execs orelse env) R s₂) noE s)
    (n : Nat) (h : I n s) : cG w A (.whileLoop test body orelse env) R s := by
  refine cG_loop rfl rfl I (fun n s hI => ?_) n h
  show wG _ A ((whileTurn test body orelse env).onRaise (fun x => do noteFrame x env; theTreesLotGoes x)) _ s
  refine wG_onRaise ?_
  simp only [whileTurn]
  refine wG_bind (wG_any (wpAny_mono (turn n s hI) (fun b s₂ h₂ => ?_) fun _ _ h' => h'))
  cases b with
  | false =>
    simp only [Bool.false_eq_true, if_false] at h₂ ⊢
    exact wG_bind (wG_mono h₂ (fun f s₃ h₃ => wG_pure h₃))
  | true =>
    simp only [if_true] at h₂ ⊢
    refine wG_bind (wG_mono h₂ (fun f s₃ h₃ => ?_))
    cases f with
    | next => exact wG_pure ⟨rfl, h₃⟩
    | cont => exact wG_pure ⟨rfl, h₃⟩
    | brk => exact wG_pure h₃
    | ret v => exact wG_pure h₃

/-! expressions -/
theorem ge_any {e : Expr} {Q : Value → Shared → Prop} (h : wpAny (model pw w) A (eval e env) Q noE s) : wG w A (eval e env) Q s := wG_any h
theorem ge_ifexp {test body orelse : Expr} {pos : Pos} {Q : Value → Shared → Prop}
    (h : wpAny (model pw w) A (isTrue test env (eval test env)) (fun c s₂ => if c then wG w A (eval body env) Q s₂ else wG w A (eval orelse env) Q s₂) noE s) : wG w A (eval (.IfExp test body orelse pos) env) Q s := by
  rw [eval_IfExp]
  refine wG_bind (wG_any (wpAny_mono h (fun c s₂ h₂ => ?_) fun _ _ x => x))
  cases c <;> exact h₂
theorem gs_nil {pos : Pos} {Q : List Value → Shared → Prop} (h : Q [] s) : wG w A (spliced (backTo pos (starEach [] env))) Q s := fun _ _ _ _ _ => h
theorem gs_cons {e : Expr} {rest : List Expr} {pos : Pos} {Q : List Value → Shared → Prop} (h : wG w A (eval e env) (fun v s₁ => wG w A (spliced (backTo pos (starEach rest env))) (fun vs s₂ => Q (v :: vs) s₂) s₁) s)
    (he : starEach (e :: rest) env = (false, eval e env) :: starEach rest env := by rfl) : wG w A (spliced (backTo pos (starEach (e :: rest) env))) Q s := by
  rw [he]
  show wG w A (spliced ((false, eval e env) :: backTo pos (starEach rest env))) Q s
  rw [spliced]
  refine wG_bind (wG_mono h fun v s₁ h₁ => ?_)
  simp only [Bool.false_eq_true, if_false]
  refine wG_bind (wG_pure (wG_bind (wG_holding (wG_mono h₁ fun vs s₂ h₂ => wG_pure ?_))))
  exact h₂
theorem ge_tuple {elts : List Expr} {k : Nat} {pos : Pos} {Q : Value → Shared → Prop} (h : wG w A (spliced (backTo pos (starEach elts env))) (fun vs s₁ => wpAny (model pw w) A (newTuple vs) Q noE s₁) s) : wG w A (eval (.Tuple elts k pos) env) Q s := by
  show wG w A (do standAt pos; newTuple (← spliced (backTo pos (starEach elts env)))) Q s
  exact wG_bind (wG_at (wG_bind (wG_mono h fun vs s₁ h₁ => wG_any h₁)))
theorem ge_list {elts : List Expr} {pos : Pos} {Q : Value → Shared → Prop} (h : wG w A (spliced (backTo pos (starEach elts env))) (fun vs s₁ => wpAny (model pw w) A (newList vs) Q noE s₁) s) : wG w A (eval (.List elts pos) env) Q s := by
  show wG w A (do standAt pos; newList (← spliced (backTo pos (starEach elts env)))) Q s
  exact wG_bind (wG_at (wG_bind (wG_mono h fun vs s₁ h₁ => wG_any h₁)))
theorem ge_call {func : Expr} {args : List Expr} {pos : Pos} {Q : Value → Shared → Prop} (h : wpAny (model pw w) A (eval func env) (fun f s₁ => wG w A (callWith pos f [] (backTo pos (starEach args env)) []) Q s₁) noE s)
    (he : eval (.Call func args [] pos) env = (do callWith pos (← eval func env) [] (backTo pos (starEach args env)) (backToKw pos (keywordEach [] env))) := by rfl) : wG w A (eval (.Call func args [] pos) env) Q s := by
  rw [he]
  exact wG_bind (wG_any (wpAny_mono h (fun f s₁ h₁ => h₁) fun _ _ x => x))
/-- the keeper of what is called -/
theorem gc_with {f : Value} {first : List Value} {args : List (Bool × Sem Value)} {pos : Pos} {Q : Value → Shared → Prop} {P : Heap → Prop} (hplain : args.any (·.1) = false)
    (hk : ∀ h, P h → ∃ k, (k = Keeper.frame ∨ k = Keeper.machine ∨ k = Keeper.boundFrame) ∧ Looks (model pw w) h (keeperOf f) k)
    (h : wG w A (spliced args) (fun vs s₁ => P s₁.heap ∧ wG w A (call f (first ++ vs)) Q s₁) s) : wG w A (callWith pos f first args []) Q s := by
  have ha : wG w A (evalArgs f true args []) (fun a s₁ => P s₁.heap ∧ wG w A (call f (first ++ a.pos) a.kw) Q s₁) s := by
    have fin : ∀ vs s₁, (P s₁.heap ∧ wG w A (call f (first ++ vs)) Q s₁) → P s₁.heap ∧ wG w A (call f (first ++ (⟨vs, []⟩ : Args).pos) (⟨vs, []⟩ : Args).kw) Q s₁ := fun _ _ x => x
    cases args with
    | nil =>
      unfold evalArgs
      show wG w A (spliced [] >>= _) _ s
      refine wG_bind (wG_mono h fun vs s₁ h₁ => ?_)
      refine wG_holding ?_
      exact wG_bind (wG_pure (wG_bind (wG_pure (wG_pure (fin _ _ h₁)))))
    | cons y rest =>
      obtain ⟨b, x⟩ := y
      cases b with
      | true => simp at hplain
      | false =>
        unfold evalArgs
        show wG w A (spliced ((false, x) :: rest) >>= _) _ s
        refine wG_bind (wG_mono h fun vs s₁ h₁ => ?_)
        refine wG_holding ?_
        exact wG_bind (wG_pure (wG_bind (wG_pure (wG_pure (fin _ _ h₁)))))
  unfold callWith
  refine wG_bind (wG_holding (wG_mono ha fun a s₁ h₁ => wG_bind (wG_at ?_)))
  obtain ⟨k, hk', L⟩ := hk _ h₁.1
  have hst : (args.any (·.1) || ([] : List (Option Str × Sem Value)).any (·.1.isNone)) = false := by rw [hplain]; rfl
  simp only [hst]
  refine wG_bind (wG_any (L.here ?_))
  have tail : ∀ {t : Sem Value}, wG w A t Q s₁ → wG w A (t >>= fun r => holding [r] point >>= fun _ => pure r) Q s₁ :=
    fun ht => wG_bind (wG_mono ht (fun r s₂ hr => wG_bind (wG_holding (wG_point (wG_pure hr)))))
  have marked (mk : Value) : wG w A (callMarked mk f (first ++ a.pos) a.kw) Q s₁ := by unfold callMarked; exact wG_keep h₁.2
  rcases hk' with rfl | rfl | rfl <;> dsimp only <;> first | exact tail h₁.2 | (split <;> first | exact tail h₁.2 | exact tail (marked _))
end

section
variable {w : World} {A : Around} {s : Shared}
theorem call_tree {a : Addr} {args : Args} {o : Obj} {fd : FuncData} {body : List Stmt} {Q : Fin → Shared → Prop} {E : Value → Shared → Prop} (hroom : A.depth < recursionLimit) (ho : s.heap.get? a = some o) (hd' : o.data = .func fd) (hco : fd.scope.isCoroutine = false) (hgen : fd.scope.isGenerator = false)
    (hbody : fd.body = .stmts body) (hcd : s.heap.CodeRec fd.code fd.qualname)
    (h : wpAny (model pw w) A.in1 (bindArgs fd args) (fun binds s₁ =>
      wpAny (model pw w) A.in1 (newFunctionEnv fd.scope fd.globals fd.closure binds (fd.qualname ++ ".<locals>.") (some a) fd.code none fd.builtins)
        (fun env s₂ => s₂.heap.NoLimit ∧ Q (.again (.func body env)) s₂) E s₁) E s) :
    wpAny (model pw w) A.in1 (callAny (.ref a) args) Q E s := by
  simp only [callAny]
  refine wpAny_bind (wpAny_load ho ?_)
  obtain ⟨c, oc, vs, tq, hc, hoc, hdc, hq⟩ := hcd
  simp only [hd', callFunction, hco, hgen, hbody, hc]
  rw [hc] at h
  refine wpAny_bind (m := field (.ref c) 1) (wpAny_field hoc hdc hq (wpAny_bind (wpAny_pure ?_)))
  exact wpAny_bind (wpAny_mono h (fun binds s₁ h₁ => wpAny_bind (wpAny_mono h₁ (fun env s₂ h₂ => wpAny_bind (wpAny_enterFrame h₂.1 hroom
    (wpAny_pure h₂.2))) fun _ _ h' => h')) fun _ _ h' => h')
theorem cG_func {body : List Stmt} {env : Env} {R : Flow → Shared → Prop}
    (h : wG w (A.deeper env) (execs body env) (fun f s' => R (.ret (match f with | .ret v => v | _ => .none)) s') s) : cG w A (.func body env) R s := by
  refine cG_tree rfl ?_
  show wG _ (A.deeper env) (do point; match ← (execs body env).onRaise (leaving env) with | .ret v => ret v | _ => ret .none) _ s
  refine wG_bind (wG_point (wG_bind (wG_onRaise (wG_mono h (fun f s' h' => ?_)))))
  cases f <;> exact wG_pure h'
theorem cG_call_def {R : Flow → Shared → Prop} {a : Addr} {o : Obj} {fd : FuncData} {body : List Stmt} {args : Args} {binds : List (Str × Value)}
    (hroom : A.depth < recursionLimit) (ho : s.heap.get? a = some o) (hdata : o.data = .func fd) (hlim : s.heap.NoLimit) (hcd : s.heap.CodeRec fd.code fd.qualname)
    (hbody : fd.body = .stmts body) (hbind : BindsTo s fd args binds)
    (hcell : ∀ x ∈ fd.scope.names, x.2 ≠ .cell) (hloc : ∀ x ∈ binds, fd.scope.names.lookup x.1 = some .local)
    (h : ∀ h₀, h₀.Ns s.heap.objs.size (fun x => binds.reverse.lookup x) → (∀ b o, s.heap.get? b = some o → h₀.get? b = some o) →
      wG w (A.deeper (callEnv fd s.heap.objs.size a)) (execs body (callEnv fd s.heap.objs.size a)) (fun f s' => R (.ret (match f with | .ret v => v | _ => .none)) s')
        { s with heap := h₀, toks := s.toks + binds.length })
    (hco : fd.scope.isCoroutine = false := by rfl) (hgen : fd.scope.isGenerator = false := by rfl) (hk : fd.scope.kind = .function := by rfl) :
    cG w A (.call (.ref a) args) R s := by
  refine cG_tree rfl ?_
  show wG _ A.in1 (callAny (.ref a) args) _ s
  refine wG_any (call_tree hroom ho hdata hco hgen hbody hcd (hbind _ _ _ _ ?_))
  refine wpAny_newFunctionEnv hcell hloc (fun h₀ hns₀ hsb₀ => ⟨hlim.fresh _ hsb₀, And.intro rfl (cG_func (h h₀ hns₀ fun b o e => ?_))⟩) hk
  exact hsb₀.extBut b o (Nat.ne_of_lt (Heap.lt_size e)) (Heap.get?_push_of_some _ e)
end

/-- as Does, of a def that reaches a bytearray -/
def DoesG (w : World) (f : Addr) (d u : Nat) (vs : List Value) (objs : List (Addr × Obj)) (mods : List Addr) (Post : Heap → Value → Heap → Prop) : Prop :=
  ∀ (dp un : Nat) (gd : Option (List Code)) (env : Env) (outer : List Env) (A₀ : Around) (base h₀ : Heap) (L : Addr) (m : Str → Option Value) (mean : ExcName → Option Value) (mg mb : Str → Option Value) (s : Shared) (Q : Value → Shared → Prop),
    Below A₀ base outer h₀ → Fr h₀ L s.heap m → (hd.heap_1 w.params).In h₀ → TopM mean mg mb h₀ → News h₀ L s.heap objs → env.frame = some L → env.scope.kind = .function → dp + d < recursionLimit → un + u < cLine →
    (∀ v h' tk', Ext mods s.heap h' → Post s.heap v h' → Q v { s with heap := h', toks := tk' }) →
    wG w { handled := none, depth := dp, frames := some (env :: outer), guards := gd, units := un } (call (.ref f) vs) Q s
theorem Does.toG {w : World} {f : Addr} {d u : Nat} {vs : List Value} {objs : List (Addr × Obj)} {mods : List Addr} {Post : Heap → Value → Heap → Prop} (h : Does w f d u vs objs mods Post) : DoesG w f d u vs objs mods Post :=
  fun dp un gd env outer A₀ base h₀ L m mean mg mb s Q B F X T N hf hk hd hu hret => wG_any (h dp un gd env outer A₀ base h₀ L m mean mg mb s Q noE B F X T N hf hk hd hu hret)

theorem enter_G {w : World} {name qual : Str} {params : Arguments} {body : List Stmt} {scope : Scope} {dV kV doc pm cdv ct oc : Value} {an od : Option Addr} {osl : Array (Option Value)} {f : Addr} {vs : List Value} {binds : List (Str × Value)}
    {dp un : Nat} {gd : Option (List Code)} {env : Env} {outer : List Env} {A₀ : Around} {base h₀ : Heap} {L : Addr} {m : Str → Option Value} {mean : ExcName → Option Value} {mg mb : Str → Option Value} {s : Shared} {Q : Value → Shared → Prop} {objs : List (Addr × Obj)}
    (B : Below A₀ base outer h₀) (F : Fr h₀ L s.heap m) (X : (hd.heap_1 w.params).In h₀) (T : TopM mean mg mb h₀) (N : News h₀ L s.heap objs) (hf : env.frame = some L) (hke : env.scope.kind = .function) (hroom : dp < recursionLimit)
    (ho : (hd.heap_1 w.params).lookup f = some ⟨oc, od, .func (fnOf name qual params body scope dV kV doc pm an cdv ct), osl⟩) (hcd : codeIn (hd.heap_1 w.params) cdv qual = true)
    (hbind : (hd.heap_1 w.params).In s.heap → BindsTo s (fnOf name qual params body scope dV kV doc pm an cdv ct) ⟨vs, []⟩ binds) (hloc : ∀ y ∈ binds, scope.names.lookup y.1 = some .local)
    (h : ∀ g L' h₁, Fr g L' h₁ (fun y => binds.reverse.lookup y) → News g L' h₁ objs → Below { handled := none, depth := dp, frames := some (env :: outer), guards := gd, units := un } base (env :: outer) g → (hd.heap_1 w.params).In g → TopM mean mg mb g →
      (∀ b o, s.heap.get? b = some o → b ∉ objs.map (·.1) → g.get? b = some o) → (∀ p ∈ objs, p.1 < L') → s.heap.objs.size = L' →
      wG w { handled := none, depth := dp + 1, frames := some (envOf qual scope L' f cdv :: env :: outer), guards := gd, units := un + 3 } (execs body (envOf qual scope L' f cdv))
        (fun fl s' => Back objs s.heap Q g (match fl with | .ret v => v | _ => .none) s')
        { s with heap := h₁, toks := s.toks + binds.length })
    (hco : scope.isCoroutine = false) (hgen : scope.isGenerator = false) (hk : scope.kind = .function) (hcell : ∀ x ∈ scope.names, x.2 ≠ .cell) :
    wG w { handled := none, depth := dp, frames := some (env :: outer), guards := gd, units := un } (call (.ref f) vs) Q s := by
  refine wG_call ?_
  have XS : (hd.heap_1 w.params).In s.heap := Frag.In.keeps X F.keep
  obtain ⟨FG, BG, st, _⟩ := groundX (A := { handled := none, depth := dp, frames := some (env :: outer), guards := gd, units := un }) (R := fun _ _ => True) B F N rfl hf hke
  refine cG_call_def (fd := fnX name qual params body scope [] dV kV doc pm an cdv ct) (body := body) (binds := binds) hroom (XS _ _ ho) rfl (T.nolimit.keeps F.keep) (codeRec_of XS hcd) rfl (hbind XS) hcell hloc (fun h₁ hns hk₁ => ?_) hco hgen hk
  have sub : ∀ b o, (hideAll s.heap (objs.map (·.1))).get? b = some o → h₁.get? b = some o := fun b o e => hk₁ b o (of_hideAll _ e)
  refine wG_mono (h _ s.heap.objs.size h₁ ⟨hns, sub, Nat.le_of_eq (hideAll_size _ _)⟩
    (fun p hp => ⟨hk₁ _ _ (N p hp).1, Nat.ne_of_lt (Heap.lt_size (N p hp).1), hideAll_none _ (List.mem_map_of_mem hp)⟩) BG (X.keeps st) (T.keeps st) (fun b o e n => hideAll_get _ e n) (fun p hp => Heap.lt_size (N p hp).1) rfl) (fun fl s' hl => ?_)
  obtain ⟨L', m', news', F', N', k⟩ := hl
  refine k fun mods hsub b o e n => ?_
  by_cases hb : b ∈ objs.map (·.1)
  · obtain ⟨p, hp, rfl⟩ := List.mem_map.mp hb
    rcases hsub p hp with q | q
    · exact absurd q n
    · have e1 := (N p hp).1
      rw [e1] at e
      cases e
      exact (N' p q).1
  · exact F'.keep b o (hideAll_get _ e hb)

section
variable {w : World} {A : Around} {s : Shared} {env : Env}
/-- as above, the object made by a call that reaches a bytearray -/
theorem ge_methG {o : Expr} {name : Str} {apos pos : Pos} {args : List Expr} {pl : Sem Bool} {Q : Value → Shared → Prop}
    (h : wG w A (eval o env) (fun ov s₁ => wpAny (model pw w) A (getMethod ov name pl) (fun fx s₂ => wG w A (callWith pos fx.1 fx.2 (backTo pos (starEach args env)) []) Q s₂) noE s₁) s)
    (he : eval (.Call (.Attribute o name apos) args [] pos) env = (do
      let ov ← eval o env
      standAt apos.atName
      let (f, first) ← holding [ov] (getMethod ov name pl)
      callWith pos f first (backTo pos (starEach args env)) []) := by rfl) :
    wG w A (eval (.Call (.Attribute o name apos) args [] pos) env) Q s := by
  rw [he]
  exact wG_bind (wG_mono h (fun ov s₁ h₁ => wG_bind (wG_at (wG_bind (wG_holding (wG_any (wpAny_mono h₁ (fun fx s₂ h₂ => h₂) fun _ _ x => x)))))))
/-- a def of the text is called -/
theorem gc_K {f : Value} {first : List Value} {args : List Expr} {pos : Pos} {Q : Value → Shared → Prop} (hk : keepIn (hd.heap_1 w.params) f = true) (hplain : (backTo pos (starEach args env)).any (·.1) = false)
    (h : wG w A (spliced (backTo pos (starEach args env))) (fun vs s₁ => (∃ h₀ L m, (hd.heap_1 w.params).In h₀ ∧ Fr h₀ L s₁.heap m) ∧ wG w A (call f (first ++ vs)) Q s₁) s) : wG w A (callWith pos f first (backTo pos (starEach args env)) []) Q s :=
  gc_with (P := (hd.heap_1 w.params).In) hplain (keeps_K hk) (wG_mono h fun vs s₁ x => ⟨by obtain ⟨⟨h₀, L, m, X, F⟩, _⟩ := x; exact Frag.In.keeps X F.keep, x.2⟩)
/-- a builtin is called -/
theorem gc_B {id : String} {first : List Value} {args : List Expr} {pos : Pos} {Q : Value → Shared → Prop} (hplain : (backTo pos (starEach args env)).any (·.1) = false)
    (h : wG w A (spliced (backTo pos (starEach args env))) (fun vs s₁ => wG w A (call (.builtin id) (first ++ vs)) Q s₁) s) : wG w A (callWith pos (.builtin id) first (backTo pos (starEach args env)) []) Q s :=
  gc_with (P := fun _ => True) hplain (fun h _ => ⟨.machine, .inr (.inl rfl), Looks.of_pure rfl⟩) (wG_mono h fun vs s₁ x => ⟨trivial, x⟩)
theorem gc_T {T : String} {first : List Value} {args : List Expr} {pos : Pos} {Q : Value → Shared → Prop} (hplain : (backTo pos (starEach args env)).any (·.1) = false)
    (h : wG w A (spliced (backTo pos (starEach args env))) (fun vs s₁ => wG w A (call (.type T) (first ++ vs)) Q s₁) s) : wG w A (callWith pos (.type T) first (backTo pos (starEach args env)) []) Q s :=
  gc_with (P := fun _ => True) hplain (fun h _ => ⟨.machine, .inr (.inl rfl), Looks.of_pure rfl⟩) (wG_mono h fun vs s₁ x => ⟨trivial, x⟩)
end

/-! PQBA -/
abbrev baOf (b : List UInt8) : Obj := { cls := .type "bytearray", data := .bytearray b.toArray }
namespace BA
theorem mro : mroOf (.type "bytearray") = pure [.type "bytearray", .type "object"] := by rw [mroOf_type]; kernel_rfl
theorem lookup_new : typeLookup (.type "bytearray") "__new__" = pure (some (.builtin "bytearray.__new__")) := by rw [typeLookup_type, builtinLookup_eq_fast]; kernel_rfl
theorem lookup_buffer : typeLookup (.type "bytearray") "__buffer__" = pure (some (.builtin "bytearray.__buffer__")) := by rw [typeLookup_type, builtinLookup_eq_fast]; kernel_rfl
theorem lookup_release : typeLookup (.type "bytearray") "__release_buffer__" = pure (some (.builtin "bytearray.__release_buffer__")) := by rw [typeLookup_type, builtinLookup_eq_fast]; kernel_rfl
theorem lookup_bytes : typeLookup (.type "bytearray") "__bytes__" = pure none := by rw [typeLookup_type, builtinLookup_eq_fast]; kernel_rfl
theorem lookup_index : typeLookup (.type "bytearray") "__index__" = pure none := by rw [typeLookup_type, builtinLookup_eq_fast]; kernel_rfl
theorem lookup_ga : typeLookup (.type "bytearray") "__getattribute__" = pure (some (.builtin "bytearray.__getattribute__")) := by rw [typeLookup_type, builtinLookup_eq_fast]; kernel_rfl
theorem lookup_gattr : typeLookup (.type "bytearray") "__getattr__" = pure none := by rw [typeLookup_type, builtinLookup_eq_fast]; kernel_rfl
theorem lookup_append : typeLookup (.type "bytearray") "append" = pure (some (.builtin "bytearray.append")) := by rw [typeLookup_type, builtinLookup_eq_fast]; kernel_rfl
theorem lookup_extend : typeLookup (.type "bytearray") "extend" = pure (some (.builtin "bytearray.extend")) := by rw [typeLookup_type, builtinLookup_eq_fast]; kernel_rfl
theorem sub_self : isSubtype (.type "bytearray") (.type "bytearray") = pure true := by rw [isSubtype_type]; kernel_rfl
theorem slot_init : Slot "bytearray" "__init__" "bytearray.__init__" :=
  .of (owner := "bytearray") (n := "__init__") (by rw [typeLookup_type, builtinLookup_eq_fast]; kernel_rfl) (by decide +kernel) (by decide +kernel) (by decide +kernel)
    (by first | exact .inl (by decide +kernel) | exact .inr (by decide +kernel)) (by rw [isSubtype_type]; kernel_rfl)
theorem slot_len : Slot "bytearray" "__len__" "bytearray.__len__" :=
  .of (owner := "bytearray") (n := "__len__") (by rw [typeLookup_type, builtinLookup_eq_fast]; kernel_rfl) (by decide +kernel) (by decide +kernel) (by decide +kernel)
    (by first | exact .inl (by decide +kernel) | exact .inr (by decide +kernel)) (by rw [isSubtype_type]; kernel_rfl)
theorem slot_getitem : Slot "bytearray" "__getitem__" "bytearray.__getitem__" :=
  .of (owner := "bytearray") (n := "__getitem__") (by rw [typeLookup_type, builtinLookup_eq_fast]; kernel_rfl) (by decide +kernel) (by decide +kernel) (by decide +kernel)
    (by first | exact .inl (by decide +kernel) | exact .inr (by decide +kernel)) (by rw [isSubtype_type]; kernel_rfl)
theorem called : TypeCalled "bytearray" "bytearray.__new__" "bytearray.__init__" :=
  ⟨by decide +kernel, by decide +kernel, ⟨_, _, mro⟩, madeBy_type mro lookup_new (by decide +kernel), by decide +kernel, sub_self, slot_init⟩
theorem typeCall : checkTypeCall "bytearray" ⟨[], []⟩ = pure () := by kernel_rfl
theorem newCall : checkBuiltinCall "bytearray.__new__" ⟨[.type "bytearray"], []⟩ = pure () := by kernel_rfl
theorem entry_new : entryFor table "bytearray.__new__" = some Builtin.«list.__new__» := entryFor_alias (id' := "list.__new__") (by kernel_rfl) (by kernel_rfl) (by kernel_rfl) (by kernel_rfl)
theorem entry_init : entryFor table "bytearray.__init__" = some Builtin.«bytearray.__init__» := by first | exact entryFor_of_fast (by kernel_rfl) | exact entryFor_of_tree (by kernel_rfl)
theorem entry_append : entryFor table "bytearray.append" = some Builtin.«bytearray.append» := by first | exact entryFor_of_fast (by kernel_rfl) | exact entryFor_of_tree (by kernel_rfl)
theorem entry_extend : entryFor table "bytearray.extend" = some Builtin.«bytearray.extend» := by first | exact entryFor_of_fast (by kernel_rfl) | exact entryFor_of_tree (by kernel_rfl)
theorem entry_len : entryFor table "bytearray.__len__" = some Builtin.«bytearray.__len__» := by first | exact entryFor_of_fast (by kernel_rfl) | exact entryFor_of_tree (by kernel_rfl)
theorem entry_getitem : entryFor table "bytearray.__getitem__" = some Builtin.«bytearray.__getitem__» := by first | exact entryFor_of_fast (by kernel_rfl) | exact entryFor_of_tree (by kernel_rfl)
theorem plain_new : plainId "bytearray.__new__" = true := by decide +kernel
theorem plain_append : plainId "bytearray.append" = true := by decide +kernel
theorem plain_extend : plainId "bytearray.extend" = true := by decide +kernel
theorem bind_opt : Builtin.Bytes.bindOptional "bytearray.__init__" "bytearray" ["source", "encoding", "errors"] [] [] = pure [none, none, none] := by kernel_rfl
theorem args_init (a : Value) : argsOk "bytearray.__init__" ⟨[a], []⟩ := by unfold argsOk; kernel_rfl
end BA

section
variable {w : World} {A : Around} {s : Shared}
theorem typeIs_ba {a : Addr} {b : List UInt8} (h : s.heap.get? a = some (baOf b)) : s.TypeIs (.ref a) "bytearray" := ⟨_, h, rfl⟩
theorem wG_if_false {α : Type} {c : Bool} {a b : Sem α} {Q : α → Shared → Prop} (hc : c = false) (h : wG w A b Q s) : wG w A (if c = true then a else b) Q s := by subst hc; exact h
theorem wG_if_true {α : Type} {c : Bool} {a b : Sem α} {Q : α → Shared → Prop} (hc : c = true) (h : wG w A a Q s) : wG w A (if c = true then a else b) Q s := by subst hc; exact h
theorem wG_eq {α : Type} {t : Sem α} {a : α} {Q : α → Shared → Prop} (e : t = pure a) (h : Q a s) : wG w A t Q s := by rw [e]; exact wG_pure h

theorem dno {c : Prop} [Decidable c] {a : c → Bool} {b : ¬c → Bool} (h1 : ¬ c) (h2 : ∀ h, b h = false) : dite c a b = false := by rw [dif_neg h1]; exact h2 h1
theorem con_ne {l : List String} {a x : String} (h : (!(a :: l).contains x) = true) : x ≠ a ∧ (!l.contains x) = true := by
  rw [List.contains_cons] at h
  cases e : (x == a) with
  | true => rw [e] at h; cases h
  | false => rw [e] at h; exact ⟨fun q => Bool.false_ne_true (e.symm.trans (by rw [q]; exact beq_self_eq_true a)), h⟩
theorem exported_no {c : Code} {p : Pos} {self : Value} (hc : bareCode c = true) : (match ((c, p) : Code × Pos) with
    | (.builtin "bytearray.__contains__" ⟨v :: _, _⟩, _) | (.builtin "bytearray.__mod__" ⟨v :: _, _⟩, _)
    | (.builtin "bytearray.__rmod__" ⟨_ :: v :: _, _⟩, _) | (.builtin "_struct.pack_into.held" ⟨v :: _, _⟩, _) => Builtin.Bytes.sameRef v self
    | (.builtin "bytearray.find.held" ⟨_ :: _ :: held, _⟩, _) => held.any (Builtin.Bytes.sameRef self)
    | (.builtin id ⟨v :: _, _⟩, _) => Builtin.Bytes.sameRef v self && Builtin.Bytes.decodersThatHold.contains id
    | _ => false) = false := by
  cases c with
  | builtin id args =>
    have a1 := con_ne hc
    have a2 := con_ne a1.2
    have a3 := con_ne a2.2
    have a4 := con_ne a3.2
    have a5 := con_ne a4.2
    unfold exported_no.match_1
    dsimp only [exported_no._sparseCasesOn_1]
    refine dno a1.1 fun _ => dno a2.1 fun _ => dno a3.1 fun _ => dno a4.1 fun _ => dno a5.1 fun _ => ?_
    obtain ⟨vs, kw⟩ := args
    cases vs with
    | nil => rfl
    | cons v vs => exact (congrArg _ (Bool.not_eq_true' _ ▸ a5.2 :)).trans (Bool.and_false _)
  | _ => rfl
theorem wG_exported {self : Value} {Q : Bool → Shared → Prop} (h : Q false s) : wG w A (Builtin.Bytes.exported self) Q s := fun Γ p hΓ h1 h2 => by
  have e : (((Γ.code, p) :: Γ.below).any fun
    | (.builtin "bytearray.__contains__" ⟨v :: _, _⟩, _) | (.builtin "bytearray.__mod__" ⟨v :: _, _⟩, _)
    | (.builtin "bytearray.__rmod__" ⟨_ :: v :: _, _⟩, _) | (.builtin "_struct.pack_into.held" ⟨v :: _, _⟩, _) => Builtin.Bytes.sameRef v self
    | (.builtin "bytearray.find.held" ⟨_ :: _ :: held, _⟩, _) => held.any (Builtin.Bytes.sameRef self)
    | (.builtin id ⟨v :: _, _⟩, _) => Builtin.Bytes.sameRef v self && Builtin.Bytes.decodersThatHold.contains id
    | _ => false) = false := by
    rw [List.any_eq_false]
    rintro ⟨c, q⟩ hx
    have hc : bareCode c = true := clean_enter h1 h2 _ hx
    rw [exported_no hc]
    exact Bool.false_ne_true
  exact (fun (b : Bool) (hb : b = false) => hb ▸ h : ∀ b, b = false → Q b s) _ e
end

/-! PQG2 -/

section
variable {w : World} {A : Around} {s : Shared} {env : Env}
theorem gx_assign1 {target value : Expr} {pos : Pos} {Q : Flow → Shared → Prop} (h : wG w A (eval value env) (fun v s₁ => wpAny (model pw w) A (assign target env v) (fun _ => Q .next) noE s₁) s)
    (hs : swapsWithSole [target] value pos.line env = pure false := by rfl) (hw : swappedStores [target] value env = pure none := by rfl)
    (ha : assignEach [target] env = [(false, assign target env)] := by rfl) :
    wG w A (exec (.Assign [target] value pos) env) Q s := by
  rw [exec_Assign]
  refine wG_bind (wG_at ?_)
  rw [hs]
  refine wG_bind (wG_pure ?_)
  rw [if_neg (by decide)]
  refine wG_bind (wG_mono h (fun v s₁ h₁ => ?_))
  rw [hw]
  refine wG_bind (wG_pure ?_)
  rw [ha]
  show wG w A (do assignAll v [assign target env]; pure .next) Q s₁
  exact wG_bind (wG_mono (wG_any h₁) (fun _ _ x => wG_pure x))
theorem gx_assign_swap {elts : List Expr} {k : Nat} {tpos : Pos} {value : Expr} {pos : Pos} {names : List Str} {Q : Flow → Shared → Prop}
    (h : wG w A (eval value env) (fun v s₁ => wpAny (model pw w) A (unpackItems v names.length none) (fun items s₂ =>
      wpAny (model pw w) A (assignInOrder (names.reverse.map fun n => bindName env n) items.reverse) (fun _ => Q .next) noE s₂) noE s₁) s)
    (hs : swapsWithSole [.Tuple elts k tpos] value pos.line env = pure false := by rfl)
    (hw : swappedStores [.Tuple elts k tpos] value env = pure (some names) := by rfl) :
    wG w A (exec (.Assign [.Tuple elts k tpos] value pos) env) Q s := by
  rw [exec_Assign]
  refine wG_bind (wG_at ?_)
  rw [hs]
  refine wG_bind (wG_pure ?_)
  rw [if_neg (by decide)]
  refine wG_bind (wG_mono h (fun v s₁ h₁ => ?_))
  rw [hw]
  refine wG_bind (wG_pure ?_)
  show wG w A (do rule "assign.swapped-stores"; let items ← unpackItems v names.length none; assignInOrder (names.reverse.map fun n => bindName env n) items.reverse; pure .next) Q s₁
  refine wG_bind (wG_any (wpAny_rule ?_))
  exact wG_bind (wG_any (wpAny_mono h₁ (fun items s₂ h₂ => wG_bind (wG_any (wpAny_mono h₂ (fun _ _ x => wG_pure x) fun _ _ x => x))) fun _ _ x => x))
theorem gx_try {body orelse : List Stmt} {h₀ : ExceptHandler} {hs : List ExceptHandler} {pos : Pos} {Q : Flow → Shared → Prop}
    (h : wG w A (execs body env) (fun f s₁ => match f with | .next => wG w A (execs orelse env) Q s₁ | f => Q f s₁) s) :
    wG w A (exec (.Try body (h₀ :: hs) orelse [] pos) env) Q s := by
  rw [arm_exec_Try]
  refine wG_bind (wG_at ?_)
  unfold tryStmt
  simp only [List.isEmpty_nil, if_true, List.isEmpty_cons, Bool.false_and, Bool.false_eq_true, if_false]
  refine wG_bind (wG_attempt (wG_mono h (fun f s₁ h₁ => ?_)))
  cases f <;> first | exact h₁ | exact wG_pure h₁
theorem ge_sub {value slice : Expr} {pos : Pos} {Q : Value → Shared → Prop}
    (h : wG w A (eval value env) (fun o s₁ => wpAny (model pw w) A (eval slice env) (fun i s₂ => wpAny (model pw w) A (subscriptTail value slice o i) Q noE s₂) noE s₁) s) :
    wG w A (eval (.Subscript value slice pos) env) Q s := by
  rw [eval_Subscript]
  exact wG_bind (wG_mono h (fun o s₁ h₁ => wG_bind (wG_holding (wG_any (wpAny_mono h₁ (fun i s₂ h₂ => wG_bind (wG_at (wG_any h₂))) fun _ _ x => x)))))
theorem ge_compare {l r : Expr} {op : CmpOp} {pos : Pos} {Q : Value → Shared → Prop}
    (h : wG w A (eval l env) (fun a s₁ => wpAny (model pw w) A (eval r env) (fun b s₂ => wpAny (model pw w) A (compareOp op a b) Q noE s₂) noE s₁) s)
    (hm : behindInMarks op r = false := by with_unfolding_all rfl) :
    wG w A (eval (.Compare l [op] [r] pos) env) Q s := by
  rw [eval_Compare1, markedBehindIn_of_false hm]
  refine wG_bind (wG_mono h (fun a s₁ h₁ => wG_bind (wG_holding (wG_any (wpAny_mono h₁ (fun b s₂ h₂ => wG_bind (wG_at (wG_operate (wG_any h₂)))) fun _ _ x => x)))))
theorem ge_and2 {a b : Expr} {pos : Pos} {Q : Value → Shared → Prop}
    (h : wG w A (eval a env) (fun v s₁ => wpAny (model pw w) A (truthy v) (fun t s₂ => if t then wG w A (eval b env) Q s₂ else Q v s₂) noE s₁) s) :
    wG w A (eval (.BoolOp .And [a, b] pos) env) Q s := by
  rw [arm_eval_BoolOp]
  show wG w A (do let v ← eval a env; standAt pos; let t ← holding [v] (truthy v); match BoolOp.And, t with | .And, false | .Or, true => pure v | _, _ => boolOp pos .And [eval b env]) Q s
  refine wG_bind (wG_mono h fun v s₁ h₁ => wG_bind (wG_at (wG_bind (wG_holding (wG_any (wpAny_mono h₁ (fun t s₂ h₂ => ?_) fun _ _ x => x))))))
  cases t with
  | false => exact wG_pure h₂
  | true => exact h₂

/-! loops -/
theorem cG_block {stmts : List Stmt} {R : Flow → Shared → Prop} (h : wG w A (execs stmts env) R s) : cG w A (.block stmts env) R s := by
  refine cG_tree rfl ?_
  show wG w A (do return Fin.done (← (execs stmts env).onRaise (fun x => do noteFrame x env; theTreesLotGoes x))) _ s
  exact wG_bind (wG_onRaise (wG_mono h (fun f s' h' => wG_pure h')))
theorem gx_for {target iter : Expr} {body orelse : List Stmt} {pos : Pos} {Q : Flow → Shared → Prop}
    (h : wG w A (eval iter env) (fun x s₁ => wpAny (model pw w) A (pyIter x) (fun it s₂ => cG w A (.forLoop target it body orelse env) Q s₂) noE s₁) s)
    (hs : ∀ x, foldedSetIterable iter env x = pure x := by intro _; rfl) :
    wG w A (exec (.For target iter body orelse pos) env) Q s := by
  rw [exec_For]
  refine wG_bind (wG_at (wG_bind (wG_mono h (fun x s₁ h₁ => wG_bind (wG_eq (hs x) (wG_bind (wG_at (wG_bind (wG_holding (wG_any (wpAny_mono h₁ (fun it s₂ h₂ => ?_) fun _ _ h' => h')))))))))))
  unfold runOwn
  exact wG_onRaise (wG_run h₂)
def loopG (w : World) (A : Around) (target : Expr) (it : Value) (body orelse : List Stmt) (env : Env) (R : Flow → Shared → Prop) (f : Flow) (s₃ : Shared) : Prop := match f with
  | .next | .cont => cG w A (.forLoop target it body orelse env) R s₃
  | .brk => R .next s₃
  | .ret v => R (.ret v) s₃
theorem cG_for {target : Expr} {it : Value} {body orelse : List Stmt} {R : Flow → Shared → Prop}
    (h : wpAny (model pw w) A (pyNext it) (fun r s₁ => match r with
      | none => wG w A (execs orelse env) R s₁
      | some v => wpAny (model pw w) A (assign target env v) (fun _ s₂ => wG w A (execs body env) (loopG w A target it body orelse env R) s₂) noE s₁) noE s)
    (ht : ∀ v, letOwnedTupleGo target it v = pure () := by intro _; rfl) : cG w A (.forLoop target it body orelse env) R s := by
  refine cG_tree rfl ?_
  show wG _ A ((forTurn target it body orelse env).onRaise (fun x => do noteFrame x env; theTreesLotGoes x)) _ s
  refine wG_onRaise ?_
  simp only [forTurn]
  refine wG_bind (wG_at (wG_bind (wG_onRaise (wG_any (wpAny_mono h (fun r s₁ h₁ => ?_) fun _ _ h' => h')))))
  cases r with
  | none => exact wG_pure ⟨rfl, cG_block h₁⟩
  | some v =>
    refine wG_bind (wG_eq (ht v) ?_)
    refine wG_bind (wG_any (wpAny_mono h₁ (fun _ s₂ h₂ => wG_bind (wG_mono h₂ (fun f s₃ h₃ => ?_))) fun _ _ h' => h'))
    cases f with
    | next => exact wG_pure ⟨rfl, h₃⟩
    | cont => exact wG_pure ⟨rfl, h₃⟩
    | brk => exact wG_pure h₃
    | ret v => exact wG_pure h₃
/-- one turn of a while -/
def whileG (w : World) (A : Around) (test : Expr) (body orelse : List Stmt) (env : Env) (R : Flow → Shared → Prop) (f : Flow) (s₃ : Shared) : Prop := match f with
  | .next | .cont => cG w A (.whileLoop test body orelse env) R s₃
  | .brk => R .next s₃
  | .ret v => R (.ret v) s₃
theorem cG_while1 {test : Expr} {body orelse : List Stmt} {R : Flow → Shared → Prop}
    (h : wpAny (model pw w) A (isTrue test env (eval test env)) (fun b s₂ =>
        if b then wG w A (execs body env) (whileG w A test body orelse env R) s₂
        else wG w A (execs orelse env) R s₂) noE s) : cG w A (.whileLoop test body orelse env) R s := by
  refine cG_tree rfl ?_
  show wG _ A ((whileTurn test body orelse env).onRaise (fun x => do noteFrame x env; theTreesLotGoes x)) _ s
  refine wG_onRaise ?_
  simp only [whileTurn]
  refine wG_bind (wG_any (wpAny_mono h (fun b s₂ h₂ => ?_) fun _ _ h' => h'))
  cases b with
  | false =>
    simp only [Bool.false_eq_true, if_false] at h₂ ⊢
    exact wG_bind (wG_mono h₂ (fun f s₃ h₃ => wG_pure h₃))
  | true =>
    simp only [if_true] at h₂ ⊢
    refine wG_bind (wG_mono h₂ (fun f s₃ h₃ => ?_))
    cases f with
    | next => exact wG_pure ⟨rfl, h₃⟩
    | cont => exact wG_pure ⟨rfl, h₃⟩
    | brk => exact wG_pure h₃
    | ret v => exact wG_pure h₃
end

/-! builtins -/
section
variable {w : World} {A : Around} {s : Shared}
theorem cG_builtin_at {id : String} {args : Args} {b : Builtin} {R : Flow → Shared → Prop} (hq : (Code.builtin id args).quiet = true) (hb : entryFor table id = some b) (h1 : bareCode (.builtin id args) = true)
    (h : wpAny (model pw w) A.in1 (checkBuiltinCall id args) (fun _ s₁ => wG w (A.under (.builtin id args)) (b args) (finG w A R) s₁) noE s) : cG w A (.call (.builtin id) args) R s := by
  refine cG_tree rfl ?_
  show wG w A.in1 (do checkBuiltinCall id args; again (.builtin id args)) _ s
  refine wG_bind (wG_any (wpAny_mono h (fun _ s₁ h₁ => wG_pure (And.intro hq (cG_tree h1 ?_))) fun _ _ h' => h'))
  show wG w _ (match entryFor table id with | some b => b args | none => unsupported ((withoutEnding? id "#data").getD id)) _ s₁
  rw [hb]; exact h₁
theorem cG_builtin {id : String} {args : Args} {b : Builtin} {R : Flow → Shared → Prop} (hq : plainId id = true) (hb : entryFor table id = some b) (h1 : bareCode (.builtin id args) = true)
    (h : wpAny (model pw w) A.in1 (checkBuiltinCall id args) (fun _ s₁ => wG w A.in1 (b args) (finG w A R) s₁) noE s) : cG w A (.call (.builtin id) args) R s :=
  cG_builtin_at (plainId_quiet hq args) hb h1 (by rw [Around.under_plainId hq args]; exact h)
end

/-! PQG3 -/

/-! types are called -/
def typeCallTail (cls : Value) (rest : List Value) (kw : List (Str × Value)) : Sem Fin := do
  if (← mroOf cls).isEmpty then rule "type.call.half-made"; raiseError "TypeError" s!"cannot create '{← typeName cls}' instances"
  let new ← match ← Bind.madeBy cls with
    | some id => pure (.builtin id)
    | none => getAttr cls "__new__"
  let obj ← holding [new] (call new (cls :: rest) kw)
  if !(← isInstance obj cls) then rule "type.call.new-gave-other-type"; return ← ret obj
  match ← holding [obj] (callSpecial? obj "__init__" rest kw) with
  | none => ret obj
  | some r =>
    if r != .none then
      rule "type.call.init-returned-value"
      raiseError "TypeError" s!"__init__() should return None, not '{← typeNameOf r}'"
    ret obj
theorem typeCall_ref (C : Addr) (rest : List Value) (kw : List (Str × Value)) : Builtin.«type.__call__» ⟨.ref C :: rest, kw⟩ = typeCallTail (.ref C) rest kw := by
  first | rfl | kernel_rfl
theorem typeCall_ba : Builtin.«type.__call__» ⟨[.type "bytearray"], []⟩ = (checkTypeCall "bytearray" ⟨[], []⟩ >>= fun _ => typeCallTail (.type "bytearray") [] []) := by
  first | rfl | kernel_rfl
section
variable {w : World} {A : Around} {s : Shared}
theorem wG_typeCallTail {cls : Value} {rest : List Value} {kw : List (Str × Value)} {c : Value} {l : List Value} {newId : String} {Q : Fin → Shared → Prop}
    (hm : Looks (model pw w) s.heap (mroOf cls) (c :: l)) (hmade : Looks (model pw w) s.heap (Bind.madeBy cls) (some newId))
    (hnew : wpAny (model pw w) A (call (.builtin newId) (cls :: rest) kw) (fun obj s₁ => ∃ init, Looks (model pw w) s₁.heap (isInstance obj cls) true ∧ Looks (model pw w) s₁.heap (specialOf obj "__init__") (some init) ∧
      Looks (model pw w) s₁.heap (bindSpecial init obj) (init, [obj]) ∧ wG w A (call init (obj :: rest) kw) (fun r s₂ => r = .none ∧ Q (.done (.ret obj)) s₂) s₁) noE s) :
    wG w A (typeCallTail cls rest kw) Q s := by
  unfold typeCallTail
  refine wG_bind (wG_any (hm.here ?_))
  refine wG_if_false (by rfl) ?_
  refine wG_bind (wG_any (hmade.here ?_))
  dsimp only
  refine wG_bind (wG_pure ?_)
  refine wG_bind (wG_holding (wG_any (wpAny_mono hnew (fun obj s₁ h₁ => ?_) fun _ _ x => x)))
  obtain ⟨init, l1, l2, l3, hc⟩ := h₁
  refine wG_bind (wG_any (l1.here ?_))
  refine wG_if_false (by rfl) ?_
  refine wG_bind (wG_holding ?_)
  unfold callSpecial?
  refine wG_bind (wG_any (l2.here ?_))
  dsimp only
  refine wG_holding (wG_bind (wG_any (l3.here ?_)))
  refine wG_bind (wG_mono hc fun r s₂ hr => ?_)
  obtain ⟨rfl, hr⟩ := hr
  refine wG_pure ?_
  dsimp only
  refine wG_if_false (by rfl) ?_
  exact wG_pure hr

theorem tc_looks {cls : Value} {rest : List Value} {kw : List (Str × Value)} (h : Looks (model pw w) s.heap (isInstance cls (.type "type")) true) {Q : Unit → Shared → Prop} (q : Q () s) :
    wpAny (model pw w) A (checkBuiltinCall "type.__call__" ⟨cls :: rest, kw⟩) Q noE s := check_slot tc_kind tc_split h (tc_args _ _ _) q

/-- an object of a class of the text's own is made -/
def InitG (x : Addr) (R : Flow → Shared → Prop) (f : Flow) (s' : Shared) : Prop := match f with
  | .ret v => v = .none ∧ R (.ret (.ref x)) s'
  | _ => False
theorem cG_make_core {C : Addr} {h : Heap} {g : Array GenState} {d : Drawn} {t : Nat} {os : OsState} {R : Flow → Shared → Prop} {rest : List Value} {kw : List (Str × Value)} {init : Value} (Y : Makes (model pw w) h C) (hi : Looks (model pw w) h (typeLookup (.ref C) "__init__") (some init))
    (hb : ∀ self, Looks (model pw w) h (bindSpecial init self) (init, [self])) (hne : (some init != some (Value.builtin "object.__init__")) = true ∨ (rest = [] ∧ kw = []))
    (hq : cG w (A.under (.builtin "type.__call__" ⟨.ref C :: rest, kw⟩)) (.call init ⟨.ref (h.objs.size + 1) :: rest, kw⟩) (InitG (h.objs.size + 1) R) ⟨(h.push emptyDict).push (instObj C h.objs.size), g, d, t, os⟩) :
    cG w A (.call (.ref C) ⟨rest, kw⟩) R ⟨h, g, d, t, os⟩ := by
  have Y' := Y
  obtain ⟨⟨oc, od, cd, sl, hC, e1, e2, e4⟩, made, base, self, top, call, typ⟩ := Y
  refine cG_tree rfl (wG_any ?_)
  show wpAny _ _ (callAny (.ref C) _) _ _ _
  refine nd_load hC ?_
  show wpAny _ _ (callAny.viaDunder (.ref C) _) _ _ _
  unfold callAny.viaDunder
  refine wpAny_bind (call.at ?_)
  dsimp only
  rw [tc_bind]
  refine wpAny_bind (wpAny_pure (wpAny_bind (wpAny_pure ?_)))
  refine wpAny_pure (a := Fin.again (.call (.builtin "type.__call__") ⟨.ref C :: rest, kw⟩)) (And.intro rfl ?_)
  refine cG_builtin_at (Code.quiet_builtin _ (by decide +kernel)) entry_typeCall (by rfl) (check_slot tc_kind tc_split typ (tc_args _ _ _) ?_)
  rw [typeCall_ref]
  have hm : Looks (model pw w) h (mroOf (.ref C)) cd.mro := ((Looks.ld (part := none) hC).andThen .now).andThen .now
  obtain ⟨c, l, hl⟩ : ∃ c l, cd.mro = c :: l := by cases q : cd.mro with | nil => rw [q] at e4; cases e4 | cons c l => exact ⟨c, l, rfl⟩
  rw [hl] at hm
  refine wG_typeCallTail hm made (wpAny_call (new_K Y' hi hne ?_))
  have k : ∀ b o, h.get? b = some o → ((h.push emptyDict).push (instObj C h.objs.size)).get? b = some o := fun b o e => Heap.get?_push_of_some _ (Heap.get?_push_of_some _ e)
  have hx : ((h.push emptyDict).push (instObj C h.objs.size)).get? (h.objs.size + 1) = some (instObj C h.objs.size) := by heap_get
  have t1 : Looks (model pw w) ((h.push emptyDict).push (instObj C h.objs.size)) (typeOf (.ref (h.objs.size + 1))) (.ref C) := (Looks.ld hx).andThen .now
  refine ⟨init, t1.andThen (self.keeps k), t1.andThen (hi.keeps k), (hb _).keeps k, wG_call (cG_mono hq fun f s' hf => ?_)⟩
  cases f with
  | ret v => exact ⟨hf.1, hf.2⟩
  | _ => exact hf.elim
theorem cG_make_K {C fI : Addr} {h₀ : Heap} {L : Addr} {m : Str → Option Value} {news : List (Addr × Obj)} {K : Frag} {R : Flow → Shared → Prop} {rest : List Value} {kw : List (Str × Value)} (F : Fr h₀ L s.heap m) (N : News h₀ L s.heap news) (X : K.In s.heap) (hm : makesIn K C = true)
    (hi : findIn K (.ref C) "__init__" = some (some (.ref fI))) (hf : typeIn K (.ref fI) = some (.type "function"))
    (h : ∀ x dx h', Fr h₀ L h' m → News h₀ L h' ((x, instObj C dx) :: (dx, emptyDict) :: news) → (∀ p ∈ news, p.1 < dx) → dx < x →
      cG w (A.under (.builtin "type.__call__" ⟨.ref C :: rest, kw⟩)) (.call (.ref fI) ⟨.ref x :: rest, kw⟩) (InitG x R) { s with heap := h' }) :
    cG w A (.call (.ref C) ⟨rest, kw⟩) R s := by
  obtain ⟨hh, g, d, t, os⟩ := s
  refine cG_make_core (makes_of X hm) (looks_findIn X hi) (fun self => bind_fn X self hf) (.inl rfl) (h _ hh.objs.size _ ((F.push _).push _) ?_ (fun p hp => Heap.lt_size (N p hp).1) (Nat.lt_succ_self _))
  have := (N.push F emptyDict).push (F.push _) (instObj C hh.objs.size)
  rwa [Heap.size_push] at this
end

/-! PQBA2 -/
theorem bare_b {id : String} {args : Args} (h : holders.contains id = false) : bareCode (.builtin id args) = true := by simp only [bareCode, h]; rfl
namespace BA
theorem slot_append : Slot "bytearray" "append" "bytearray.append" :=
  .of (owner := "bytearray") (n := "append") (by rw [typeLookup_type, builtinLookup_eq_fast]; kernel_rfl) (by decide +kernel) (by decide +kernel) (by decide +kernel)
    (by first | exact .inl (by decide +kernel) | exact .inr (by decide +kernel)) (by rw [isSubtype_type]; kernel_rfl)
theorem slot_extend : Slot "bytearray" "extend" "bytearray.extend" :=
  .of (owner := "bytearray") (n := "extend") (by rw [typeLookup_type, builtinLookup_eq_fast]; kernel_rfl) (by decide +kernel) (by decide +kernel) (by decide +kernel)
    (by first | exact .inl (by decide +kernel) | exact .inr (by decide +kernel)) (by rw [isSubtype_type]; kernel_rfl)
theorem args_append (a : Value) (b : Value) : argsOk "bytearray.append" ⟨[a, b], []⟩ := by unfold argsOk; kernel_rfl
theorem args_extend (a : Value) (b : Value) : argsOk "bytearray.extend" ⟨[a, b], []⟩ := by unfold argsOk; kernel_rfl
theorem args_len (a : Value) : argsOk "bytearray.__len__" ⟨[a], []⟩ := by unfold argsOk; kernel_rfl
theorem args_getitem (a : Value) (b : Value) : argsOk "bytearray.__getitem__" ⟨[a, b], []⟩ := by unfold argsOk; kernel_rfl
theorem lookup_bbuffer : typeLookup (.type "bytes") "__buffer__" = pure (some (.builtin "bytes.__buffer__")) := by rw [typeLookup_type, builtinLookup_eq_fast]; kernel_rfl
theorem lookup_brelease : typeLookup (.type "bytes") "__release_buffer__" = pure none := by rw [typeLookup_type, builtinLookup_eq_fast]; kernel_rfl
theorem ty_append : typeOf (.builtin "bytearray.append") = pure (.type "method_descriptor") := by show builtinType _ = _; rw [builtinType_eq_fast]; kernel_rfl
theorem ty_extend : typeOf (.builtin "bytearray.extend") = pure (.type "method_descriptor") := by show builtinType _ = _; rw [builtinType_eq_fast]; kernel_rfl
theorem plainAttrs : PlainAttrs "bytearray" := ⟨⟨_, lookup_ga, by decide +kernel⟩, lookup_gattr⟩
end BA

section
variable {w : World} {A : Around} {s : Shared}
theorem gcall_slot {T : String} {name : Str} {id : String} {b : Builtin} {self : Value} {rest : List Value} {Q : Value → Shared → Prop} (h : Slot T name id) (hT : s.TypeIs self T)
    (hb : entryFor table id = some b) (h1 : bareCode (.builtin id ⟨self :: rest, []⟩) = true) (ha : argsOk id ⟨self :: rest, []⟩)
    (hc : wG w A.in1 (b ⟨self :: rest, []⟩) (fun fin s' => ∃ v, fin = .done (.ret v) ∧ Q v s') s) :
    wG w A (call (.builtin id) (self :: rest)) Q s := by
  refine wG_call (cG_builtin h.plain hb h1 (h.check _ _ _ _ _ _ _ _ hT ha (wG_mono hc fun fin s' h' => ?_)))
  obtain ⟨v, rfl, hv⟩ := h'; exact hv
theorem wG_checkResize {a : Addr} {b : List UInt8} {Q : Unit → Shared → Prop} (ho : s.heap.get? a = some (baOf b)) (h : Q () s) : wG w A (Builtin.Bytes.checkResize (.ref a)) Q s := by
  unfold Builtin.Bytes.checkResize
  refine wG_bind (wG_bind (wG_exported ?_))
  show wG w A (Builtin.Bytes.exportsOf (.ref a) >>= fun n => pure (decide (n > 0))) _ _
  unfold Builtin.Bytes.exportsOf
  refine wG_bind (wG_bind (wG_any (wpAny_load ho ?_)))
  refine wG_pure (wG_pure ?_)
  exact wG_if_false (by rfl) (wG_pure h)
theorem wpAny_baWrite {a : Addr} {b : List UInt8} {f : Array UInt8 → Array UInt8} {c : List UInt8} {Q : Unit → Shared → Prop} (ho : s.heap.get? a = some (baOf b)) (hf : f b.toArray = c.toArray) (hc : c.length ≤ sizeLine)
    (h : ∀ h', Heap.SameBut a s.heap h' → h'.get? a = some (baOf c) → Q () { s with heap := h' }) : wpAny (model pw w) A (Builtin.Bytes.write (.ref a) f) Q noE s := by
  show wpAny _ _ (updateBytearray a f) _ _ _
  unfold updateBytearray
  refine wpAny_bind (wpAny_load ho ?_)
  show wpAny _ _ (update a (Obj.mapBytearray f) >>= fun _ => lookBehind a) _ _ _
  refine wpAny_bind (wpAny_update ho ?_)
  have hS₂ : (s.heap.update a (Obj.mapBytearray f)).get? a = some (baOf c) := by
    have := Heap.get?_update_self (Obj.mapBytearray f) ho rfl
    rw [this]
    show some ({ cls := .type "bytearray", data := .bytearray (f b.toArray) } : Obj) = _
    rw [hf]
  refine wpAny_lookBehind hS₂ ?_ (h _ (Heap.SameBut.update ..) hS₂)
  show (if c.toArray.size > sizeLine then some "bytearray:memory" else none) = none
  rw [if_neg]
  simp only [List.size_toArray]
  omega
theorem ba_append {a : Addr} {b : List UInt8} {c : Int} {t : Tok} {Q : Value → Shared → Prop} (ho : s.heap.get? a = some (baOf b)) (h0 : 0 ≤ c) (h1 : c < 256) (hz : b.length < 100000)
    (h : ∀ h', Heap.SameBut a s.heap h' → h'.get? a = some (baOf (b ++ [c.toNat.toUInt8])) → Q .none { s with heap := h' }) : wG w A (call (.builtin "bytearray.append") [.ref a, .int c t]) Q s := by
  refine gcall_slot BA.slot_append (typeIs_ba ho) BA.entry_append (bare_b (by decide +kernel)) (BA.args_append _ _) ?_
  show wG w A.in1 (Builtin.Bytes.byteValue (.int c t) >>= fun c => Builtin.Bytes.checkResize (.ref a) >>= fun _ => Builtin.Bytes.write (.ref a) (·.push c) >>= fun _ => ret .none) _ _
  refine wG_bind ?_
  unfold Builtin.Bytes.byteValue
  refine wG_bind (wG_eq (rfl : asIndex (.int c t) = pure c) ?_)
  refine wG_if_false (by simp only [Bool.or_eq_false_iff, decide_eq_false_iff_not]; omega) ?_
  refine wG_pure (wG_bind (wG_checkResize ho (wG_bind (wG_any (wpAny_baWrite (c := b ++ [c.toNat.toUInt8]) ho (by simp) (by simp [sizeLine]; omega) fun h' k1 k2 => ?_)))))
  exact wG_pure ⟨_, rfl, h h' k1 k2⟩
end
section
variable {w : World} {A : Around} {s : Shared} {h₀ : Heap} {L a : Addr} {m : Str → Option Value} {news news' : List (Addr × Obj)}
theorem ba_append_K {b : List UInt8} {c : Int} {t : Tok} {Q : Value → Shared → Prop} (F : Fr h₀ L s.heap m) (N : News h₀ L s.heap news) (U : Upd a (baOf b) (baOf (b ++ [c.toNat.toUInt8])) news news')
    (h0 : 0 ≤ c) (h1 : c < 256) (hz : b.length < 100000) (h : ∀ h', Fr h₀ L h' m → News h₀ L h' news' → Q .none { s with heap := h' }) :
    wG w A (call (.builtin "bytearray.append") [.ref a, .int c t]) Q s := by
  obtain ⟨pre, post, rfl, rfl, x, y⟩ := U.split
  have z := N (a, baOf b) (List.mem_append.mpr (.inr (.head _)))
  exact ba_append z.1 h0 h1 hz fun h' hs ho' => h h' (F.change hs z.2.1 z.2.2) (news_set N x y hs ho')
end

/-! PQBA3 -/
open Builtin.Bytes
namespace BA
theorem sp_b (b : Array UInt8) (t : Tok) (n : Str) : specialOf (.bytes b t) n = typeLookup (.type "bytes") n := by first | rfl | kernel_rfl
theorem own_b (b : Array UInt8) (t : Tok) : slotIsOwn (.bytes b t) "__buffer__" = pure true := by
  unfold slotIsOwn
  rw [sp_b]
  have : (Str.ofString "__buffer__") = ("__buffer__" : Str) := rfl
  show (typeLookup (.type "bytes") (Str.ofString "__buffer__") >>= _) = _
  rw [lookup_bbuffer]
  show (if (!("bytes.__buffer__".endsWith ("." ++ "__buffer__"))) = true then pure false else isInstance (.bytes b t) (.type ("bytes.__buffer__".dropRight ("__buffer__".length + 1)))) = _
  rw [show ("bytes.__buffer__".endsWith ("." ++ "__buffer__")) = true by decide +kernel, show "bytes.__buffer__".dropRight ("__buffer__".length + 1) = "bytes" by decide +kernel]
  show isSubtype (.type "bytes") (.type "bytes") = _
  exact F.bm_sub
theorem own_r (b : Array UInt8) (t : Tok) : ownRelease (.bytes b t) = pure false := by
  unfold ownRelease slotIsOwn
  rw [sp_b]
  show ((typeLookup (.type "bytes") (Str.ofString "__release_buffer__") >>= _) >>= _) = _
  rw [lookup_brelease]
  rfl
theorem buffer_b (id : String) (b : Array UInt8) (t : Tok) : buffer? id (.bytes b t) false = pure (some b) := by
  unfold buffer?
  rw [sp_b, own_b, own_r]
  show (typeLookup (.type "bytes") (Str.ofString "__buffer__") >>= _) = _
  rw [lookup_bbuffer]
  rfl
theorem takeBuf (id : String) (b : Array UInt8) (t : Tok) : takeBufferQuiet? id (.bytes b t) 0 = pure (some (b, none)) := by
  unfold takeBufferQuiet? takeBuffer?
  rw [sp_b, own_b]
  show ((typeLookup (.type "bytes") (Str.ofString "__buffer__") >>= _).attempt >>= _) = _
  rw [lookup_bbuffer]
  show (((buffer? id (.bytes b t) false >>= _)).attempt >>= _) = _
  rw [buffer_b]
  rfl

theorem owner_new : ("bytearray.__new__".splitOn ".__new__").headD "" = "bytearray" := by simp +decide [String.splitOn, String.splitOnAux]
theorem code_new {w : World} {A : Around} {s : Shared} {Q₁ : Value → Shared → Prop}
    (h : Q₁ (.ref s.heap.objs.size) { s with heap := s.heap.push (baOf []) }) :
    codeAny (model pw w) A (.call (.builtin "bytearray.__new__") ⟨[.type "bytearray"], []⟩) (wants Q₁ noE) s := by
  refine codeAny_of_tree ?_
  show wpAny _ A.in1 (do checkBuiltinCall "bytearray.__new__" ⟨[.type "bytearray"], []⟩; again (.builtin "bytearray.__new__" ⟨[.type "bytearray"], []⟩)) _ _ s
  refine wpAny_bind (wpAny_of_eq newCall (wpAny_pure ⟨plainId_quiet plain_new _, codeAny_builtin_stack entry_new rfl fun p st => ?_⟩))
  rw [Around.under_plainId plain_new _]
  have hsub := sub_self
  have hown := owner_new
  obtain ⟨hp, g, d, tk, os⟩ := s
  simp only [hown]
  wp_walk
  exact h
end BA
section
variable {w : World} {A : Around} {s : Shared}
theorem cG_builtin_direct {id : String} {args : Args} {b : Builtin} {R : Flow → Shared → Prop} (hb : entryFor table id = some b) (h1 : bareCode (.builtin id args) = true)
    (h : wG w (A.under (.builtin id args)) (b args) (finG w A R) s) : cG w A (.builtin id args) R s := by
  refine cG_tree h1 ?_
  show wG w _ (match entryFor table id with | some b => b args | none => unsupported ((withoutEnding? id "#data").getD id)) _ s
  rw [hb]; exact h
theorem own_ba {a : Addr} {b : List UInt8} (ho : s.heap.get? a = some (baOf b)) : Looks (model pw w) s.heap (slotIsOwn (.ref a) "__release_buffer__") true := by
  intro A Q E s' k q
  unfold slotIsOwn
  refine wpAny_bind (wpAny_specialOf (T := "bytearray") ⟨_, k _ _ ho, rfl⟩ BA.lookup_release ?_)
  show wpAny _ _ (if (!("bytearray.__release_buffer__".endsWith ("." ++ "__release_buffer__"))) = true then pure false else isInstance (.ref a) (.type ("bytearray.__release_buffer__".dropRight ("__release_buffer__".length + 1)))) _ _ _
  rw [show ("bytearray.__release_buffer__".endsWith ("." ++ "__release_buffer__")) = true by decide +kernel, show "bytearray.__release_buffer__".dropRight ("__release_buffer__".length + 1) = "bytearray" by decide +kernel]
  exact wpAny_isInstance (T := "bytearray") ⟨_, k _ _ ho, rfl⟩ BA.sub_self q
theorem ba_init {a : Addr} {Q : Value → Shared → Prop} (ho : s.heap.get? a = some (baOf [])) (h : ∀ h', Heap.SameBut a s.heap h' → h'.get? a = some (baOf []) → Q .none { s with heap := h' }) :
    wG w A (call (.builtin "bytearray.__init__") [.ref a]) Q s := by
  refine gcall_slot BA.slot_init (typeIs_ba ho) BA.entry_init (bare_b (by decide +kernel)) (BA.args_init _) ?_
  unfold Builtin.«bytearray.__init__» ownRelease
  refine wG_bind (wG_bind (wG_any ((own_ba ho).here ?_)))
  refine wG_pure ?_
  refine wG_if_false (by rfl) ?_
  refine wG_bind (wG_eq BA.bind_opt ?_)
  refine wG_bind (wG_eq (a := ()) rfl ?_)
  refine wG_bind (wG_eq (a := ()) rfl ?_)
  refine wG_bind (wG_bind (wG_exported ?_))
  show wG w _ (Builtin.Bytes.exportsOf (.ref a) >>= fun n => pure (decide (n > 0))) _ _
  unfold Builtin.Bytes.exportsOf
  refine wG_bind (wG_bind (wG_any (wpAny_load ho ?_)))
  refine wG_pure (wG_pure ?_)
  refine wG_if_false (by rfl) ?_
  refine wG_bind (wG_any (wpAny_baWrite (c := []) ho rfl (Nat.zero_le _) fun h' k1 k2 => ?_))
  exact wG_pure ⟨_, rfl, h h' k1 k2⟩
theorem ba_new {Q : Value → Shared → Prop} (h : ∀ h', Heap.ExtBut s.heap.objs.size s.heap h' → h'.get? s.heap.objs.size = some (baOf []) → Q (.ref s.heap.objs.size) { s with heap := h' }) :
    wG w A (call (.type "bytearray") []) Q s := by
  refine wG_call (cG_tree rfl ?_)
  show wG _ _ (callAny (.type "bytearray") _) _ _
  refine wG_pure ⟨Code.quiet_builtin _ (by decide +kernel), cG_builtin_direct F.entry_type_call (bare_b (by decide +kernel)) ?_⟩
  rw [typeCall_ba]
  refine wG_bind (wG_eq BA.typeCall ?_)
  refine wG_typeCallTail (Looks.of_pure BA.mro) (Looks.of_pure BA.called.made) (wpAny_call (codeAny_mono (BA.code_new (Q₁ := fun v s₁ => v = .ref s.heap.objs.size ∧ s₁ = { s with heap := s.heap.push (baOf []) }) ⟨rfl, rfl⟩) fun r s₁ hr => ?_))
  cases r with
  | error e => exact hr
  | ok f => cases f with
    | ret v =>
      obtain ⟨rfl, rfl⟩ := hr
      have ho : (s.heap.push (baOf [])).get? s.heap.objs.size = some (baOf []) := Heap.get?_push_size _ rfl
      refine ⟨_, fun A Q E s' k q => wpAny_isInstance (T := "bytearray") ⟨_, k _ _ ho, rfl⟩ BA.sub_self q, fun A Q E s' k q => wpAny_specialOf (T := "bytearray") ⟨_, k _ _ ho, rfl⟩ BA.slot_init.lookup q, Looks.of_pure (BA.slot_init.bind _), ?_⟩
      refine ba_init ho fun h' k1 k2 => ⟨rfl, ?_⟩
      exact h h' (fun b o hb e => (k1.2 b hb).trans (Heap.get?_push_of_some _ e)) k2
    | _ => exact hr.elim
end

/-! PQBA4 -/
open Builtin.Bytes
section
variable {w : World} {A : Around} {s : Shared} {h₀ : Heap} {L a : Addr} {m : Str → Option Value} {news news' : List (Addr × Obj)}
theorem ba_new_K {Q : Value → Shared → Prop} (F : Fr h₀ L s.heap m) (N : News h₀ L s.heap news) (h : ∀ a h', Fr h₀ L h' m → News h₀ L h' ((a, baOf []) :: news) → (∀ p ∈ news, p.1 < a) → Q (.ref a) { s with heap := h' }) :
    wG w A (call (.type "bytearray") []) Q s := by
  refine ba_new fun h' he ho => h _ h' (F.extBut he (Nat.le_refl _)) (fun p hp => ?_) fun p hp => Heap.lt_size (N p hp).1
  rcases List.mem_cons.mp hp with rfl | hp
  · exact ⟨ho, ((N.push F (baOf [])) _ (.head _)).2⟩
  · exact (N.extBut he (Nat.le_refl _)) p hp
theorem ba_extend {b : List UInt8} {c : List UInt8} {t : Tok} {Q : Value → Shared → Prop} (ho : s.heap.get? a = some (baOf b)) (hz : b.length + c.length ≤ 1000000)
    (h : ∀ h', Heap.SameBut a s.heap h' → h'.get? a = some (baOf (b ++ c)) → Q .none { s with heap := h' }) : wG w A (call (.builtin "bytearray.extend") [.ref a, .bytes c.toArray t]) Q s := by
  refine gcall_slot BA.slot_extend (typeIs_ba ho) BA.entry_extend (bare_b (by decide +kernel)) (BA.args_extend _ _) ?_
  unfold Builtin.«bytearray.extend»
  refine wG_bind (wG_eq (a := (Value.ref a, Value.bytes c.toArray t)) rfl ?_)
  dsimp only
  refine wG_bind (wG_eq ((BA.sp_b _ _ _).trans BA.lookup_bbuffer) ?_)
  refine wG_if_true rfl ?_
  refine wG_bind (wG_any (wpAny_rule ?_))
  refine wG_bind ?_
  unfold payload payload?
  refine wG_bind (wG_bind (wG_any (wpAny_load ho (wG_pure (wG_pure ?_)))))
  refine wG_bind (wG_eq (BA.takeBuf _ _ _) ?_)
  refine wG_if_true rfl ?_
  have go : wG w A.in1 (Builtin.Bytes.write (.ref a) (· ++ c.toArray) >>= fun _ => ret .none) (fun fin s' => ∃ v, fin = .done (.ret v) ∧ Q v s') s :=
    wG_bind (wG_any (wpAny_baWrite (c := b ++ c) ho (by simp) (by simp [sizeLine]; omega) fun h' k1 k2 => wG_pure ⟨_, rfl, h h' k1 k2⟩))
  by_cases hc : c.toArray.isEmpty = true
  · show wG w A.in1 (have jp := fun (_ : Unit) => Builtin.Bytes.write (.ref a) (· ++ c.toArray) >>= fun _ => ret .none; if (!c.toArray.isEmpty) = true then Builtin.Bytes.checkResize (.ref a) >>= fun r => jp r else jp ()) _ _
    exact wG_if_false (by rw [hc]; rfl) go
  · show wG w A.in1 (have jp := fun (_ : Unit) => Builtin.Bytes.write (.ref a) (· ++ c.toArray) >>= fun _ => ret .none; if (!c.toArray.isEmpty) = true then Builtin.Bytes.checkResize (.ref a) >>= fun r => jp r else jp ()) _ _
    exact wG_if_true (by simpa using hc) (wG_bind (wG_checkResize ho go))
theorem ba_extend_K {b c : List UInt8} {t : Tok} {Q : Value → Shared → Prop} (F : Fr h₀ L s.heap m) (N : News h₀ L s.heap news) (U : Upd a (baOf b) (baOf (b ++ c)) news news')
    (hz : b.length + c.length ≤ 1000000) (h : ∀ h', Fr h₀ L h' m → News h₀ L h' news' → Q .none { s with heap := h' }) :
    wG w A (call (.builtin "bytearray.extend") [.ref a, .bytes c.toArray t]) Q s := by
  obtain ⟨pre, post, rfl, rfl, x, y⟩ := U.split
  have z := N (a, baOf b) (List.mem_append.mpr (.inr (.head _)))
  exact ba_extend z.1 hz fun h' hs ho' => h h' (F.change hs z.2.1 z.2.2) (news_set N x y hs ho')
theorem ba_len {b : List UInt8} {E : Value → Shared → Prop} {Q : Value → Shared → Prop} (N : News h₀ L s.heap news) (hm : (a, baOf b) ∈ news) (hz : b.length ≤ 1000000) (h : ∀ t k, Q (.int b.length t) { s with toks := k }) :
    wpAny (model pw w) A (call (.builtin "len") [.ref a]) Q E s := by
  have ho := (N _ hm).1
  refine call_len_slot (n := b.length) (typeIs_ba ho) BA.slot_len (fun Q' q => ?_) (by omega) (by omega) (h _ _)
  refine wpAny_call_entry BA.slot_len (typeIs_ba ho) BA.entry_len ?_ (BA.args_len _)
  show wpAny _ _ (payload (.ref a) >>= _) _ _ _
  refine wpAny_bind ?_
  unfold payload payload?
  refine wpAny_bind (wpAny_bind (wpAny_load ho (wpAny_pure (wpAny_pure ?_))))
  refine wpAny_bind (wpAny_mkInt (wpAny_pure ⟨_, rfl, ?_⟩))
  simpa using q
theorem ba_bytes {b : List UInt8} {Q : Value → Shared → Prop} (N : News h₀ L s.heap news) (hm : (a, baOf b) ∈ news) (hz : b.length ≤ 1000000) (h : ∀ t k, Q (.bytes b.toArray t) { s with toks := k }) :
    wpAny (model pw w) A (call (.type "bytes") [.ref a]) Q noE s := by
  have ho := (N _ hm).1
  have hT : s.TypeIs (.ref a) "bytearray" := typeIs_ba ho
  refine callType_codes (Q₁ := fun obj s₁ => s₁.TypeIs obj "bytes" ∧ Q obj s₁) F.bm_called (F.bm_typeCall _) F.entry_object_init ?_ fun obj s₁ h₁ =>
    ⟨h₁.1, F.args_object_init_2 obj _, object_init_meets F.bm_called.init.lookup F.bm_called.made (by decide) pw w A.in1 _ s₁ ⟨h₁.1, rfl, h₁.2⟩⟩
  refine codeAny_of_tree ?_
  show wpAny _ A.in1.in1 (do checkBuiltinCall "bytes.__new__" ⟨[.type "bytes", .ref a], []⟩; again (.builtin "bytes.__new__" ⟨[.type "bytes", .ref a], []⟩)) _ _ s
  refine wpAny_bind (wpAny_of_eq (F.bm_newCall _) (wpAny_pure ⟨plainId_quiet F.bm_plain _, codeAny_builtin F.bm_entry ?_⟩))
  rw [Around.under_plainId F.bm_plain _]
  unfold Builtin.«bytes.__new__»
  refine wpAny_bind (wpAny_of_eq (a := true) rfl ?_)
  refine bm_if_false rfl ?_
  refine wpAny_bind (wpAny_of_eq F.bm_sub ?_)
  refine bm_if_false rfl ?_
  refine wpAny_bind (wpAny_of_eq (F.bm_bind _) ?_)
  refine wpAny_bind (wpAny_of_eq (a := ()) rfl ?_)
  refine wpAny_bind (wpAny_of_eq (a := ()) rfl ?_)
  refine bm_if_false rfl ?_
  refine wpAny_bind (wpAny_specialOf hT BA.lookup_bytes ?_)
  refine wpAny_bind (wpAny_bind ?_)
  show wpAny _ _ (load a >>= _) _ _ _
  refine wpAny_bind (wpAny_load ho ?_)
  refine wpAny_pure (wpAny_pure ?_)
  refine bm_if_false rfl ?_
  refine wpAny_bind (wpAny_specialOf hT BA.lookup_index ?_)
  refine bm_if_true rfl ?_
  first
    | show wpAny _ _ (Builtin.Bytes.buffer? "bytes.__new__" (.ref a) true >>= _) _ _ _
    | (refine wpAny_bind ?_; show wpAny _ _ (Builtin.Bytes.buffer? "bytes.__new__" (.ref a) true >>= _) _ _ _)
  have own : Looks (model pw w) s.heap (slotIsOwn (.ref a) "__buffer__") true := by
    intro A Q E s' k q
    unfold slotIsOwn
    refine wpAny_bind (wpAny_specialOf (T := "bytearray") ⟨_, k _ _ ho, rfl⟩ BA.lookup_buffer ?_)
    show wpAny _ _ (if (!("bytearray.__buffer__".endsWith ("." ++ "__buffer__"))) = true then pure false else isInstance (.ref a) (.type ("bytearray.__buffer__".dropRight ("__buffer__".length + 1)))) _ _ _
    rw [show ("bytearray.__buffer__".endsWith ("." ++ "__buffer__")) = true by decide +kernel, show "bytearray.__buffer__".dropRight ("__buffer__".length + 1) = "bytearray" by decide +kernel]
    exact wpAny_isInstance (T := "bytearray") ⟨_, k _ _ ho, rfl⟩ BA.sub_self q
  refine wpAny_bind ?_
  unfold Builtin.Bytes.buffer?
  refine wpAny_bind (wpAny_specialOf hT BA.lookup_buffer ?_)
  refine wpAny_bind (own.here ?_)
  refine bm_if_false rfl ?_
  refine wpAny_bind (wpAny_specialOf hT BA.lookup_buffer ?_)
  unfold ownRelease
  refine wpAny_bind (wpAny_bind ((own_ba ho).here (wpAny_pure ?_)))
  refine bm_if_false rfl ?_
  refine wpAny_bind ?_
  unfold payload payload?
  refine wpAny_bind (wpAny_bind (wpAny_load ho (wpAny_pure (wpAny_pure (wpAny_pure ?_)))))
  refine wpAny_bind (wpAny_rule ?_)
  refine wpAny_bind (wpAny_mkBytes ?_ (by simp [sizeLine]; omega))
  show wpAny _ _ (if (Value.type "bytes" == Value.type "bytes") = true then _ else _) _ _ _
  refine bm_if_true (by decide) ?_
  first
    | exact wpAny_pure ⟨PySem.W.typeIs_bytes _ _ _, h _ _⟩
    | exact wpAny_bind (wpAny_pure (wpAny_pure ⟨PySem.W.typeIs_bytes _ _ _, h _ _⟩))
theorem ba_rev {b : List UInt8} {value slice : Expr} {t : Tok} {ops : List Value} {Q : Value → Shared → Prop} (F : Fr h₀ L s.heap m) (N : News h₀ L s.heap news) (hm : (a, baOf b) ∈ news) (hz : b.length ≤ 1000000)
    (h : ∀ D h', Fr h₀ L h' m → News h₀ L h' ((D, baOf b.reverse) :: news) → (∀ p ∈ news, p.1 < D) → Q (.ref D) { s with heap := h' })
    (hs : subscripted slice false (.ref a) (.ref s.heap.objs.size) = operate ops (getItem (.ref a) (.ref s.heap.objs.size))) (ht : ∀ r, letTemporaryGo value (.ref a) r = pure ()) :
    wpAny (model pw w) A (subscriptTail value slice (.ref a) (.ref s.heap.objs.size)) Q noE { s with heap := s.heap.push { cls := .type "slice", data := .fields #[.none, .none, .int (-1) t] } } := by
  have ho : (s.heap.push { cls := .type "slice", data := .fields #[.none, .none, .int (-1) t] }).get? a = some (baOf b) := Heap.get?_push_of_some _ (N _ hm).1
  have hsl : (s.heap.push { cls := .type "slice", data := .fields #[.none, .none, .int (-1) t] }).get? s.heap.objs.size = some { cls := .type "slice", data := .fields #[.none, .none, .int (-1) t] } := Heap.get?_push_size _ rfl
  have hT : ({ s with heap := s.heap.push { cls := .type "slice", data := .fields #[.none, .none, .int (-1) t] } } : Shared).TypeIs (.ref a) "bytearray" := typeIs_ba ho
  have hTs : ({ s with heap := s.heap.push { cls := .type "slice", data := .fields #[.none, .none, .int (-1) t] } } : Shared).TypeIs (.ref s.heap.objs.size) "slice" := ⟨_, hsl, rfl⟩
  have gi : wpAny (model pw w) A (getItem (.ref a) (.ref s.heap.objs.size)) Q noE { s with heap := s.heap.push { cls := .type "slice", data := .fields #[.none, .none, .int (-1) t] } } := by
    refine wpAny_getItem_slot hT (by decide) BA.slot_getitem (wpAny_call_entry BA.slot_getitem hT BA.entry_getitem ?_ (BA.args_getitem _ _))
    show wpAny _ _ (subscript? (.ref s.heap.objs.size) >>= _) _ _ _
    refine wpAny_bind ?_
    unfold subscript?
    refine wpAny_bind (wpAny_specialOf hTs slice_no_index (wpAny_pure ?_))
    refine wpAny_bind (wpAny_typeOf hTs ?_)
    refine bm_if_false rfl ?_
    refine wpAny_bind ?_
    unfold sliceParts
    refine wpAny_bind (wpAny_field (x := .int (-1) t) hsl rfl rfl ?_)
    open KBy in kby_int
    refine bm_if_false rfl ?_
    refine wpAny_bind (wpAny_field (x := .none) hsl rfl rfl ?_)
    kby_none
    refine wpAny_bind (wpAny_field (x := .none) hsl rfl rfl ?_)
    kby_none
    refine wpAny_pure ?_
    refine wpAny_bind ?_
    unfold payload payload?
    refine wpAny_bind (wpAny_bind (wpAny_load ho (wpAny_pure (wpAny_pure ?_))))
    refine wpAny_bind (wpAny_of_eq (sliceIndices_raw none none (some (-1)) b.toArray.size (fun e => nomatch e)) ?_)
    rw [krv_bounds]
    dsimp only
    have e : sliced b.toArray ((b.toArray.size : Int) - 1) (-1) (-1) = b.reverse.toArray := by
      unfold sliced
      rw [krv_sliceRange, krv_range, List.filterMap_reverse, krv_all]
    unfold newBytearray
    refine wpAny_bind (wpAny_newObj_type ?_ (by rw [e]; show b.reverse.toArray.size ≤ sizeLine; simp [sizeLine]; omega))
    refine wpAny_pure ⟨_, rfl, ?_⟩
    rw [e]
    have N1 := News.push (F.push { cls := .type "slice", data := .fields #[.none, .none, .int (-1) t] }) (N.grown fun _ _ e => Heap.get?_push_of_some _ e) (baOf b.reverse)
    have := h _ _ ((F.push _).push _) N1 fun p hp => by rw [Heap.size_push]; exact Nat.lt_succ_of_lt (Heap.lt_size (N p hp).1)
    exact this
  exact subscriptTail_ops hT BA.slot_getitem.lookup gi hs ht
end

/-! PQG4 -/
/-- what a flow hands on -/
def LvG (R : Flow → Shared → Prop) (r : Result) (s' : Shared) : Prop := match r with | .ok f => R f s' | .error _ => False
abbrev atA (dp un : Nat) (gd : Option (List Code)) (env : Env) (outer : List Env) : Around := { handled := none, depth := dp, frames := some (env :: outer), guards := gd, units := un }
theorem cG_inline {w : World} {name qual : Str} {params : Arguments} {body : List Stmt} {scope : Scope} {dV kV doc pm cdv ct oc : Value} {an od : Option Addr} {osl : Array (Option Value)} {f : Addr} {vs : List Value} {binds : List (Str × Value)}
    {dp un : Nat} {gd : Option (List Code)} {env : Env} {outer : List Env} {A₀ : Around} {base h₀ : Heap} {L : Addr} {m : Str → Option Value} {mean : ExcName → Option Value} {mg mb : Str → Option Value} {s : Shared} {R : Flow → Shared → Prop} {news : List (Addr × Obj)}
    (B : Below A₀ base outer h₀) (F : Fr h₀ L s.heap m) (X : (hd.heap_1 w.params).In h₀) (T : TopM mean mg mb h₀) (N : News h₀ L s.heap news) (hf : env.frame = some L) (hke : env.scope.kind = .function) (hroom : dp < recursionLimit)
    (ho : (hd.heap_1 w.params).lookup f = some ⟨oc, od, .func (fnOf name qual params body scope dV kV doc pm an cdv ct), osl⟩) (hcd : codeIn (hd.heap_1 w.params) cdv qual = true)
    (hbind : (hd.heap_1 w.params).In s.heap → BindsTo s (fnOf name qual params body scope dV kV doc pm an cdv ct) ⟨vs, []⟩ binds) (hloc : ∀ y ∈ binds, scope.names.lookup y.1 = some .local)
    (h : ∀ g L' h₁, Fr h₀ L g m → Fr g L' h₁ (fun y => binds.reverse.lookup y) → News g L' h₁ news → Below (atA dp un gd env outer) base (env :: outer) g → (hd.heap_1 w.params).In g → TopM mean mg mb g →
      ∀ (P : Value → Shared → Prop) (tk : Nat), (∀ v s', LeaveK h₀ L m g (LvG R) v s' → P v s') →
      wG w (atA (dp + 1) (un + 3) gd (envOf qual scope L' f cdv) (env :: outer)) (execs body (envOf qual scope L' f cdv))
        (fun fl s' => P (match fl with | .ret v => v | _ => .none) s')
        ⟨h₁, s.gens, s.drawn, tk, s.os⟩)
    (hco : scope.isCoroutine = false) (hgen : scope.isGenerator = false) (hk : scope.kind = .function) (hcell : ∀ x ∈ scope.names, x.2 ≠ .cell) :
    cG w (atA dp un gd env outer) (.call (.ref f) ⟨vs, []⟩) R s := by
  have XS : (hd.heap_1 w.params).In s.heap := Frag.In.keeps X F.keep
  obtain ⟨FG, BG, st, lv⟩ := groundX (A := atA dp un gd env outer) (R := LvG R) B F N rfl hf hke
  refine cG_call_def (fd := fnX name qual params body scope [] dV kV doc pm an cdv ct) (body := body) (binds := binds) hroom (XS _ _ ho) rfl (T.nolimit.keeps F.keep) (codeRec_of XS hcd) rfl (hbind XS) hcell hloc (fun h₁ hns hk₁ => ?_) hco hgen hk
  have sub : ∀ b o, (hideAll s.heap (news.map (·.1))).get? b = some o → h₁.get? b = some o := fun b o e => hk₁ b o (of_hideAll _ e)
  refine wG_mono (h _ s.heap.objs.size h₁ FG ⟨hns, sub, Nat.le_of_eq (hideAll_size _ _)⟩
    (fun p hp => ⟨hk₁ _ _ (N p hp).1, Nat.ne_of_lt (Heap.lt_size (N p hp).1), hideAll_none _ (List.mem_map_of_mem hp)⟩) BG (X.keeps st) (T.keeps st) _ (s.toks + binds.length) fun v s' hl => lv v s' hl) (fun fl s' hl => hl)
theorem gcall_inline {w : World} {name qual : Str} {params : Arguments} {body : List Stmt} {scope : Scope} {dV kV doc pm cdv ct oc : Value} {an od : Option Addr} {osl : Array (Option Value)} {f : Addr} {vs : List Value} {binds : List (Str × Value)}
    {dp un : Nat} {gd : Option (List Code)} {env : Env} {outer : List Env} {A₀ : Around} {base h₀ : Heap} {L : Addr} {m : Str → Option Value} {mean : ExcName → Option Value} {mg mb : Str → Option Value} {s : Shared} {Q : Value → Shared → Prop} {news : List (Addr × Obj)}
    (B : Below A₀ base outer h₀) (F : Fr h₀ L s.heap m) (X : (hd.heap_1 w.params).In h₀) (T : TopM mean mg mb h₀) (N : News h₀ L s.heap news) (hf : env.frame = some L) (hke : env.scope.kind = .function) (hroom : dp < recursionLimit)
    (ho : (hd.heap_1 w.params).lookup f = some ⟨oc, od, .func (fnOf name qual params body scope dV kV doc pm an cdv ct), osl⟩) (hcd : codeIn (hd.heap_1 w.params) cdv qual = true)
    (hbind : (hd.heap_1 w.params).In s.heap → BindsTo s (fnOf name qual params body scope dV kV doc pm an cdv ct) ⟨vs, []⟩ binds) (hloc : ∀ y ∈ binds, scope.names.lookup y.1 = some .local)
    (h : ∀ g L' h₁, Fr h₀ L g m → Fr g L' h₁ (fun y => binds.reverse.lookup y) → News g L' h₁ news → Below (atA dp un gd env outer) base (env :: outer) g → (hd.heap_1 w.params).In g → TopM mean mg mb g →
      ∀ (P : Value → Shared → Prop) (tk : Nat), (∀ v s', LeaveK h₀ L m g (LvG fun f s' => match f with | .ret v => Q v s' | _ => False) v s' → P v s') →
      wG w (atA (dp + 1) (un + 3) gd (envOf qual scope L' f cdv) (env :: outer)) (execs body (envOf qual scope L' f cdv))
        (fun fl s' => P (match fl with | .ret v => v | _ => .none) s')
        ⟨h₁, s.gens, s.drawn, tk, s.os⟩)
    (hco : scope.isCoroutine = false) (hgen : scope.isGenerator = false) (hk : scope.kind = .function) (hcell : ∀ x ∈ scope.names, x.2 ≠ .cell) :
    wG w (atA dp un gd env outer) (call (.ref f) vs) Q s := wG_call (cG_inline B F X T N hf hke hroom ho hcd hbind hloc h hco hgen hk hcell)
/-- an own class is called: its __init__ inline -/
theorem gcall_make {w : World} {C fI : Addr} {vs : List Value} 
    {dp un : Nat} {gd : Option (List Code)} {env : Env} {outer : List Env} {h₀ : Heap} {L : Addr} {m : Str → Option Value} {s : Shared} {Q : Value → Shared → Prop} {news : List (Addr × Obj)}
    (F : Fr h₀ L s.heap m) (X : (hd.heap_1 w.params).In h₀) (N : News h₀ L s.heap news)
    (hm : makesIn (hd.heap_1 w.params) C = true) (hi : findIn (hd.heap_1 w.params) (.ref C) "__init__" = some (some (.ref fI))) (hft : isFn (hd.heap_1 w.params) (.ref fI) = true)
    (h : ∀ x dx h', Fr h₀ L h' m → News h₀ L h' ((x, instObj C dx) :: (dx, dictOf [] 0) :: news) → (∀ p ∈ news, p.1 < dx) → dx < x →
      cG w (atA (dp + 1) (un + 1) gd env outer) (.call (.ref fI) ⟨.ref x :: vs, []⟩) (InitG x fun f s' => match f with | .ret v => Q v s' | _ => False) { s with heap := h' }) :
    wG w (atA dp un gd env outer) (call (.ref C) vs) Q s :=
  wG_call (cG_make_K F N (X.keeps F.keep) hm hi (beq_iff_eq.mp hft) h)
theorem gen_toks {α : Type} {w : World} {A : Around} {t : Sem α} {Q : α → Shared → Prop} {h : Heap} {g : Array GenState} {d : Drawn} {tk : Nat} {os : OsState} (x : ∀ k, wG w A t Q ⟨h, g, d, k, os⟩) : wG w A t Q ⟨h, g, d, tk, os⟩ := x tk
theorem gen_toksC {w : World} {A : Around} {c : Code} {R : Flow → Shared → Prop} {h : Heap} {g : Array GenState} {d : Drawn} {tk : Nat} {os : OsState} (x : ∀ k, cG w A c R ⟨h, g, d, k, os⟩) : cG w A c R ⟨h, g, d, tk, os⟩ := x tk
theorem g_out {P R : Value → Shared → Prop} {v : Value} {s' : Shared} (h : ∀ v s', R v s' → P v s') (x : R v s') : P v s' := h v s' x
theorem and_here {w : World} {A : Around} {t : Sem Value} {Q : Value → Shared → Prop} {s : Shared} {h₀ : Heap} {L : Addr} {m : Str → Option Value} (X : (hd.heap_1 w.params).In h₀) (F : Fr h₀ L s.heap m) (h : wG w A t Q s) :
    (∃ h₀ L m, (hd.heap_1 w.params).In h₀ ∧ Fr h₀ L s.heap m) ∧ wG w A t Q s := ⟨⟨_, _, _, X, F⟩, h⟩

/-! PQG5 -/
/-- these bytes -/
def IsB (v : Value) (b : List UInt8) : Prop := ∃ t, v = .bytes b.toArray t
theorem isB_of {b c : List UInt8} {t : Tok} (e : b = c) : IsB (.bytes b.toArray t) c := ⟨t, by rw [e]⟩
section
variable {w : World} {A : Around} {s : Shared} {h₀ : Heap} {L a : Addr} {news : List (Addr × Obj)} {E : Value → Shared → Prop}
theorem getMethod_ba_append {b : List UInt8} {pl : Sem Bool} {Q : Value × List Value → Shared → Prop} (N : News h₀ L s.heap news) (hm : (a, baOf b) ∈ news) (h : Q (.builtin "bytearray.append", [.ref a]) s) :
    wpAny (model pw w) A (getMethod (.ref a) "append" pl) Q E s :=
  getMethod_builtin (typeIs_ba (N _ hm).1) BA.plainAttrs BA.slot_append BA.ty_append (fun b e => by cases e; exact ⟨_, (N _ hm).1, rfl⟩) h
theorem getMethod_ba_extend {b : List UInt8} {pl : Sem Bool} {Q : Value × List Value → Shared → Prop} (N : News h₀ L s.heap news) (hm : (a, baOf b) ∈ news) (h : Q (.builtin "bytearray.extend", [.ref a]) s) :
    wpAny (model pw w) A (getMethod (.ref a) "extend" pl) Q E s :=
  getMethod_builtin (typeIs_ba (N _ hm).1) BA.plainAttrs BA.slot_extend BA.ty_extend (fun b e => by cases e; exact ⟨_, (N _ hm).1, rfl⟩) h
end
section
variable {w : World} {A : Around} {s : Shared} {h₀ : Heap} {L a : Addr} {m : Str → Option Value} {news news' : List (Addr × Obj)}
theorem back8 (x : UInt8) : ((x.toNat : Nat) : Int).toNat.toUInt8 = x := by simp
theorem ba_append_K8 {b : List UInt8} {x : UInt8} {t : Tok} {Q : Value → Shared → Prop} (F : Fr h₀ L s.heap m) (N : News h₀ L s.heap news) (U : Upd a (baOf b) (baOf (b ++ [x])) news news')
    (hz : b.length < 100000) (h : ∀ h', Fr h₀ L h' m → News h₀ L h' news' → Q .none { s with heap := h' }) :
    wG w A (call (.builtin "bytearray.append") [.ref a, .int ((x.toNat : Nat) : Int) t]) Q s :=
  ba_append_K F N (by rw [back8]; exact U) (by omega) (by have := x.toNat_lt; omega) hz h
end
theorem call_any {w : World} {A : Around} {s : Shared} {env : Env} {E : Value → Shared → Prop} {func : Expr} {args : List Expr} {pos : Pos} {Q : Value → Shared → Prop}
    (h : wpAny (model pw w) A (eval func env) (fun f s₁ => wpAny (model pw w) A (callWith pos f [] (backTo pos (starEach args env)) []) Q E s₁) E s)
    (he : eval (.Call func args [] pos) env = (do callWith pos (← eval func env) [] (backTo pos (starEach args env)) (backToKw pos (keywordEach [] env))) := by rfl) :
    wpAny (model pw w) A (eval (.Call func args [] pos) env) Q E s := by
  rw [he]
  exact wpAny_bind (wpAny_mono h (fun f s₁ h₁ => h₁) fun _ _ x => x)
namespace BA
theorem slot_bcontains : Slot "bytes" "__contains__" "bytes.__contains__" :=
  .of (owner := "bytes") (n := "__contains__") (by rw [typeLookup_type, builtinLookup_eq_fast]; kernel_rfl) (by decide +kernel) (by decide +kernel) (by decide +kernel)
    (by first | exact .inl (by decide +kernel) | exact .inr (by decide +kernel)) (by rw [isSubtype_type]; kernel_rfl)
theorem entry_bcontains : entryFor table "bytes.__contains__" = some Builtin.«bytes.__contains__» := by first | exact entryFor_of_fast (by kernel_rfl) | exact entryFor_of_tree (by kernel_rfl)
theorem args_bcontains (a b : Value) : argsOk "bytes.__contains__" ⟨[a, b], []⟩ := by unfold argsOk; kernel_rfl
theorem containsIn_b {l : List UInt8} {t u : Tok} {i : Int} (h0 : 0 ≤ i) (h1 : i < 256) : Builtin.Bytes.containsIn "bytes.__contains__" (.bytes l.toArray t) (.int i u) = pure (l.contains i.toNat.toUInt8) := by
  unfold Builtin.Bytes.containsIn
  rw [buffer_b]
  show (if (decide (i < 0) || decide (i ≥ 256)) = true then _ else pure (l.toArray.contains i.toNat.toUInt8)) = _
  rw [if_neg (by simp only [Bool.or_eq_true, decide_eq_true_eq]; omega), List.contains_toArray]
theorem gives_bcontains {l : List UInt8} {t u : Tok} {i : Int} (h0 : 0 ≤ i) (h1 : i < 256) : Gives (Builtin.«bytes.__contains__» ⟨[.bytes l.toArray t, .int i u], []⟩) (.val (.bool (l.contains i.toNat.toUInt8))) := by
  show Gives (Builtin.Bytes.containsIn "bytes.__contains__" (.bytes l.toArray t) (.int i u) >>= fun r => ret (.bool r)) _
  rw [containsIn_b h0 h1]
  exact .of_eq rfl
end BA
section
variable {w : World} {A : Around} {s : Shared} {E : Value → Shared → Prop}
theorem in_bytes {l : List UInt8} {t u : Tok} {i : Int} {Q : Value → Shared → Prop} (h0 : 0 ≤ i) (h1 : i < 256) (h : Q (.bool (l.contains i.toNat.toUInt8)) s) : wpAny (model pw w) A (compareOp .In (.int i u) (.bytes l.toArray t)) Q E s :=
  in_gives (PySem.W.typeIs_bytes _ _ _) BA.slot_bcontains BA.entry_bcontains (BA.args_bcontains _ _) (BA.gives_bcontains h0 h1) h
theorem notin_bytes {l : List UInt8} {t u : Tok} {i : Int} {Q : Value → Shared → Prop} (h0 : 0 ≤ i) (h1 : i < 256) (h : Q (.bool (!(l.contains i.toNat.toUInt8))) s) : wpAny (model pw w) A (compareOp .NotIn (.int i u) (.bytes l.toArray t)) Q E s :=
  notIn_gives (PySem.W.typeIs_bytes _ _ _) BA.slot_bcontains BA.entry_bcontains (BA.args_bcontains _ _) (BA.gives_bcontains h0 h1) h
end
section
variable {w : World} {A : Around} {E : Value → Shared → Prop} {s : Shared} {value slice : Expr} {x : List UInt8} {t : Tok} {h₀ : Heap} {L : Addr} {m : Str → Option Value} {news : List (Addr × Obj)} {l u : Value} {lo hi : Option Int} {Q : Value → Shared → Prop}
/-- the cut of bytes -/
def cutB (x : List UInt8) (lo hi : Option Int) : List UInt8 := (x.drop (lo.elim 0 (clipAt x.length))).take (hi.elim x.length (clipAt x.length) - lo.elim 0 (clipAt x.length))
theorem bslice_K (hF : Fr h₀ L s.heap m) (hN : News h₀ L s.heap news) (hl : IsPart l lo) (hu : IsPart u hi) (hz : x.length ≤ 1000000)
    (h : ∀ h' t' k, Fr h₀ L h' m → News h₀ L h' news → Q (.bytes (cutB x lo hi).toArray t') { s with heap := h', toks := k })
    (hs : subscripted slice false (.bytes x.toArray t) (.ref s.heap.objs.size) = operate [.ref s.heap.objs.size, .bytes x.toArray t] (getItem (.bytes x.toArray t) (.ref s.heap.objs.size)))
    (ht : ∀ r, letTemporaryGo value (.bytes x.toArray t) r = pure ()) :
    wpAny (model pw w) A (subscriptTail value slice (.bytes x.toArray t) (.ref s.heap.objs.size)) Q E { s with heap := s.heap.push { cls := .type "slice", data := .fields #[l, u, .none] } } := by
  have hp : KBy.picked x.toArray lo hi = (cutB x lo hi).toArray := by rw [KBc.picked_eq]; simp [cutB]
  refine tail_of_ItemOn ⟨"bytes", _, FB.slot_bytes_getitem.lookup, typeIs_bytes _ _ _, getItem_meets (typeIs_bytes _ _ _) (by decide) FB.slot_bytes_getitem FB.entry_bytes_getitem (FB.args_bytes_getitem_2 _ _) (KBc.meets_slice2 x.toArray t _ hl hu)
    ⟨Heap.IsSliceOf.new _ _ _ _, Nat.le_trans (KBc.size_picked_le x.toArray lo hi) (by simp [sizeLine]; omega), fun t' k => ?_⟩⟩ hs ht
  rw [hp]
  exact h _ _ _ (hF.push _) (News.pushKeep hN _)
end

/-! PQR0 -/
section
variable {w : World} {f : Addr} {d u : Nat} {vs : List Value} {objs news : List (Addr × Obj)} {mods : List Addr} {Post : Heap → Value → Heap → Prop} {dp un : Nat} {gd : Option (List Code)} {env : Env} {outer : List Env} {A₀ : Around} {base h₀ : Heap} {L : Addr} {m : Str → Option Value} {mean : ExcName → Option Value} {mg mb : Str → Option Value} {s : Shared} {Q : Value → Shared → Prop} {E : Value → Shared → Prop}
/-- a call by its contract: what it turns stands in the ledger -/
theorem DoesG.useM (C : DoesG w f d u vs objs mods Post) (B : Below A₀ base outer h₀) (F : Fr h₀ L s.heap m) (X : (hd.heap_1 w.params).In h₀) (T : TopM mean mg mb h₀) (N : News h₀ L s.heap news) (hs : ∀ p ∈ objs, p ∈ news) (hm : ∀ a ∈ mods, ∃ o, (a, o) ∈ news)
    (hf : env.frame = some L) (hk : env.scope.kind = .function) (hd : dp + d < recursionLimit) (hu : un + u < cLine)
    (h : ∀ v h' tk', Fr h₀ L h' m → Ext mods s.heap h' → (∀ p ∈ news, p.1 < s.heap.objs.size) → Post s.heap v h' → Q v ⟨h', s.gens, s.drawn, tk', s.os⟩) :
    wG w (atA dp un gd env outer) (call (.ref f) vs) Q s :=
  C dp un gd env outer A₀ base h₀ L m mean mg mb s Q B F X T (fun p hp => N p (hs p hp)) hf hk hd hu fun v h' tk' x hp =>
    h v h' tk' (x.fr F fun a ha => by obtain ⟨o, ho⟩ := hm a ha; exact (N _ ho).2) x (fun p hp => Heap.lt_size (N p hp).1) hp
theorem Does.useM (C : Does w f d u vs objs mods Post) (B : Below A₀ base outer h₀) (F : Fr h₀ L s.heap m) (X : (hd.heap_1 w.params).In h₀) (T : TopM mean mg mb h₀) (N : News h₀ L s.heap news) (hs : ∀ p ∈ objs, p ∈ news) (hm : ∀ a ∈ mods, ∃ o, (a, o) ∈ news)
    (hf : env.frame = some L) (hk : env.scope.kind = .function) (hd : dp + d < recursionLimit) (hu : un + u < cLine)
    (h : ∀ v h' tk', Fr h₀ L h' m → Ext mods s.heap h' → (∀ p ∈ news, p.1 < s.heap.objs.size) → Post s.heap v h' → Q v ⟨h', s.gens, s.drawn, tk', s.os⟩) :
    wpAny (model pw w) (atA dp un gd env outer) (call (.ref f) vs) Q E s :=
  C dp un gd env outer A₀ base h₀ L m mean mg mb s Q E B F X T (fun p hp => N p (hs p hp)) hf hk hd hu fun v h' tk' x hp =>
    h v h' tk' (x.fr F fun a ha => by obtain ⟨o, ho⟩ := hm a ha; exact (N _ ho).2) x (fun p hp => Heap.lt_size (N p hp).1) hp

/-- the ledger behind a call -/
theorem led0 {h h' : Heap} {G : Prop} (N : News h₀ L h news) (x : Ext [] h h') (k : News h₀ L h' news → G) : G := k (x.news0 N)
theorem upd_get {a : Addr} {o o' : Obj} {h h' : Heap} {n1 : List (Addr × Obj)} (U : Upd a o o' news n1) (N : News h₀ L h news) (hk : ∀ p ∈ news, p.1 ≠ a → h'.get? p.1 = some p.2) (e : h'.get? a = some o') : ∀ p ∈ n1, h'.get? p.1 = some p.2 ∧ p.1 ≠ L ∧ h₀.get? p.1 = none := by
  obtain ⟨pre, post, rfl, rfl, x, y⟩ := U.split
  intro p hp
  rcases List.mem_append.mp hp with hp | hp
  · have q : p ∈ pre ++ (a, o) :: post := List.mem_append.mpr (.inl hp)
    exact ⟨hk p q (x p hp), (N p q).2⟩
  · rcases List.mem_cons.mp hp with rfl | hp
    · exact ⟨e, (N (a, o) (List.mem_append.mpr (.inr (.head _)))).2⟩
    · have q : p ∈ pre ++ (a, o) :: post := List.mem_append.mpr (.inr (.tail _ hp))
      exact ⟨hk p q (y p hp), (N p q).2⟩
theorem led1 {h h' : Heap} {G : Prop} {a : Addr} {o o' : Obj} {n1 : List (Addr × Obj)} (N : News h₀ L h news) (x : Ext [a] h h') (U : Upd a o o' news n1) (e : h'.get? a = some o') (k : News h₀ L h' n1 → G) : G :=
  k (upd_get U N (fun p hp hn => x _ _ (N p hp).1 (by intro q; exact hn (List.mem_singleton.mp q))) e)
theorem led2 {h h' : Heap} {G : Prop} {a b : Addr} {o o' q q' : Obj} {n1 n2 : List (Addr × Obj)} (N : News h₀ L h news) (x : Ext [a, b] h h') (U : Upd a o o' news n1) (V : Upd b q q' n1 n2) (e : h'.get? a = some o') (e2 : h'.get? b = some q') (hab : a ≠ b) (k : News h₀ L h' n2 → G) : G := by
  refine k fun p hp => ?_
  obtain ⟨pre, post, rfl, rfl, z, y⟩ := V.split
  have W : ∀ p ∈ pre ++ (b, q) :: post, p.1 ≠ b → h'.get? p.1 = some p.2 ∧ p.1 ≠ L ∧ h₀.get? p.1 = none := by
    intro p hp hb
    obtain ⟨pre', post', rfl, e', z', y'⟩ := U.split
    rw [e'] at hp
    have key : ∀ p ∈ pre' ++ (a, o) :: post', p.1 ≠ a → p.1 ≠ b → h'.get? p.1 = some p.2 ∧ p.1 ≠ L ∧ h₀.get? p.1 = none := fun p hp ha hb =>
      ⟨x _ _ (N p hp).1 (by intro q; rcases List.mem_cons.mp q with q | q; exact ha q; exact hb (List.mem_singleton.mp q)), (N p hp).2⟩
    rcases List.mem_append.mp hp with hp | hp
    · exact key p (List.mem_append.mpr (.inl hp)) (z' p hp) hb
    · rcases List.mem_cons.mp hp with rfl | hp
      · exact ⟨e, (N (a, o) (List.mem_append.mpr (.inr (.head _)))).2⟩
      · exact key p (List.mem_append.mpr (.inr (.tail _ hp))) (y' p hp) hb
  have nb : (b, q').1 ≠ L ∧ h₀.get? (b, q').1 = none := by
    obtain ⟨pre', post', rfl, e', z', y'⟩ := U.split
    have hq : (b, q) ∈ pre' ++ (a, o') :: post' := by rw [← e']; exact List.mem_append.mpr (.inr (.head _))
    rcases List.mem_append.mp hq with h | h
    · exact (N (b, q) (List.mem_append.mpr (.inl h))).2
    · rcases List.mem_cons.mp h with h | h
      · exact absurd (congrArg Prod.fst h).symm hab
      · exact (N (b, q) (List.mem_append.mpr (.inr (.tail _ h)))).2
  rcases List.mem_append.mp hp with hp | hp
  · exact W p (List.mem_append.mpr (.inl hp)) (z p hp)
  · rcases List.mem_cons.mp hp with rfl | hp
    · exact ⟨e2, nb⟩
    · exact W p (List.mem_append.mpr (.inr (.tail _ hp))) (y p hp)
theorem New.of' {g h h' : Heap} {L a : Addr} {o : Obj} {objs news : List (Addr × Obj)} (hs : ∀ b o, h.get? b = some o → b ∉ objs.map (·.1) → g.get? b = some o) (N : News g L h' news) (hm : (a, o) ∈ news) (hn : ∀ p ∈ objs, p.1 ≠ a) : New h a o h' :=
  New.of hs N hm fun q => by obtain ⟨p, hp, e⟩ := List.mem_map.mp q; exact hn p hp e
def AllNe (d : Addr) : List (Addr × Obj) → Prop
  | [] => True
  | p :: r => @Ne Nat p.1 d ∧ AllNe d r
theorem allNe_of {d : Addr} : ∀ {l : List (Addr × Obj)}, (∀ p ∈ l, p.1 ≠ d) → AllNe d l
  | [], _ => trivial
  | p :: _, h => ⟨h p (.head _), allNe_of fun q hq => h q (.tail _ hq)⟩
/-- a new object goes onto the ledger -/
theorem ledN {h h' : Heap} {G : Prop} {a : Addr} {o : Obj} {news news' : List (Addr × Obj)} {h₀ : Heap} {L : Addr} {m : Str → Option Value} (x : New h a o h') (F : Fr h₀ L h m) (N₀ : News h₀ L h news) (N : News h₀ L h' news') (k : AllNe a news → News h₀ L h' ((a, o) :: news') → G) : G :=
  k (allNe_of (x.ne N₀)) (x.news F N)
/-- apart, hidden from omega -/
def Off (a b : Addr) : Prop := a ≠ b
theorem offOf {a b : Addr} (h : a ≠ b) : Off a b := h
theorem Off.get {a b : Addr} (h : Off a b) : a ≠ b := h
theorem Off.get' {a b : Addr} (h : Off b a) : a ≠ b := fun q => h q.symm
theorem AllNe.get {a b : Addr} {o : Obj} {l : List (Addr × Obj)} (h : AllNe a l) (hm : (b, o) ∈ l) : b ≠ a := by
  induction l with
  | nil => exact nomatch hm
  | cons p r ih =>
    rcases List.mem_cons.mp hm with rfl | hm
    · exact h.1
    · exact ih h.2 hm
theorem AllNe.get' {a b : Addr} {o : Obj} {l : List (Addr × Obj)} (h : AllNe a l) (hm : (b, o) ∈ l) : a ≠ b := fun q => h.get hm q.symm
end

/-! PQR5 -/
open Builtin.Bytes
namespace BA
theorem lookup_bindex : typeLookup (.type "bytes") "__index__" = pure none := by rw [typeLookup_type, builtinLookup_eq_fast]; kernel_rfl
end BA
section
variable {w : World} {A : Around} {s : Shared} {E : Value → Shared → Prop} {h₀ : Heap} {L : Addr} {m : Str → Option Value} {news : List (Addr × Obj)}
theorem in_bytes2 {l c : List UInt8} {t u : Tok} {Q : Value → Shared → Prop} (hh : A.handled = none) (F : Fr h₀ L s.heap m) (N : News h₀ L s.heap news)
    (h : ∀ h' tk, Fr h₀ L h' m → News h₀ L h' news → Q (.bool (find? l.toArray c.toArray 0 l.toArray.size).isSome) { s with heap := h', toks := tk }) :
    wpAny (model pw w) A (compareOp .In (.bytes c.toArray u) (.bytes l.toArray t)) Q E s := by
  show wpAny _ _ (do return .bool (← contains (.bytes l.toArray t) (.bytes c.toArray u))) Q E s
  refine wpAny_bind (wpAny_contains_slot (PySem.W.typeIs_bytes _ _ _) BA.slot_bcontains (wpAny_call_entry BA.slot_bcontains (PySem.W.typeIs_bytes _ _ _) BA.entry_bcontains ?_ (BA.args_bcontains _ _)))
  show wpAny _ _ (containsIn "bytes.__contains__" (.bytes l.toArray t) (.bytes c.toArray u) >>= fun r => ret (.bool r)) _ _ _
  refine wpAny_bind ?_
  unfold containsIn
  rw [BA.buffer_b]
  refine wpAny_bind (wpAny_attempt ?_)
  unfold asIndex
  refine wpAny_bind (wpAny_of_eq (a := none) (by first | rfl | kernel_rfl) ?_)
  refine wpAny_bind ?_
  unfold callSpecial?
  refine wpAny_bind (wpAny_specialOf (PySem.W.typeIs_bytes _ _ _) BA.lookup_bindex (wpAny_pure ?_))
  refine wpAny_bind (wpAny_of_eq (a := "bytes") (by first | rfl | kernel_rfl) ?_)
  refine wpAny_raiseErrorMade plainExc_TypeError hh (fun h' tk e hx => ?_) (by decide +kernel)
  refine wpAny_bind (wpAny_pure ?_)
  show wpAny _ _ (buffer? "bytes.__contains__" (.bytes c.toArray u) >>= _) _ _ _
  rw [BA.buffer_b]
  refine wpAny_bind (wpAny_pure ?_)
  refine wpAny_bind (wpAny_rule (wpAny_pure ?_))
  refine wpAny_pure ⟨_, rfl, ?_⟩
  refine wpAny_truthy_bool (wpAny_pure ?_)
  exact h _ _ ⟨let ⟨o, a1, a2, hL, a3⟩ := F.ns; ⟨o, a1, a2, hx.keeps _ _ hL, a3⟩, fun b o e => hx.keeps _ _ (F.keep b o e), F.above⟩ (fun p hp => ⟨hx.keeps _ _ (N p hp).1, (N p hp).2⟩)
end

/-! PQR6 -/
theorem frCongr {h₀ h : Heap} {L : Addr} {m m' : Str → Option Value} (F : Fr h₀ L h m) (e : ∀ y, m y = m' y) : Fr h₀ L h m' := by
  rwa [show m = m' from funext e] at F
inductive LessI (I : Nat → Shared → Prop) (n : Nat) (s : Shared) : Prop
  | intro (m : Nat) : m < n → I m s → LessI I n s
def TurnG (I : Nat → Shared → Prop) (n : Nat) (R : Flow → Shared → Prop) (f : Flow) (s₃ : Shared) : Prop := match f with
  | .next | .cont => LessI I n s₃
  | .brk => R .next s₃
  | .ret v => R (.ret v) s₃
/-- a loop by its invariant, the turn last -/
theorem cG_whileI {w : World} {A : Around} {s : Shared} {env : Env} {test : Expr} {body orelse : List Stmt} {R : Flow → Shared → Prop} (I : Nat → Shared → Prop) (n : Nat) (h : I n s)
    (turn : ∀ n s, I n s → wpAny (model pw w) A (isTrue test env (eval test env)) (fun b s₂ =>
        if b then wG w A (execs body env) (TurnG I n R) s₂
        else wG w A (execs orelse env) R s₂) noE s) : cG w A (.whileLoop test body orelse env) R s := cG_while I (fun n s hI => wpAny_mono (turn n s hI) (fun b s₂ h₂ => by
    cases b with
    | false => exact h₂
    | true => exact wG_mono h₂ (fun f s₃ h₃ => by
      cases f with
      | next => obtain ⟨m, a, b⟩ := h₃; exact ⟨m, a, b⟩
      | cont => obtain ⟨m, a, b⟩ := h₃; exact ⟨m, a, b⟩
      | brk => exact h₃
      | ret v => exact h₃)) fun _ _ x => x) n h

/-! PQR7 -/
def isIt (c : Value) : Bool := match c with | .type T => T == "list_iterator" || T == "tuple_iterator" | _ => false
inductive EndL (h₀ : Heap) (L it : Addr) (ito : Obj) (J : (Str → Option Value) → List (Addr × Obj) → Prop) (s s₃ : Shared) : Prop
  | intro (m' : Str → Option Value) (n' : List (Addr × Obj)) (h' : Heap) (tk' : Nat) : s₃ = ⟨h', s.gens, s.drawn, tk', s.os⟩ → Fr h₀ L h' m' → News h₀ L h' ((it, ito) :: n') → J m' n' → EndL h₀ L it ito J s s₃
def TurnL (h₀ : Heap) (L it : Addr) (ito : Obj) (J : (Str → Option Value) → List (Addr × Obj) → Prop) (s : Shared) (R : Flow → Shared → Prop) (f : Flow) (s₃ : Shared) : Prop := match f with
  | .next | .cont => EndL h₀ L it ito J s s₃
  | .brk => R .next s₃
  | .ret v => R (.ret v) s₃
/-- a loop over a list of the ledger -/
theorem iter_listJ {w : World} {A : Around} {s : Shared} {env : Env} {target : Expr} {body orelse : List Stmt} {R : Flow → Shared → Prop} {h₀ : Heap} {L l : Addr} {m : Str → Option Value} {news : List (Addr × Obj)} {vs : List Value} {n : Nat}
    (hh : A.handled = none) (J : Nat → (Str → Option Value) → List (Addr × Obj) → Prop) (F : Fr h₀ L s.heap m) (N : News h₀ L s.heap news) (hj : J 0 m news)
    (hm : ∀ i m' n', J i m' n' → (l, listOf vs.toArray n) ∈ n') (hc : ∀ i m' n', J i m' n' → ∀ p ∈ n', isIt p.2.cls = false)
    (turn : ∀ it ito i v m' n' h tk, vs[i]? = some v → J i m' n' → isIt ito.cls = true → Fr h₀ L h m' → News h₀ L h ((it, ito) :: n') →
      wpAny (model pw w) A (assign target env v) (fun _ s₂ => wG w A (execs body env) (TurnL h₀ L it ito (J (i + 1)) s R) s₂) noE ⟨h, s.gens, s.drawn, tk, s.os⟩)
    (done : ∀ m' n' h tk, J vs.length m' n' → Fr h₀ L h m' → News h₀ L h n' → wG w A (execs orelse env) R ⟨h, s.gens, s.drawn, tk, s.os⟩)
    (ht : ∀ it v, letOwnedTupleGo target it v = pure () := by intro _ _; rfl) :
    wpAny (model pw w) A (pyIter (.ref l)) (fun it s₂ => cG w A (.forLoop target it body orelse env) R s₂) noE s := by
  have off : ∀ {it : Addr} {ito : Obj} {i : Nat} {m' : Str → Option Value} {n' : List (Addr × Obj)} {h : Heap}, J i m' n' → isIt ito.cls = true → News h₀ L h ((it, ito) :: n') → ∀ p ∈ n', p.1 ≠ it := by
    rintro it ito i m' n' h hJ hit N p hp rfl
    have e1 := (N _ (.head _)).1
    rw [(N p (.tail _ hp)).1] at e1
    have := hc _ _ _ hJ p hp
    rw [Option.some.inj e1, hit] at this
    cases this
  refine wpAny_pyIter_list (N.isList (hm _ _ _ hj)) ?_
  have main : ∀ k i it ito m' n' h tk, k = vs.length - i → i ≤ vs.length → ito.cls = .type "list_iterator" → ito.data = .fields #[.ref l, .int i 0] → J i m' n' → Fr h₀ L h m' → News h₀ L h ((it, ito) :: n') →
      cG w A (.forLoop target (.ref it) body orelse env) R ⟨h, s.gens, s.drawn, tk, s.os⟩ := by
    intro k
    induction k with
    | zero =>
      intro i it ito m' n' h tk hk hi c1 c2 hJ F' N'
      have hi' : i = vs.length := by omega
      subst hi'
      have o := off hJ (by rw [c1]; rfl) N'
      refine cG_for ?_ (ht _)
      refine wpAny_pyNext_list_end hh ⟨ito, (N' _ (.head _)).1, c1, c2⟩ (N'.isList (.tail _ (hm _ _ _ hJ))) (by simp) (fun h' x => ?_)
      refine done m' n' h' tk hJ ?_ (fun p hp => ⟨x _ _ (o p hp) (N' p (.tail _ hp)).1, (N' p (.tail _ hp)).2⟩)
      obtain ⟨oL, a1, a2, hoL, a3⟩ := F'.ns
      have z := N' (it, ito) (.head _)
      refine ⟨⟨oL, a1, a2, x _ _ (fun q => z.2.1 q.symm) hoL, a3⟩, fun b y e => x _ _ (fun q => ?_) (F'.keep b y e), F'.above⟩
      rw [q, z.2.2] at e; cases e
    | succ k ih =>
      intro i it ito m' n' h tk hk hi c1 c2 hJ F' N'
      have hlt : i < vs.length := by omega
      have o := off hJ (by rw [c1]; rfl) N'
      have hv : vs[i]? = some vs[i] := by simp [hlt]
      refine cG_for ?_ (ht _)
      refine wpAny_pyNext_list_item ⟨ito, (N' _ (.head _)).1, c1, c2⟩ (N'.isList (.tail _ (hm _ _ _ hJ))) (x := vs[i]) (by simp [hlt]) (fun h' hit hs => ?_)
      obtain ⟨ito', g', c1', c2'⟩ := hit
      have z := N' (it, ito) (.head _)
      have N2 : News h₀ L h' ((it, ito') :: n') := fun p hp => by
        rcases List.mem_cons.mp hp with rfl | hp
        · exact ⟨g', z.2⟩
        · exact ⟨(hs.2 _ (o p hp)).trans (N' p (.tail _ hp)).1, (N' p (.tail _ hp)).2⟩
      refine wpAny_mono (turn it ito' i vs[i] m' n' h' tk hv hJ (by rw [c1']; rfl) (F'.change hs z.2.1 z.2.2) N2) (fun _ s₂ h₂ => wG_mono h₂ (fun f s₃ h₃ => ?_)) fun _ _ x => x
      have nxt : EndL h₀ L it ito' (J (i + 1)) s s₃ → cG w A (.forLoop target (.ref it) body orelse env) R s₃ := by
        rintro ⟨m3, n3, h3, tk3, rfl, F3, N3, J3⟩
        exact ih (i + 1) it ito' m3 n3 h3 tk3 (by omega) (by omega) c1' c2' J3 F3 N3
      cases f with
      | next => exact nxt h₃
      | cont => exact nxt h₃
      | brk => exact h₃
      | ret v => exact h₃
  exact main _ 0 _ _ m news _ _ rfl (Nat.zero_le _) rfl rfl hj (F.push _) (N.push F _)
/-- a loop over a tuple of the ledger -/
theorem iter_tupJ {w : World} {A : Around} {s : Shared} {env : Env} {target : Expr} {body orelse : List Stmt} {R : Flow → Shared → Prop} {h₀ : Heap} {L l : Addr} {m : Str → Option Value} {news : List (Addr × Obj)} {vs : List Value}
    (hh : A.handled = none) (J : Nat → (Str → Option Value) → List (Addr × Obj) → Prop) (F : Fr h₀ L s.heap m) (N : News h₀ L s.heap news) (hj : J 0 m news)
    (hm : ∀ i m' n', J i m' n' → (l, tupOf vs) ∈ n') (hc : ∀ i m' n', J i m' n' → ∀ p ∈ n', isIt p.2.cls = false)
    (turn : ∀ it ito i v m' n' h tk, vs[i]? = some v → J i m' n' → isIt ito.cls = true → Fr h₀ L h m' → News h₀ L h ((it, ito) :: n') →
      wpAny (model pw w) A (assign target env v) (fun _ s₂ => wG w A (execs body env) (TurnL h₀ L it ito (J (i + 1)) s R) s₂) noE ⟨h, s.gens, s.drawn, tk, s.os⟩)
    (done : ∀ m' n' h tk, J vs.length m' n' → Fr h₀ L h m' → News h₀ L h n' → wG w A (execs orelse env) R ⟨h, s.gens, s.drawn, tk, s.os⟩)
    (ht : ∀ it v, letOwnedTupleGo target it v = pure () := by intro _ _; rfl) :
    wpAny (model pw w) A (pyIter (.ref l)) (fun it s₂ => cG w A (.forLoop target it body orelse env) R s₂) noE s := by
  have off : ∀ {it : Addr} {ito : Obj} {i : Nat} {m' : Str → Option Value} {n' : List (Addr × Obj)} {h : Heap}, J i m' n' → isIt ito.cls = true → News h₀ L h ((it, ito) :: n') → ∀ p ∈ n', p.1 ≠ it := by
    rintro it ito i m' n' h hJ hit N p hp rfl
    have e1 := (N _ (.head _)).1
    rw [(N p (.tail _ hp)).1] at e1
    have := hc _ _ _ hJ p hp
    rw [Option.some.inj e1, hit] at this
    cases this
  refine wpAny_pyIter_tuple ⟨_, (N _ (hm _ _ _ hj)).1, rfl, _, rfl⟩ ?_
  have main : ∀ k i it ito m' n' h tk, k = vs.length - i → i ≤ vs.length → ito.cls = .type "tuple_iterator" → ito.data = .fields #[.ref l, .int i 0] → J i m' n' → Fr h₀ L h m' → News h₀ L h ((it, ito) :: n') →
      cG w A (.forLoop target (.ref it) body orelse env) R ⟨h, s.gens, s.drawn, tk, s.os⟩ := by
    intro k
    induction k with
    | zero =>
      intro i it ito m' n' h tk hk hi c1 c2 hJ F' N'
      have hi' : i = vs.length := by omega
      subst hi'
      have o := off hJ (by rw [c1]; rfl) N'
      refine cG_for ?_ (ht _)
      refine wpAny_pyNext_tuple_end hh ⟨ito, (N' _ (.head _)).1, c1, c2⟩ ⟨_, (N' _ (.tail _ (hm _ _ _ hJ))).1, rfl, _, rfl⟩ (by simp) (fun h' x => ?_)
      refine done m' n' h' tk hJ ?_ (fun p hp => ⟨x _ _ (o p hp) (N' p (.tail _ hp)).1, (N' p (.tail _ hp)).2⟩)
      obtain ⟨oL, a1, a2, hoL, a3⟩ := F'.ns
      have z := N' (it, ito) (.head _)
      refine ⟨⟨oL, a1, a2, x _ _ (fun q => z.2.1 q.symm) hoL, a3⟩, fun b y e => x _ _ (fun q => ?_) (F'.keep b y e), F'.above⟩
      rw [q, z.2.2] at e; cases e
    | succ k ih =>
      intro i it ito m' n' h tk hk hi c1 c2 hJ F' N'
      have hlt : i < vs.length := by omega
      have o := off hJ (by rw [c1]; rfl) N'
      have hv : vs[i]? = some vs[i] := by simp [hlt]
      refine cG_for ?_ (ht _)
      refine wpAny_pyNext_tuple_item ⟨ito, (N' _ (.head _)).1, c1, c2⟩ ⟨_, (N' _ (.tail _ (hm _ _ _ hJ))).1, rfl, _, rfl⟩ (x := vs[i]) (by simp [hlt]) (fun h' hit hs => ?_)
      obtain ⟨ito', g', c1', c2'⟩ := hit
      have z := N' (it, ito) (.head _)
      have N2 : News h₀ L h' ((it, ito') :: n') := fun p hp => by
        rcases List.mem_cons.mp hp with rfl | hp
        · exact ⟨g', z.2⟩
        · exact ⟨(hs.2 _ (o p hp)).trans (N' p (.tail _ hp)).1, (N' p (.tail _ hp)).2⟩
      refine wpAny_mono (turn it ito' i vs[i] m' n' h' tk hv hJ (by rw [c1']; rfl) (F'.change hs z.2.1 z.2.2) N2) (fun _ s₂ h₂ => wG_mono h₂ (fun f s₃ h₃ => ?_)) fun _ _ x => x
      have nxt : EndL h₀ L it ito' (J (i + 1)) s s₃ → cG w A (.forLoop target (.ref it) body orelse env) R s₃ := by
        rintro ⟨m3, n3, h3, tk3, rfl, F3, N3, J3⟩
        exact ih (i + 1) it ito' m3 n3 h3 tk3 (by omega) (by omega) c1' c2' J3 F3 N3
      cases f with
      | next => exact nxt h₃
      | cont => exact nxt h₃
      | brk => exact h₃
      | ret v => exact h₃
  exact main _ 0 _ _ m news _ _ rfl (Nat.zero_le _) rfl rfl hj (F.push _) (N.push F _)

/-! PQR8 -/
theorem cG_for2 {w : World} {A : Around} {s : Shared} {env : Env} {target : Expr} {it : Value} {body orelse : List Stmt} {R : Flow → Shared → Prop}
    (h : wpAny (model pw w) A (pyNext it) (fun r s₁ => match r with
      | none => wG w A (execs orelse env) R s₁
      | some v => wpAny (model pw w) A (letOwnedTupleGo target it v) (fun _ s₂ => wpAny (model pw w) A (assign target env v) (fun _ s₃ => wG w A (execs body env) (loopG w A target it body orelse env R) s₃) noE s₂) noE s₁) noE s) :
    cG w A (.forLoop target it body orelse env) R s := by
  refine cG_tree rfl ?_
  show wG _ A ((forTurn target it body orelse env).onRaise (fun x => do noteFrame x env; theTreesLotGoes x)) _ s
  refine wG_onRaise ?_
  simp only [forTurn]
  refine wG_bind (wG_at (wG_bind (wG_onRaise (wG_any (wpAny_mono h (fun r s₁ h₁ => ?_) fun _ _ h' => h')))))
  cases r with
  | none => exact wG_pure ⟨rfl, cG_block h₁⟩
  | some v =>
    refine wG_bind (wG_any (wpAny_mono h₁ (fun _ s₂ h₂ => ?_) fun _ _ h' => h'))
    refine wG_bind (wG_any (wpAny_mono h₂ (fun _ s₂ h₂ => wG_bind (wG_mono h₂ (fun f s₃ h₃ => ?_))) fun _ _ h' => h'))
    cases f with
    | next => exact wG_pure ⟨rfl, h₃⟩
    | cont => exact wG_pure ⟨rfl, h₃⟩
    | brk => exact wG_pure h₃
    | ret v => exact wG_pure h₃
/-- a loop over a list of pairs -/
theorem iter_listP {w : World} {A : Around} {s : Shared} {env : Env} {target : Expr} {body orelse : List Stmt} {R : Flow → Shared → Prop} {h₀ : Heap} {L l : Addr} {m : Str → Option Value} {news : List (Addr × Obj)} {vs : List Value} {n : Nat}
    (hh : A.handled = none) (J : Nat → (Str → Option Value) → List (Addr × Obj) → Prop) (F : Fr h₀ L s.heap m) (N : News h₀ L s.heap news) (hj : J 0 m news)
    (hm : ∀ i m' n', J i m' n' → (l, listOf vs.toArray n) ∈ n') (hc : ∀ i m' n', J i m' n' → ∀ p ∈ n', isIt p.2.cls = false)
    (turn : ∀ it ito i v m' n' h tk, vs[i]? = some v → J i m' n' → isIt ito.cls = true → Fr h₀ L h m' → News h₀ L h ((it, ito) :: n') →
      wpAny (model pw w) A (assign target env v) (fun _ s₂ => wG w A (execs body env) (TurnL h₀ L it ito (J (i + 1)) s R) s₂) noE ⟨h, s.gens, s.drawn, tk, s.os⟩)
    (done : ∀ m' n' h tk, J vs.length m' n' → Fr h₀ L h m' → News h₀ L h n' → wG w A (execs orelse env) R ⟨h, s.gens, s.drawn, tk, s.os⟩)
    (ht : ∀ (it : Addr) (i : Nat) (v : Value) (s' : Shared) (Q : Unit → Shared → Prop), s'.heap.IsListIter it l i → Q () s' → wpAny (model pw w) A (letOwnedTupleGo target (.ref it) v) Q noE s') :
    wpAny (model pw w) A (pyIter (.ref l)) (fun it s₂ => cG w A (.forLoop target it body orelse env) R s₂) noE s := by
  have off : ∀ {it : Addr} {ito : Obj} {i : Nat} {m' : Str → Option Value} {n' : List (Addr × Obj)} {h : Heap}, J i m' n' → isIt ito.cls = true → News h₀ L h ((it, ito) :: n') → ∀ p ∈ n', p.1 ≠ it := by
    rintro it ito i m' n' h hJ hit N p hp rfl
    have e1 := (N _ (.head _)).1
    rw [(N p (.tail _ hp)).1] at e1
    have := hc _ _ _ hJ p hp
    rw [Option.some.inj e1, hit] at this
    cases this
  refine wpAny_pyIter_list (N.isList (hm _ _ _ hj)) ?_
  have main : ∀ k i it ito m' n' h tk, k = vs.length - i → i ≤ vs.length → ito.cls = .type "list_iterator" → ito.data = .fields #[.ref l, .int i 0] → J i m' n' → Fr h₀ L h m' → News h₀ L h ((it, ito) :: n') →
      cG w A (.forLoop target (.ref it) body orelse env) R ⟨h, s.gens, s.drawn, tk, s.os⟩ := by
    intro k
    induction k with
    | zero =>
      intro i it ito m' n' h tk hk hi c1 c2 hJ F' N'
      have hi' : i = vs.length := by omega
      subst hi'
      have o := off hJ (by rw [c1]; rfl) N'
      refine cG_for2 ?_
      refine wpAny_pyNext_list_end hh ⟨ito, (N' _ (.head _)).1, c1, c2⟩ (N'.isList (.tail _ (hm _ _ _ hJ))) (by simp) (fun h' x => ?_)
      refine done m' n' h' tk hJ ?_ (fun p hp => ⟨x _ _ (o p hp) (N' p (.tail _ hp)).1, (N' p (.tail _ hp)).2⟩)
      obtain ⟨oL, a1, a2, hoL, a3⟩ := F'.ns
      have z := N' (it, ito) (.head _)
      refine ⟨⟨oL, a1, a2, x _ _ (fun q => z.2.1 q.symm) hoL, a3⟩, fun b y e => x _ _ (fun q => ?_) (F'.keep b y e), F'.above⟩
      rw [q, z.2.2] at e; cases e
    | succ k ih =>
      intro i it ito m' n' h tk hk hi c1 c2 hJ F' N'
      have hlt : i < vs.length := by omega
      have o := off hJ (by rw [c1]; rfl) N'
      have hv : vs[i]? = some vs[i] := by simp [hlt]
      refine cG_for2 ?_
      refine wpAny_pyNext_list_item ⟨ito, (N' _ (.head _)).1, c1, c2⟩ (N'.isList (.tail _ (hm _ _ _ hJ))) (x := vs[i]) (by simp [hlt]) (fun h' hit hs => ?_)
      obtain ⟨ito', g', c1', c2'⟩ := hit
      have z := N' (it, ito) (.head _)
      have N2 : News h₀ L h' ((it, ito') :: n') := fun p hp => by
        rcases List.mem_cons.mp hp with rfl | hp
        · exact ⟨g', z.2⟩
        · exact ⟨(hs.2 _ (o p hp)).trans (N' p (.tail _ hp)).1, (N' p (.tail _ hp)).2⟩
      refine ht it (i + 1) _ _ _ ⟨ito', g', c1', c2'⟩ ?_
      refine wpAny_mono (turn it ito' i vs[i] m' n' h' tk hv hJ (by rw [c1']; rfl) (F'.change hs z.2.1 z.2.2) N2) (fun _ s₂ h₂ => wG_mono h₂ (fun f s₃ h₃ => ?_)) fun _ _ x => x
      have nxt : EndL h₀ L it ito' (J (i + 1)) s s₃ → cG w A (.forLoop target (.ref it) body orelse env) R s₃ := by
        rintro ⟨m3, n3, h3, tk3, rfl, F3, N3, J3⟩
        exact ih (i + 1) it ito' m3 n3 h3 tk3 (by omega) (by omega) c1' c2' J3 F3 N3
      cases f with
      | next => exact nxt h₃
      | cont => exact nxt h₃
      | brk => exact h₃
      | ret v => exact h₃
  exact main _ 0 _ _ m news _ _ rfl (Nat.zero_le _) rfl rfl hj (F.push _) (N.push F _)

/-! PQK1 -/
abbrev Key := List UInt8 × List Int
/-- a tuple of a word and a tuple of ints -/
def IsKey (w : World) (h : Heap) (k : Key) (a : Addr) : Prop := ∃ t p, h.get? a = some (tupOf [.bytes k.1.toArray t, .ref p]) ∧ IsTupleKey (intKind pw w) h k.2 p
def keyHash (w : World) (k : Key) : Int := reduceHash (Builtin.Tuple.tupleHashOf [(bytesKind pw w).hash k.1, tupleKeyHash (intKind pw w) k.2])
theorem isB (w : World) (b : List UInt8) (t : Tok) : (bytesKind pw w).is b (.bytes b.toArray t) = true := by simp [bytesKind, isBytes]
section
variable {w : World} {A : Around} {E : Value → Shared → Prop} {s : Shared}
theorem IsKey.typeIs {k : Key} {a : Addr} (x : IsKey w s.heap k a) : s.TypeIs (.ref a) "tuple" := let ⟨t, p, ho, _⟩ := x; ⟨_, ho, rfl⟩
theorem IsKey.inj {h : Heap} {a : Addr} {x y : Key} (hx : IsKey w h x a) (hy : IsKey w h y a) : x = y := by
  obtain ⟨t, p, ho, hk⟩ := hx
  obtain ⟨t', p', ho', hk'⟩ := hy
  rw [ho] at ho'
  have e := congrArg Obj.data (Option.some.inj ho')
  injection e with e _
  have e := congrArg Array.toList e
  simp only [List.cons.injEq, Value.bytes.injEq, Value.ref.injEq, and_true] at e
  obtain ⟨⟨e1, _⟩, e2⟩ := e
  subst e2
  exact Prod.ext (by simpa using congrArg Array.toList e1) (hk.inj hk')
theorem IsKey.keeps {h h' : Heap} {k : Key} {a d : Addr} {o : Obj} {es : Array DictEntry} {ep : Nat} (x : IsKey w h k a) (ho : h.get? d = some o) (hd : o.data = .dict es ep) (hs : Heap.SameBut d h h') : IsKey w h' k a := by
  obtain ⟨t, p, ha, hk⟩ := x
  have hne : a ≠ d := by
    rintro rfl
    rw [ha] at ho
    cases ho
    cases hd
  exact ⟨t, p, (hs.2 a hne).trans ha, hk.keeps ho hd hs⟩
theorem pyHash_key {k : Key} {a : Addr} {Q : Int → Shared → Prop} (hu : A.units + 2 < cLine) (hk : IsKey w s.heap k a) (h : Q (keyHash w k) { s with toks := s.toks + (k.2.length + 3) }) :
    wpAny (model pw w) A (pyHash (.ref a)) Q E s := by
  have hT := hk.typeIs
  obtain ⟨t, p, ho, hp⟩ := hk
  unfold pyHash
  first | unfold pyHashByItsType | skip
  refine wpAny_bind (wpAny_cRoomFor_or (.inr (by omega)) ?_)
  refine wpAny_bind (wpAny_specialOf hT F.slot_tuple_hash.lookup ?_)
  show wpAny _ _ (if (some (Value.builtin "tuple.__hash__") == some Value.none) = true then _ else _) Q E s
  rw [if_neg (by rw [beq_builtin_none]; exact Bool.false_ne_true)]
  refine wpAny_bind (wpAny_specialOf hT F.slot_tuple_hash.lookup ?_)
  show wpAny _ _ (callSpecialIfBoundUnlessNone? (.ref a) "__hash__" _ >>= _) Q E s
  refine wpAny_bind (wpAny_callSpecialIfBoundUnlessNone?_slot hT F.slot_tuple_hash (wpAny_call_entry F.slot_tuple_hash hT F.entry_tuple_hash ?_ (F.args_tuple_hash_1 _)))
  show wpAny _ _ (Builtin.Tuple.tupleItemsOf (.ref a) >>= _) _ _ s
  refine wpAny_bind (wpAny_tupleItemsOf ho rfl ?_)
  refine wpAny_bind ?_
  rw [← Array.forIn_toList]
  simp only [List.forIn_cons, List.forIn_nil]
  refine wpAny_bind (wpAny_bind ((bytesKind pw w).pyHash (isB w _ _) ?_))
  refine wpAny_pure ?_
  refine wpAny_bind (wpAny_bind (wpAny_pyHash_tuple (A := A.in1) (by show A.units + 1 < cLine; omega) hp ?_))
  refine wpAny_pure (wpAny_pure ?_)
  show wpAny _ _ (retInt (Builtin.Tuple.tupleHashOf [(bytesKind pw w).hash k.1, tupleKeyHash (intKind pw w) k.2])) _ _ _
  refine wpAny_ret_mkInt ?_
  show wpAny _ _ (if (decide (-(2 : Int) ^ 63 ≤ Builtin.Tuple.tupleHashOf [(bytesKind pw w).hash k.1, tupleKeyHash (intKind pw w) k.2]) && decide (Builtin.Tuple.tupleHashOf [(bytesKind pw w).hash k.1, tupleKeyHash (intKind pw w) k.2] < 2 ^ 63)) = true then _ else _) Q E _
  unfold keyHash reduceHash at h
  generalize Builtin.Tuple.tupleHashOf [(bytesKind pw w).hash k.1, tupleKeyHash (intKind pw w) k.2] = hv at h ⊢
  have e : s.toks + 1 + (k.2.length + 1) + 1 = s.toks + (k.2.length + 3) := by omega
  by_cases hr : (decide (-(2 : Int) ^ 63 ≤ hv) && decide (hv < 2 ^ 63)) = true
  · rw [if_pos hr]
    rw [if_pos hr] at h
    refine wpAny_pure ?_
    rw [← e] at h
    exact h
  · rw [if_neg hr]
    rw [if_neg hr] at h
    refine wpAny_bind (wpAny_rule (wpAny_pure ?_))
    rw [← e] at h
    exact h
end

/-! PQK2 -/
section
variable {w : World} {A : Around} {E : Value → Shared → Prop} {s : Shared}
theorem key_eq_tree {x y : Key} {a b : Addr} {P : Fin → Shared → Prop} (hu : A.units < cLine) (hx : IsKey w s.heap x a) (hy : IsKey w s.heap y b) (h : P (.done (.ret (.bool (decide (x = y))))) s) :
    wpAny (model pw w) A (Builtin.«tuple.__eq__» ⟨[.ref a, .ref b], []⟩) P E s := by
  have hTb := hy.typeIs
  obtain ⟨t, p, hoa, hpa⟩ := hx
  obtain ⟨u, q, hob, hpb⟩ := hy
  show wpAny _ _ (isInstance (.ref b) (.type "tuple") >>= _) _ _ s
  refine wpAny_bind (wpAny_isInstance hTb isSubtype_tuple_tuple ?_)
  simp only [Bool.not_true, Bool.false_eq_true, if_false]
  refine wpAny_bind (wpAny_tupleItemsOf hoa rfl ?_)
  refine wpAny_bind (wpAny_tupleItemsOf hob rfl ?_)
  refine wpAny_bind ?_
  simp only [List.zip_cons_cons, List.zip_nil_right, List.forIn_cons, List.forIn_nil]
  refine wpAny_bind (wpAny_bind ((bytesKind pw w).eqBool (isB w _ _) (isB w _ _) ?_))
  by_cases h1 : x.1 = y.1
  · rw [decide_eq_true h1]
    simp only [Bool.not_true, Bool.false_eq_true, if_false]
    refine wpAny_pure ?_
    refine wpAny_bind (wpAny_bind (wpAny_eqBool_tuple hu hpa hpb ?_))
    by_cases h2 : x.2 = y.2
    · rw [decide_eq_true h2]
      simp only [Bool.not_true, Bool.false_eq_true, if_false]
      refine wpAny_pure (wpAny_pure ?_)
      have e : decide (x = y) = true := decide_eq_true (Prod.ext h1 h2)
      rw [e] at h
      exact wpAny_pure h
    · rw [decide_eq_false h2]
      simp only [Bool.not_false, if_true]
      have e : decide (x = y) = false := decide_eq_false fun q => h2 (by rw [q])
      rw [e] at h
      exact wpAny_pure (wpAny_pure (wpAny_pure h))
  · rw [decide_eq_false h1]
    simp only [Bool.not_false, if_true]
    have e : decide (x = y) = false := decide_eq_false fun q => h1 (by rw [q])
    rw [e] at h
    exact wpAny_pure (wpAny_pure (wpAny_pure h))
theorem eqBool_key {x y : Key} {a b : Addr} {Q : Bool → Shared → Prop} (hu : A.units + 2 < cLine) (hx : IsKey w s.heap x a) (hy : IsKey w s.heap y b) (h : Q (decide (x = y)) s) :
    wpAny (model pw w) A (eqBool (.ref a) (.ref b)) Q E s := by
  unfold eqBool
  try with_reducible refine wpAny_holding ?_
  show wpAny _ _ (if (Value.ref a == Value.ref b) = true then _ else _) Q E s
  by_cases hab : (Value.ref a == Value.ref b) = true
  · rw [if_pos hab]
    have e : a = b := by have := eq_of_beq hab; injection this
    subst e
    obtain rfl := hx.inj hy
    exact wpAny_bind (wpAny_rule (wpAny_pure (by simpa using h)))
  · rw [if_neg hab]
    exact wpAny_bind (wpAny_richCompare_same_room (op := .Eq) hx.typeIs hy.typeIs F.slot_tuple_eq
      (wpAny_call_entry F.slot_tuple_eq hx.typeIs F.entry_tuple_eq (key_eq_tree (by show A.units + 1 < cLine; omega) hx hy ⟨_, rfl, (fun e => nomatch e), wpAny_truthy_bool h⟩) (F.args_tuple_eq_2 _ _)) (by omega))
theorem quiet_tuple7 {ks : List Int} {a : Addr} {Q : Bool → Shared → Prop} (hk : IsTupleKey (intKind pw w) s.heap ks a) (h : Q true s) : wpAny (model pw w) A (eqIsQuiet 7 (.ref a)) Q E s := by
  have hT := hk.typeIs
  obtain ⟨o, items, n, ho, _, hd, hi⟩ := hk
  unfold eqIsQuiet
  refine wpAny_bind (wpAny_specialOf hT F.slot_tuple_eq.lookup ?_)
  show wpAny _ _ (isInstance (.ref a) (.type "tuple") >>= _) _ _ s
  refine wpAny_bind (wpAny_isInstance hT isSubtype_tuple_tuple ?_)
  simp only [Bool.not_true, Bool.false_eq_true, if_false]
  refine wpAny_bind (wpAny_seqItems ho hd ?_)
  refine wpAny_bind ?_
  show wpAny _ _ (forIn items _ _) _ _ s
  rw [← Array.forIn_toList]
  refine wpAny_forIn_list _ (fun rest r s' => r.1 = none ∧ s' = s ∧ ∀ v ∈ rest, carriedByValue v = true) _ ?_ ?_ _ _ ⟨rfl, rfl, hi.byValue⟩
  · rintro v rest r s' ⟨hr, rfl, hall⟩
    rw [eqIsQuiet_byValue _ (hall v List.mem_cons_self)]
    refine wpAny_bind (wpAny_pure ?_)
    simp only [Bool.not_true, Bool.false_eq_true, if_false]
    exact wpAny_pure ⟨rfl, rfl, fun u hu' => hall u (List.mem_cons_of_mem _ hu')⟩
  · rintro ⟨r1, r2⟩ s' ⟨hr, rfl, _⟩
    simp only at hr
    subst hr
    exact wpAny_pure h
theorem quiet_key {k : Key} {a : Addr} {Q : Bool → Shared → Prop} (hk : IsKey w s.heap k a) (h : Q true s) : wpAny (model pw w) A (eqIsQuiet 8 (.ref a)) Q E s := by
  have hT := hk.typeIs
  obtain ⟨t, p, ho, hp⟩ := hk
  unfold eqIsQuiet
  refine wpAny_bind (wpAny_specialOf hT F.slot_tuple_eq.lookup ?_)
  show wpAny _ _ (isInstance (.ref a) (.type "tuple") >>= _) _ _ s
  refine wpAny_bind (wpAny_isInstance hT isSubtype_tuple_tuple ?_)
  simp only [Bool.not_true, Bool.false_eq_true, if_false]
  refine wpAny_bind (wpAny_seqItems ho rfl ?_)
  refine wpAny_bind ?_
  show wpAny _ _ (forIn (List.toArray [Value.bytes k.1.toArray t, Value.ref p]) _ _) _ _ s
  rw [← Array.forIn_toList]
  simp only [List.forIn_cons, List.forIn_nil]
  rw [eqIsQuiet_byValue 7 rfl]
  refine wpAny_bind (wpAny_bind (wpAny_pure ?_))
  simp only [Bool.not_true, Bool.false_eq_true, if_false]
  refine wpAny_pure ?_
  refine wpAny_bind (wpAny_bind (quiet_tuple7 hp ?_))
  simp only [Bool.not_true, Bool.false_eq_true, if_false]
  exact wpAny_pure (wpAny_pure (wpAny_pure h))
end
def keyKind (w : World) : HeapKind pw w Key where
  is := IsKey w
  hash := keyHash w
  draws := fun k => k.2.length + 3
  room := fun A => A.units + 2 < cLine
  inj := fun hx hy => hx.inj hy
  keeps := fun x ho hd hs => x.keeps ho hd hs
  pyHash := fun hu hk h => pyHash_key hu hk h
  eqBool := fun hu hx hy h => eqBool_key hu hx hy h
  quiet := fun hk h => quiet_key hk h

/-! PQF1 -/
theorem fillJ : (PySem.Challenge.rw_pq1189_01, hd.heap_1) = (PySem.Challenge.rw_pq1189_01, hd.heap_1) := by
  k_fill
  rfl
local macro_rules | `(tactic| k_lt $h) => `(tactic| (replace $h := allLt_of $h; dsimp only [AllLt] at $h:ident))
theorem ite_posBJ {c : Prop} [Decidable c] {a b : Prop} (hc : decide c = true) (h : a) : if c then a else b := by rw [if_pos (of_decide_eq_true hc)]; exact h
theorem ite_negBJ {c : Prop} [Decidable c] {a b : Prop} (hc : decide c = false) (h : b) : if c then a else b := by rw [if_neg (of_decide_eq_false hc)]; exact h
local macro_rules | `(tactic| k_steps) => `(tactic| k_extra "m:k_steps")
local macro_rules | `(tactic| k_room) => `(tactic| k_extra "m:k_room")
local macro_rules | `(tactic| walk_at "eval Call") => `(tactic| k_extra "m:eval Call")
local macro_rules | `(tactic| walk_at "eval Call Attribute") => `(tactic| k_extra "m:eval Call Attribute")
local macro_rules | `(tactic| walk_at "subscriptTail") => `(tactic| k_extra "m:subscriptTail")
local macro_rules | `(tactic| walk_at "subscriptTail Attribute Attribute bytes int") => `(tactic| k_extra "m:subscriptTail Attribute Attribute bytes int")
local macro_rules | `(tactic| walk_at "subscriptTail Attribute BinOp bytes int") => `(tactic| k_extra "m:subscriptTail Attribute BinOp bytes int")
local macro_rules | `(tactic| walk_at "subscriptTail Name Name bytes int") => `(tactic| k_extra "m:subscriptTail Name Name bytes int")
local macro_rules | `(tactic| walk_at "subscriptTail Name BinOp bytes int") => `(tactic| k_extra "m:subscriptTail Name BinOp bytes int")
local macro_rules | `(tactic| walk_at "subscriptTail Constant Constant bytes int") => `(tactic| k_extra "m:subscriptTail Constant Constant bytes int")
local macro_rules | `(tactic| walk_at "call ref") => `(tactic| k_extra "m:call ref")
local macro_rules | `(tactic| walk_at "And") => `(tactic| k_extra "m:And")
local macro_rules | `(tactic| walk_at "getMethod ref") => `(tactic| k_extra "m:getMethod ref")
local macro_rules | `(tactic| walk_at "call builtin:len") => `(tactic| k_extra "m:call builtin:len")
local macro_rules | `(tactic| walk_at "call type:bytes") => `(tactic| k_extra "m:call type:bytes")
local macro_rules | `(tactic| walk_at "subscriptTail Name Slice ref ref") => `(tactic| k_extra "m:subscriptTail Name Slice ref ref")
local macro_rules | `(tactic| walk_at "compareOp In int bytes") => `(tactic| k_extra "m:compareOp In int bytes")
local macro_rules | `(tactic| walk_at "compareOp NotIn int bytes") => `(tactic| k_extra "m:compareOp NotIn int bytes")
local macro_rules | `(tactic| k_ne) => `(tactic| k_extra "m:k_ne")
local macro_rules | `(tactic| k_all) => `(tactic| k_extra "m:k_all")
local macro_rules | `(tactic| walk_at "subscriptTail Name Slice bytes ref") => `(tactic| k_extra "m:subscriptTail Name Slice bytes ref")
local macro_rules | `(tactic| walk_at "subscriptTail Attribute Slice bytes ref") => `(tactic| k_extra "m:subscriptTail Attribute Slice bytes ref")
local macro_rules | `(tactic| walk_at "ite") => `(tactic| k_extra "m:ite")
theorem regXmac : True := by
  k_with "Back" => ((k_dflt (refine' back_ ?zzk1 ?zzk2 ?_; (case zzk1 => k_asm); (case zzk2 => k_asm); k_whole); intro kE; (try dsimp only)))
  k_with "m:k_steps" => (repeat' (first | (k_unfold; (try dsimp only)) | (walk1; (try ((fail_if_success (with_reducible show wpAny _ _ (subscriptTail _ _ _ _) _ _ _)); (first | (with_reducible show wpAny _ _ _ _ _ _) | (with_reducible show wG _ _ _ _ _)); dsimp only))) | (dsimp only; walk1) | (refine g_out (by with_reducible assumption) ?_) | fail "no step"))
  k_with "m:k_room" => ((dsimp only [atA]; walk_at "lim"))
  k_with "m:eval Call" => ((k_here; (fail_if_success (with_reducible show wpAny _ _ (eval _ (compEnv _ _ _)) _ _ _)); (fail_if_success (with_reducible show wpAny _ _ (eval (Expr.Call (Expr.Attribute _ _ _) _ _ _) _) _ _ _)); k_dflt (refine call_any ?_)))
  k_with "m:eval Call Attribute" => ((k_here; k_dflt (refine MethodCall_ ?_)))
  k_with "m:subscriptTail" => ((k_here; (with_reducible show wpAny _ _ (subscriptTail _ _ (Value.bytes (List.toArray _) _) (Value.int _ _)) _ _ _); k_dflt (refine' bytes_item_K ?zzf ?zza ?zzb ?zze ?_; (case zzf => kby_size); (case zza => first | decide | omega); (case zzb => first | decide | omega | (simp only [List.length_cons, List.length_nil]; omega)); (case zze => (show ((UInt8.toNat _ : Nat) : Int) = _; first | (with_unfolding_all exact (rfl : (_ : Int) = (37 : Int))) | (with_unfolding_all exact (rfl : (_ : Int) = (112 : Int))) | (with_unfolding_all exact (rfl : (_ : Int) = (49 : Int))) | (with_unfolding_all exact (rfl : (_ : Int) = (100 : Int))) | (with_unfolding_all exact (rfl : (_ : Int) = (105 : Int))) | (with_unfolding_all exact (rfl : (_ : Int) = (27 : Int))) | (with_unfolding_all exact (rfl : (_ : Int) = (91 : Int))) | (with_unfolding_all assumption) | exact rfl)); k_whole)))
  k_with "m:subscriptTail Attribute Attribute bytes int" => ((k_extra "m:subscriptTail"))
  k_with "m:subscriptTail Attribute BinOp bytes int" => ((k_extra "m:subscriptTail"))
  k_with "m:subscriptTail Name Name bytes int" => ((k_extra "m:subscriptTail"))
  k_with "m:subscriptTail Name BinOp bytes int" => ((k_extra "m:subscriptTail"))
  k_with "m:subscriptTail Constant Constant bytes int" => ((k_extra "m:subscriptTail"))
  k_with "m:call ref" => ((k_here; k_dflt (refine wpAny_call ?_; k_enter)))
  k_with "TurnG" => (dsimp only [TurnG])
  k_with "thenG" => ((dsimp only [thenG]; (try (refine gen_toks ?_; intro k'))))
  k_with "whileG" => ((dsimp only [whileG]; (try (refine gen_toksC ?_; intro k'))))
  k_with "loopG" => ((dsimp only [loopG]; (try (refine gen_toksC ?_; intro k'))))
  k_with "LvG" => (dsimp only [LvG])
  k_with "InitG" => ((dsimp only [InitG]; refine ⟨rfl, ?_⟩))
  k_with "m:And" => (((refine and_here (by k_asm) (by k_asm) ?_); (try dsimp only [List.nil_append, List.cons_append])))
  k_with "cG" => (((fail_if_success (k_extra "nowhile")); (with_reducible refine cG_while1 ?_)))
  k_with "cG" => (((with_reducible show cG _ _ (Code.call _ _) _ _); k_dflt (refine' cG_inline ?zzB ?zzF ?zzX ?zzT ?zzN ?zzf ?zzk ?zzroom ?zzho ?zzhcd ?zzhbind ?zzhloc ?_ ?zzc2 ?zzc3 ?zzc4 ?zzc5; (case zzB => k_asm); (case zzF => k_asm); (case zzX => k_asm); (case zzT => k_asm); (case zzN => k_asm); (case zzf => first | exact rfl | assumption); (case zzk => first | exact rfl | assumption); (case zzroom => walk_at "lim"); (case zzho => k_is); (case zzhcd => k_is); (case zzhbind => (intro _; first | exact BindsTo.of_eq rfl | exact binds_K (by k_in) rfl (by k_is) rfl rfl rfl)); (case zzhloc => exact locs rfl); (case zzc2 => exact rfl); (case zzc3 => exact rfl); (case zzc4 => exact rfl); (case zzc5 => decide); k_whole; intro g' L' h' FG' F' N' B' X' T' P' k' hP'; (try dsimp only))))
  k_with "wG" => (((with_reducible show wG _ _ (call (Value.ref _) _) _ _); (fail_if_success (walk_at "noinline")); k_dflt (first
  | (refine' gcall_inline ?zzB ?zzF ?zzX ?zzT ?zzN ?zzf ?zzk ?zzroom ?zzho ?zzhcd ?zzhbind ?zzhloc ?_ ?zzc2 ?zzc3 ?zzc4 ?zzc5; (case zzB => k_asm); (case zzF => k_asm); (case zzX => k_asm); (case zzT => k_asm); (case zzN => k_asm); (case zzf => exact rfl); (case zzk => exact rfl); (case zzroom => walk_at "lim"); (case zzho => k_is); (case zzhcd => k_is); (case zzhbind => (intro _; first | exact BindsTo.of_eq rfl | exact binds_K (by k_in) rfl (by k_is) rfl rfl rfl)); (case zzhloc => exact locs rfl); (case zzc2 => exact rfl); (case zzc3 => exact rfl); (case zzc4 => exact rfl); (case zzc5 => decide); k_whole; intro g' L' h' FG' F' N' B' X' T' P' k' hP'; (try dsimp only))
  | (refine' gcall_make ?zzF ?zzX ?zzN ?zzk1 ?zzk2 ?zzk3 ?_; (case zzF => k_asm); (case zzX => k_asm); (case zzN => k_asm); (case zzk1 => k_is); (case zzk2 => k_is); (case zzk3 => k_is); k_whole; intro x' d' h' F' N' l1 l2; (try k_lt l1); (try k_lt2 l2); (try k_sweep)))))
  k_with "wG" => (((with_reducible show wG _ _ (call (Value.builtin _) _) _ _); refine wG_any ?_))
  k_with "wG" => (((with_reducible show wG _ _ (call (Value.type _) _) _ _); refine wG_any ?_))
  k_with "wG" => (((with_reducible show wG _ _ (call (Value.type "bytearray") []) _ _); k_dflt (refine' ba_new_K ?zzF ?zzN ?_; (case zzF => k_asm); (case zzN => k_asm); intro a' h' F' N' l1; (try k_lt l1); (try k_sweep))))
  k_with "wG" => (((with_reducible show wG _ _ (call (Value.builtin "bytearray.append") _) _ _); k_dflt (refine' ba_append_K ?zzF ?zzN ?zzU ?zzh0 ?zzh1 ?zzhz ?_; (case zzF => k_asm); (case zzN => k_asm); (case zzU => k_upd); (case zzh0 => omega); (case zzh1 => omega); (case zzhz => ((try simp only [List.length_append, List.length_cons, List.length_nil, List.length_take]); omega)); intro h' F' N'; (try k_sweep))))
  k_with "wG" => (((with_reducible show wG _ _ (call (Value.builtin "bytearray.append") _) _ _); k_dflt (refine' ba_append_K8 ?zzF ?zzN ?zzU ?zzhz ?_; (case zzF => k_asm); (case zzN => k_asm); (case zzU => k_upd); (case zzhz => ((try simp only [List.length_append, List.length_cons, List.length_nil, List.length_take]); omega)); intro h' F' N'; (try k_sweep))))
  k_with "wG" => (((with_reducible show wG _ _ (call (Value.builtin "bytearray.extend") _) _ _); k_dflt (refine' ba_extend_K ?zzF ?zzN ?zzU ?zzhz ?_; (case zzF => k_asm); (case zzN => k_asm); (case zzU => k_upd); (case zzhz => ((try simp only [List.length_append, List.length_cons, List.length_nil, List.length_take]); omega)); intro h' F' N'; (try k_sweep))))
  k_with "wG" => (((with_reducible show wG _ _ (callWith _ (Value.ref _) _ _ _) _ _); k_dflt (refine' gc_K ?zzhk ?zzhp ?_; (case zzhk => k_is); (case zzhp => exact rfl))))
  k_with "wG" => (((with_reducible show wG _ _ (callWith _ (Value.builtin _) _ _ _) _ _); k_dflt (refine' gc_B ?zzhp ?_; (case zzhp => exact rfl))))
  k_with "wG" => (((with_reducible show wG _ _ (callWith _ (Value.type _) _ _ _) _ _); k_dflt (refine' gc_T ?zzhp ?_; (case zzhp => exact rfl))))
  k_with "wG" => (first | (with_reducible refine gs_nil ?_) | ((with_reducible refine gs_cons ?_ ?_); rotate_left; (with_unfolding_all rfl)))
  k_with "wG" => (((with_reducible show wG _ _ (eval _ _) _ _); (fail_if_success (with_reducible show wG _ _ (eval (Expr.Call _ _ _ _) _) _ _)); (with_reducible refine ge_any ?_)))
  k_with "wG" => (((with_reducible show wG _ _ (eval _ _) _ _); (first
  | ((with_reducible show wG _ _ (eval (Expr.Call (Expr.Attribute _ _ _) _ _ _) _) _ _); k_dflt (refine ge_methG ?_))
  | ((with_reducible refine ge_call ?_ ?_); rotate_left; (with_unfolding_all rfl))
  | (with_reducible refine ge_tuple ?_) | (with_reducible refine ge_list ?_) | (with_reducible refine ge_ifexp ?_)
  | ((with_reducible show wG _ _ (eval (Expr.Subscript (Expr.Call _ _ _ _) _ _) _) _ _); (with_reducible refine ge_sub ?_))
  | ((with_reducible show wG _ _ (eval (Expr.Compare (Expr.Call _ _ _ _) _ _ _) _) _ _); ((with_reducible refine ge_compare ?_ ?_); rotate_left; (with_unfolding_all rfl)))
  | ((with_reducible show wG _ _ (eval (Expr.BoolOp BoolOp.And _ _) _) _ _); (with_reducible refine ge_and2 ?_)))))
  k_with "wG" => (((with_reducible show wG _ _ (exec _ _) _ _); (first
  | ((with_reducible refine gx_assign_name ?_ ?_); rotate_left; (with_unfolding_all rfl))
  | ((with_reducible show wG _ _ (exec (Stmt.Assign [Expr.Tuple _ _ _] (Expr.Tuple _ _ _) _) _) _ _); (with_reducible refine gx_assign_swap ?_ ?_ ?_); rotate_left; (with_unfolding_all rfl); (with_unfolding_all rfl))
  | ((with_reducible refine gx_assign1 ?_ ?_ ?_ ?_); rotate_left; (with_unfolding_all rfl); (with_unfolding_all rfl); (with_unfolding_all rfl))
  | ((with_reducible refine gx_expr ?_ ?_ ?_); rotate_left; (with_unfolding_all rfl); (with_unfolding_all rfl))
  | (with_reducible refine gx_if ?_) | (with_reducible refine gx_return ?_) | (with_reducible refine gx_while ?_)
  | ((with_reducible refine gx_for ?_ ?_); rotate_left; (intro _; with_unfolding_all rfl))
  | (with_reducible refine gx_try ?_))))
  k_with "wG" => (((fail_if_success (k_extra "nocons")); first | (with_reducible refine gx_nil ?_) | (with_reducible refine gx_cons ?_)))
  k_with "m:getMethod ref" => ((k_here; k_dflt (first
  | ((with_reducible show wpAny _ _ (getMethod _ (Str.ofString "append") _) _ _ _); refine' getMethod_ba_append ?zzN ?zzm ?_; (case zzN => k_asm); (case zzm => k_mem); k_whole)
  | ((with_reducible show wpAny _ _ (getMethod _ (Str.ofString "extend") _) _ _ _); refine' getMethod_ba_extend ?zzN ?zzm ?_; (case zzN => k_asm); (case zzm => k_mem); k_whole))))
  k_with "m:call builtin:len" => ((k_here; (with_reducible show wpAny _ _ (call (Value.builtin "len") [Value.ref _]) _ _ _); k_dflt (refine' ba_len ?zzN ?zzm ?zzz ?_; (case zzN => k_asm); (case zzm => k_mem); (case zzz => ((try simp only [List.length_append, List.length_cons, List.length_nil, List.length_take]); omega)); intro t' k'; (try simp only [List.length_append, List.length_cons, List.length_nil, List.length_take]))))
  k_with "m:call type:bytes" => ((k_here; (with_reducible show wpAny _ _ (call (Value.type "bytes") [Value.ref _]) _ _ _); k_dflt (refine' ba_bytes ?zzN ?zzm ?zzz ?_; (case zzN => k_asm); (case zzm => k_mem); (case zzz => ((try simp only [List.length_append, List.length_cons, List.length_nil, List.length_reverse, List.length_take]); omega)); intro t' k')))
  k_with "m:subscriptTail Name Slice ref ref" => ((k_here; (with_reducible show wpAny _ _ (subscriptTail _ _ (Value.ref _) (Value.ref _)) _ _ _); k_dflt (refine' ba_rev ?zzF ?zzN ?zzm ?zzz ?_ ?zzhs ?zzht; (case zzF => k_asm); (case zzN => k_asm); (case zzm => k_mem); (case zzz => ((try simp only [List.length_append, List.length_cons, List.length_nil, List.length_take]); omega)); (case zzhs => with_unfolding_all rfl); (case zzht => kmk_pure); intro a' h' F' N' l1; (try k_lt l1); (try k_sweep))))
  k_with "wG" => (((with_reducible show wG _ _ (call _ (_ ++ _)) _ _); (dsimp only [List.nil_append, List.cons_append])))
  k_with "m:compareOp In int bytes" => ((k_here; k_dflt (refine' in_bytes ?zzh0 ?zzh1 ?_; (case zzh0 => first | omega | decide); (case zzh1 => first | omega | decide))))
  k_with "m:compareOp NotIn int bytes" => ((k_here; k_dflt (refine' notin_bytes ?zzh0 ?zzh1 ?_; (case zzh0 => first | omega | decide); (case zzh1 => first | omega | decide))))
  k_with "lim" => (first | exact lim0 (by with_reducible assumption) | (refine lim1 (by with_reducible assumption) ?_; exact rfl) | (refine lim2 (by with_reducible assumption) ?_; exact rfl) | (refine lim3 (by with_reducible assumption) ?_; exact rfl) | (refine lim4 (by with_reducible assumption) ?_; exact rfl) | (refine lim5 (by with_reducible assumption) ?_; exact rfl) | omega)
  k_with "ne" => (((try dsimp only); first | (with_reducible assumption) | exact Ne.symm (by with_reducible assumption) | exact Nat.ne_of_lt (by with_reducible assumption) | exact Nat.ne_of_gt (by with_reducible assumption) | exact ne0 (by with_reducible assumption) | exact ne0' (by with_reducible assumption) | exact ne1 (by with_reducible assumption) | exact ne1' (by with_reducible assumption) | exact ne2 (by with_reducible assumption) | exact ne2' (by with_reducible assumption) | exact ne3 (by with_reducible assumption) | exact ne3' (by with_reducible assumption) | exact ne4 (by with_reducible assumption) | exact ne4' (by with_reducible assumption) | exact ne5 (by with_reducible assumption) | exact ne5' (by with_reducible assumption) | exact ne6 (by with_reducible assumption) | exact ne6' (by with_reducible assumption) | exact ne7 (by with_reducible assumption) | exact ne7' (by with_reducible assumption) | exact ne8 (by with_reducible assumption) | exact ne8' (by with_reducible assumption) | exact ne9 (by with_reducible assumption) | exact ne9' (by with_reducible assumption) | exact ne10 (by with_reducible assumption) | exact ne10' (by with_reducible assumption) | exact ne11 (by with_reducible assumption) | exact ne11' (by with_reducible assumption) | exact ne12 (by with_reducible assumption) | exact ne12' (by with_reducible assumption)))
  k_with "m:k_ne" => (first | exact AllNe.get (by with_reducible assumption) (by k_mem) | exact AllNe.get' (by with_reducible assumption) (by k_mem) | exact Off.get (by with_reducible assumption) | exact Off.get' (by with_reducible assumption) | (walk_at "ne") | (refine neN ?_; (try dsimp only); omega))
  k_with "end all" => (first | exact List.forall_mem_nil _ | (refine' List.forall_mem_cons.mpr ⟨?zza, ?zzb⟩; (case zza => k_ne); (case zzb => walk_at "end all")) | exact keptOff (by with_reducible assumption) (by k_asm) (by k_mem) (by walk_at "end tail") (by exact rfl) | exact tailOff (by with_reducible assumption) (by with_reducible assumption) (by k_asm) (by k_mem) (by walk_at "end tail") (by exact rfl))
  k_with "m:k_all" => (walk_at "end all")
  k_with "end mods" => ((intro p hp; (repeat' (first | (exact absurd hp List.not_mem_nil) | (rcases List.mem_cons.mp hp with rfl | hp))); (all_goals first | exact Or.inr (by k_mem) | exact Or.inl (by simp only [List.mem_cons, true_or, or_true]))))
  k_with "end new" => ((refine New.of' hsub (by k_asm) (by k_mem) ?_; walk_at "end all"))
  k_with "m:subscriptTail Name Slice bytes ref" => ((k_here; (with_reducible show wpAny _ _ (subscriptTail _ (Expr.Slice _ _ none _) (Value.bytes (List.toArray _) _) (Value.ref _)) _ _ _); k_dflt (refine' bslice_K ?zzF ?zzN ?zzl ?zzu ?zzz ?_ ?zzhs ?zzht; (case zzF => k_asm); (case zzN => k_asm); (case zzl => constructor); (case zzu => constructor); (case zzz => ((try simp only [List.length_cons, List.length_nil]); omega)); (case zzhs => with_unfolding_all rfl); (case zzht => kmk_pure); intro h' t' k' F' N'; (try k_sweep))))
  k_with "m:subscriptTail Attribute Slice bytes ref" => (k_extra "m:subscriptTail Name Slice bytes ref")
  k_with "m:ite" => ((k_here; first | refine ite_pos (by with_reducible assumption) ?_ | refine ite_posBJ (by with_unfolding_all exact rfl) ?_ | refine ite_negBJ (by with_unfolding_all exact rfl) ?_))
  trivial

/-- the figures of a number below a hundred -/
def dig (n : Int) : UInt8 := [48, 49, 50, 51, 52, 53, 54, 55, 56, 57, 97, 98, 99, 100, 101, 102].getD n.toNat 0
def figs (n : Int) : List UInt8 := if n < 10 then [dig (n.fmod 10)] else [dig ((n.fdiv 10).fmod 10), dig (n.fmod 10)]
theorem figs1 {n : Int} (h : n < 10) : figs n = [dig (n.fmod 10)] := by simp [figs, h]
theorem figs2 {n : Int} (h : ¬ n < 10) : figs n = [dig ((n.fdiv 10).fmod 10), dig (n.fmod 10)] := by simp [figs, h]
theorem does_figures (w : World) (n : Int) (t u : Tok) (h0 : 0 ≤ n) (h1 : n < 100) : DoesG w 166 20 100 [.int n t, .int 10 u, .bool false] [] [] (fun _ v _ => IsB v (figs n)) := by
  intro dp un gd env outer A₀ base h₀ L m mean mg mb s Q B F X T N hf hk hd hu hret
  refine' enter_G (binds := [(Str.ofString "number", .int n t), (Str.ofString "base", .int 10 u), (Str.ofString "is_great", .bool false)]) ?B ?F ?X ?T ?N ?f ?k ?room ?ho ?hcd ?hbind ?hloc ?_ ?c2 ?c3 ?c4 ?c5
  (case B => exact B); (case F => exact F); (case X => exact X); (case T => exact T); (case N => exact N); (case f => exact hf); (case k => exact hk)
  (case room => walk_at "lim")
  (case ho => k_is); (case hcd => k_is); (case hbind => (intro _; exact BindsTo.of_eq rfl)); (case hloc => exact locs rfl)
  (case c2 => exact rfl); (case c3 => exact rfl); (case c4 => exact rfl); (case c5 => decide)
  k_whole
  clear B F X T N hf hk
  intro g' L' h' F' N' B' X' T' hsub hlt hsz
  (try dsimp only)
  (try k_fold)
  k_steps
  all_goals rcases (by omega : n < 10 ∨ 10 ≤ n) with hlt | hge
  all_goals first
    | (exfalso; (try simp only [Int.fdiv_eq_ediv_of_nonneg _ (by decide : (0 : Int) ≤ 10)] at *); simp at *; omega)
    | (refine hret _ _ _ (kE [] (by intro p hp; cases hp)) (isB_of ?_); first | (rw [figs1 hlt]; rfl) | (rw [figs2 (by omega)]; rfl))

/-! PQF3 -/


theorem regXmac5 : True := by
  k_with "end use0" => (((case zzB => k_asm); (case zzF => k_asm); (case zzX => k_asm); (case zzT => k_asm); (case zzN => k_asm); (case zzhs => (intro p hp; cases hp)); (case zzhm => (intro a ha; cases ha)); (case zzf => exact rfl); (case zzk => exact rfl); (case zzhd => walk_at "lim"); (case zzhu => walk_at "lim")))
  trivial

local macro_rules | `(tactic| walk_at "binaryOp Add bytes bytes") => `(tactic| ((with_reducible show wpAny _ _ (binaryOp Operator.Add (Value.bytes _ _) (Value.bytes _ _)) _ _ _); (refine KBy.add_bytes (by (simp only [List.size_toArray, List.length_nil, List.length_cons]; omega)) ?_); intro _ _))
theorem isB_arr {a : Array UInt8} {c : List UInt8} {t : Tok} (e : a = c.toArray) : IsB (.bytes a t) c := ⟨t, by rw [e]⟩
theorem does_padded (w : World) (b : List UInt8) (t u v x : Tok) (hb : b.length < 100000) : Does w 173 20 100 [.bytes #[] t, .bytes b.toArray u, .bytes #[] v, .int 0 x, .bool false] [] [] (fun _ v _ => IsB v b) := by
  intro dp un gd env outer A₀ base h₀ L m mean mg mb s Q E B F X T N hf hk hd hu hret
  refine' enter_def (binds := [(Str.ofString "head", .bytes #[] t), (Str.ofString "body", .bytes b.toArray u), (Str.ofString "flags", .bytes #[] v), (Str.ofString "width", .int 0 x), (Str.ofString "has_precision", .bool false)]) ?B ?F ?X ?T ?N ?f ?k ?room ?ho ?hcd ?hbind ?hloc ?_ ?c2 ?c3 ?c4 ?c5
  (case B => exact B); (case F => exact F); (case X => exact X); (case T => exact T); (case N => exact N); (case f => exact hf); (case k => exact hk)
  (case room => walk_at "lim")
  (case ho => k_is); (case hcd => k_is); (case hbind => (intro _; exact BindsTo.of_eq rfl)); (case hloc => exact locs rfl)
  (case c2 => exact rfl); (case c3 => exact rfl); (case c4 => exact rfl); (case c5 => decide)
  k_whole
  clear B F X T N hf hk
  intro g' L' h' F' N' B' X' T' hsub hlt hsz
  (try dsimp only)
  (try k_fold)
  k_steps
  exact hret _ _ _ (kE [] (by intro p hp; cases hp)) (isB_arr (by simp))
theorem figs_len (n : Int) : (figs n).length ≤ 2 := by unfold figs; split <;> simp
local macro_rules | `(tactic| walk_at "compareOp In bytes bytes") => `(tactic| k_extra "m:compareOp In bytes bytes")
theorem regXmac6 : True := by
  k_with "noinline" => ((with_reducible show wG _ _ (call (Value.ref 166) _) _ _))
  k_with "wG" => (((with_reducible show wG _ _ (call (Value.ref 166) _) _ _); k_dflt (refine' DoesG.useM (does_figures _ _ _ _ ?zzh0 ?zzh1) ?zzB ?zzF ?zzX ?zzT ?zzN ?zzhs ?zzhm ?zzf ?zzk ?zzhd ?zzhu ?_; (walk_at "end use0"); (case zzh0 => first | omega | (split <;> omega)); (case zzh1 => first | omega | (split <;> omega)); k_whole; intro v' h' k' F' x' lt' P'; (((first | refine Exists.elim P' ?_ | refine And.elim ?_ P'); clear P'; intro t' P'); subst P'); refine' led0 ?zzN x' ?_; (case zzN => k_asm); intro N'; clear x' lt'; (try k_sweep))))
  k_with "noinline" => ((with_reducible show wG _ _ (call (Value.ref 173) _) _ _))
  k_with "wG" => (((with_reducible show wG _ _ (call (Value.ref 173) _) _ _); k_dflt (refine' DoesG.useM (Does.toG (does_padded _ _ _ _ _ _ ?zzhb)) ?zzB ?zzF ?zzX ?zzT ?zzN ?zzhs ?zzhm ?zzf ?zzk ?zzhd ?zzhu ?_; (walk_at "end use0"); (case zzhb => first | (exact Nat.lt_of_le_of_lt (figs_len _) (by decide)) | omega); k_whole; intro v' h' k' F' x' lt' P'; (((first | refine Exists.elim P' ?_ | refine And.elim ?_ P'); clear P'; intro t' P'); subst P'); refine' led0 ?zzN x' ?_; (case zzN => k_asm); intro N'; clear x' lt'; (try k_sweep))))
  k_with "m:compareOp In bytes bytes" => ((k_here; k_dflt (refine' in_bytes2 ?zzhh ?zzF ?zzN ?_; (case zzhh => exact rfl); (case zzF => k_asm); (case zzN => k_asm); intro h' k' F' N'; (try k_sweep))))
  trivial

theorem does_written (w : World) (n : Int) (t1 t2 t3 t4 : Tok) (h0 : 0 ≤ n) (h1 : n < 100) : DoesG w 180 40 160 [.int 100 t1, .bytes #[] t2, .int 0 t3, .none, .int n t4] [] [] (fun _ v _ => IsB v (figs n)) := by
  have hl := figs_len n
  intro dp un gd env outer A₀ base h₀ L m mean mg mb s Q B F X T N hf hk hd hu hret
  refine' enter_G (binds := [(Str.ofString "letter", .int 100 t1), (Str.ofString "flags", .bytes #[] t2), (Str.ofString "width", .int 0 t3), (Str.ofString "precision", .none), (Str.ofString "value", .int n t4)]) ?B ?F ?X ?T ?N ?f ?k ?room ?ho ?hcd ?hbind ?hloc ?_ ?c2 ?c3 ?c4 ?c5
  (case B => exact B); (case F => exact F); (case X => exact X); (case T => exact T); (case N => exact N); (case f => exact hf); (case k => exact hk)
  (case room => walk_at "lim")
  (case ho => k_is); (case hcd => k_is); (case hbind => (intro _; exact BindsTo.of_eq rfl)); (case hloc => exact locs rfl)
  (case c2 => exact rfl); (case c3 => exact rfl); (case c4 => exact rfl); (case c5 => decide)
  k_whole
  clear B F X T N hf hk
  intro g' L' h' F' N' B' X' T' hsub hlt hsz
  (try dsimp only)
  (try k_fold)
  k_steps
  refine hret _ _ _ (kE [] (by intro p hp; cases hp)) (isB_arr ?_)
  rw [if_neg (by omega)]

/-! PQR1 -/
abbrev rdE (w : World) (k : String) (tk : Tok) (v : Value) : DictEntry := ⟨PyData.keyHash w.params (Str.ofString k), .str (Str.ofString k) tk, v⟩
/-- the fields of a reader -/
abbrev rdD (w : World) (k1 k2 k3 k4 k5 : Tok) (o : List UInt8) (t : Tok) (p : Int) (pt : Tok) (r tx op : Addr) : Obj :=
  dictOf [rdE w "octets" k1 (.bytes o.toArray t), rdE w "at" k2 (.int p pt), rdE w "rows" k3 (.ref r), rdE w "text" k4 (.ref tx), rdE w "opened" k5 (.ref op)] 5
abbrev rdL (w : World) (x dx r tx op : Addr) (k1 k2 k3 k4 k5 : Tok) (o : List UInt8) (t : Tok) (p : Int) (pt : Tok) (rs : Array Value) (n : Nat) (tb : List UInt8) : List (Addr × Obj) :=
  [(x, instObj 148 dx), (dx, rdD w k1 k2 k3 k4 k5 o t p pt r tx op), (r, listOf rs n), (tx, baOf tb), (op, listOf #[] 0)]
/-- they stand apart -/
inductive Apart5 (x dx r tx op : Nat) : Prop
  | intro : x ≠ dx → x ≠ r → x ≠ tx → x ≠ op → dx ≠ r → dx ≠ tx → dx ≠ op → r ≠ tx → r ≠ op → tx ≠ op → Apart5 x dx r tx op
def Put1 (w : World) (x dx r tx op : Addr) (k1 k2 k3 k4 k5 : Tok) (o : List UInt8) (t : Tok) (p : Int) (pt : Tok) (rs : Array Value) (n : Nat) (tb : List UInt8) (a : Addr) (h : Heap) (v : Value) (h' : Heap) : Prop :=
  v = .none ∧ ∃ tx' tup t1 t2, New h tup (tupOf [.str (Str.ofString "text") t1, .bytes tb.toArray t2]) h' ∧ New h tx' (baOf []) h' ∧ tup ≠ tx' ∧
    h'.get? dx = some (rdD w k1 k2 k3 k4 k5 o t p pt r tx' op) ∧ h'.get? r = some (listOf ((rs.push (.ref tup)).push (.ref a)) (n + 1 + 1))
def Put0 (w : World) (x dx r tx op : Addr) (k1 k2 k3 k4 k5 : Tok) (o : List UInt8) (t : Tok) (p : Int) (pt : Tok) (rs : Array Value) (n : Nat) (a : Addr) (h : Heap) (v : Value) (h' : Heap) : Prop :=
  v = .none ∧ h'.get? r = some (listOf (rs.push (.ref a)) (n + 1))

theorem does_put1 (w : World) (x dx r tx op a : Addr) (k1 k2 k3 k4 k5 : Tok) (o : List UInt8) (t : Tok) (p : Int) (pt : Tok) (rs : Array Value) (n : Nat) (b : UInt8) (tb : List UInt8) (D : Apart5 x dx r tx op) (hr : rs.size < 1000) (hb : tb.length < 1000) :
    DoesG w 103 20 100 [.ref x, .ref a] (rdL w x dx r tx op k1 k2 k3 k4 k5 o t p pt rs n (b :: tb)) [dx, r] (Put1 w x dx r tx op k1 k2 k3 k4 k5 o t p pt rs n (b :: tb) a) := by
  obtain ⟨d1, d2, d3, d4, d5, d6, d7, d8, d9, d10⟩ := D
  intro dp un gd env outer A₀ base h₀ L m mean mg mb s Q B F X T N hf hk hd hu hret
  refine' enter_G (binds := [(Str.ofString "self", .ref x), (Str.ofString "row", .ref a)]) ?B ?F ?X ?T ?N ?f ?k ?room ?ho ?hcd ?hbind ?hloc ?_ ?c2 ?c3 ?c4 ?c5
  (case B => exact B); (case F => exact F); (case X => exact X); (case T => exact T); (case N => exact N); (case f => exact hf); (case k => exact hk)
  (case room => walk_at "lim")
  (case ho => k_is); (case hcd => k_is); (case hbind => (intro _; exact BindsTo.of_eq rfl)); (case hloc => exact locs rfl)
  (case c2 => exact rfl); (case c3 => exact rfl); (case c4 => exact rfl); (case c5 => decide)
  k_whole
  clear B F X T N hf hk
  intro g' L' h' F' N' B' X' T' hsub hlt hsz
  (try dsimp only)
  (try k_fold)
  k_steps
  refine' hret _ _ _ (kE [dx, r] ?m) ⟨rfl, _, _, _, _, ?n1, ?n2, ?n3, (News.get (by k_asm) (by k_mem)), (News.get (by k_asm) (by k_mem))⟩
  (case m => walk_at "end mods")
  (case n1 => walk_at "end new")
  (case n2 => walk_at "end new")
  (case n3 => k_ne)
theorem does_put0 (w : World) (x dx r tx op a : Addr) (k1 k2 k3 k4 k5 : Tok) (o : List UInt8) (t : Tok) (p : Int) (pt : Tok) (rs : Array Value) (n : Nat) (D : Apart5 x dx r tx op) (hr : rs.size < 1000) :
    DoesG w 103 20 100 [.ref x, .ref a] (rdL w x dx r tx op k1 k2 k3 k4 k5 o t p pt rs n []) [r] (Put0 w x dx r tx op k1 k2 k3 k4 k5 o t p pt rs n a) := by
  obtain ⟨d1, d2, d3, d4, d5, d6, d7, d8, d9, d10⟩ := D
  intro dp un gd env outer A₀ base h₀ L m mean mg mb s Q B F X T N hf hk hd hu hret
  refine' enter_G (binds := [(Str.ofString "self", .ref x), (Str.ofString "row", .ref a)]) ?B ?F ?X ?T ?N ?f ?k ?room ?ho ?hcd ?hbind ?hloc ?_ ?c2 ?c3 ?c4 ?c5
  (case B => exact B); (case F => exact F); (case X => exact X); (case T => exact T); (case N => exact N); (case f => exact hf); (case k => exact hk)
  (case room => walk_at "lim")
  (case ho => k_is); (case hcd => k_is); (case hbind => (intro _; exact BindsTo.of_eq rfl)); (case hloc => exact locs rfl)
  (case c2 => exact rfl); (case c3 => exact rfl); (case c4 => exact rfl); (case c5 => decide)
  k_whole
  clear B F X T N hf hk
  intro g' L' h' F' N' B' X' T' hsub hlt hsz
  (try dsimp only)
  (try k_fold)
  k_steps
  refine hret _ _ _ (kE [r] (by walk_at "end mods")) ⟨rfl, (News.get (by k_asm) (by k_mem))⟩
theorem rd_mem {w : World} {x dx r tx op : Addr} {k1 k2 k3 k4 k5 : Tok} {o : List UInt8} {t : Tok} {p : Int} {pt : Tok} {rs : Array Value} {n : Nat} {tb : List UInt8} {news : List (Addr × Obj)}
    (h1 : (x, instObj 148 dx) ∈ news) (h2 : (dx, rdD w k1 k2 k3 k4 k5 o t p pt r tx op) ∈ news) (h3 : (r, listOf rs n) ∈ news) (h4 : (tx, baOf tb) ∈ news) (h5 : (op, listOf #[] 0) ∈ news) : ∀ p' ∈ rdL w x dx r tx op k1 k2 k3 k4 k5 o t p pt rs n tb, p' ∈ news := by
  intro q hq
  rcases List.mem_cons.mp hq with rfl | hq
  · exact h1
  rcases List.mem_cons.mp hq with rfl | hq
  · exact h2
  rcases List.mem_cons.mp hq with rfl | hq
  · exact h3
  rcases List.mem_cons.mp hq with rfl | hq
  · exact h4
  rcases List.mem_cons.mp hq with rfl | hq
  · exact h5
  · exact absurd hq List.not_mem_nil

/-! PQR2 -/
abbrev rowText (b : List UInt8) (vs : List Value) : Prop := ∃ t u, vs = [.str (Str.ofString "text") t, .bytes b.toArray u]
abbrev rowMore (vs : List Value) : Prop := ∃ t, vs = [.str (Str.ofString "more") t]
abbrev rowParam (vs : List Value) : Prop := ∃ t u, vs = [.str (Str.ofString "param") t, .int 1 u]
abbrev rowWrite (vs : List Value) : Prop := ∃ t1 t2 t3 t4, vs = [.str (Str.ofString "write") t1, .int 100 t2, .bytes #[] t3, .int 0 t4, .none]
inductive Op
  | text (b : List UInt8)
  | more
  | param
  | write
def opW : Op → Str
  | .text _ => Str.ofString "text"
  | .more => Str.ofString "more"
  | .param => Str.ofString "param"
  | .write => Str.ofString "write"
def RowOf : Op → List Value → Prop
  | .text b, vs => rowText b vs
  | .more, vs => rowMore vs
  | .param, vs => rowParam vs
  | .write, vs => rowWrite vs
inductive AreOps (W : List (Addr × Obj)) : List Value → List Op → Prop
  | nil : AreOps W [] []
  | cons {a vs os} (o : Op) (rv : List Value) : (a, tupOf rv) ∈ W → RowOf o rv → AreOps W vs os → AreOps W (.ref a :: vs) (o :: os)
def ProgOf (ops : List Op) (h : Heap) (v : Value) (h' : Heap) : Prop := ∃ r n rvs W, v = .ref r ∧ (∀ p ∈ (r, listOf rvs.toArray n) :: W, New h p.1 p.2 h') ∧ (∀ p ∈ W, p.2.cls = .type "tuple") ∧ AreOps W rvs ops
theorem ledNs {h h' : Heap} {G : Prop} {X news news' : List (Addr × Obj)} {h₀ : Heap} {L : Addr} {m : Str → Option Value} (hn : ∀ p ∈ X, New h p.1 p.2 h') (F : Fr h₀ L h m) (N₀ : News h₀ L h news) (N : News h₀ L h' news') (k : (∀ p ∈ X, ∀ q ∈ news, q.1 ≠ p.1) → News h₀ L h' (X ++ news') → G) : G :=
  k (fun p hp => (hn p hp).ne N₀) fun p hp => by
    rcases List.mem_append.mp hp with hp | hp
    · exact (New.news (hn p hp) F N) p (.head _)
    · exact N p hp
theorem DoesG.weak {w : World} {f : Addr} {d u d' u' : Nat} {vs : List Value} {objs : List (Addr × Obj)} {mods mods' : List Addr} {Post Post' : Heap → Value → Heap → Prop} (C : DoesG w f d u vs objs mods Post) (hd : d ≤ d') (hu : u ≤ u') (hm : ∀ a ∈ mods, a ∈ mods')
    (hP : ∀ h v h', (∀ p ∈ objs, h.get? p.1 = some p.2) → Ext mods h h' → Post h v h' → Post' h v h') : DoesG w f d' u' vs objs mods' Post' :=
  fun dp un gd env outer A₀ base h₀ L m mean mg mb s Q B F X T N hf hk hd' hu' hret =>
    C dp un gd env outer A₀ base h₀ L m mean mg mb s Q B F X T N hf hk (by omega) (by omega) fun v h' tk' x hp => hret v h' tk' (x.mono hm) (hP _ _ _ (fun p hp => (N p hp).1) x hp)
theorem not_in1 {a b : Addr} (h : a ≠ b) : a ∉ [b] := fun q => h (List.mem_singleton.mp q)
theorem not_in2 {a b c : Addr} (h : a ≠ b) (h' : a ≠ c) : a ∉ [b, c] := fun q => (List.mem_cons.mp q).elim h fun q => h' (List.mem_singleton.mp q)
theorem not_in3 {a b c d : Addr} (h : a ≠ b) (h' : a ≠ c) (h'' : a ≠ d) : a ∉ [b, c, d] := fun q => (List.mem_cons.mp q).elim h (not_in2 h' h'')
theorem sub1a {a b c : Addr} : ∀ x ∈ [a], x ∈ [a, b, c] := fun x q => by rw [List.mem_singleton.mp q]; exact .head _
theorem sub1b {a b c : Addr} : ∀ x ∈ [b], x ∈ [a, b, c] := fun x q => by rw [List.mem_singleton.mp q]; exact .tail _ (.head _)
theorem sub1c {a b c : Addr} : ∀ x ∈ [c], x ∈ [a, b, c] := fun x q => by rw [List.mem_singleton.mp q]; exact .tail _ (.tail _ (.head _))
theorem sub2 {a b c : Addr} : ∀ x ∈ [b, c], x ∈ [a, b, c] := fun x q => .tail _ q
/-- the text that lay ahead, as a row -/
inductive Flush (tb : List UInt8) (tx : Addr) : List Value → List (Addr × Obj) → Addr → Prop
  | none : tb = [] → Flush tb tx [] [] tx
  | some (tup tx' : Addr) (t1 t2 : Tok) : tb ≠ [] → @Ne Nat tup tx' → Flush tb tx [.ref tup] [(tup, tupOf [.str (Str.ofString "text") t1, .bytes tb.toArray t2]), (tx', baOf [])] tx'
inductive PutG (w : World) (x dx r tx op : Addr) (k1 k2 k3 k4 k5 : Tok) (o : List UInt8) (t : Tok) (p : Int) (pt : Tok) (rs : List Value) (tb : List UInt8) (a : Addr) (h : Heap) (v : Value) (h' : Heap) : Prop
  | intro (tx' : Addr) (pre : List Value) (E : List (Addr × Obj)) (n' : Nat) : v = .none → Flush tb tx pre E tx' → (∀ q ∈ E, New h q.1 q.2 h') → h'.get? dx = some (rdD w k1 k2 k3 k4 k5 o t p pt r tx' op) → h'.get? r = some (listOf (rs ++ (pre ++ [Value.ref a])).toArray n') → PutG w x dx r tx op k1 k2 k3 k4 k5 o t p pt rs tb a h v h'
theorem does_put (w : World) (x dx r tx op a : Addr) (k1 k2 k3 k4 k5 : Tok) (o : List UInt8) (t : Tok) (p : Int) (pt : Tok) (rs : List Value) (n : Nat) (tb : List UInt8) (D : Apart5 x dx r tx op) (hr : rs.length < 1000) (hb : tb.length < 1000) :
    DoesG w 103 20 100 [.ref x, .ref a] (rdL w x dx r tx op k1 k2 k3 k4 k5 o t p pt rs.toArray n tb) [dx, r] (PutG w x dx r tx op k1 k2 k3 k4 k5 o t p pt rs tb a) := by
  cases tb with
  | nil =>
    refine (does_put0 w x dx r tx op a k1 k2 k3 k4 k5 o t p pt rs.toArray n D (by simp only [List.size_toArray]; exact hr)).weak (Nat.le_refl _) (Nat.le_refl _) (fun b q => .tail _ q) fun h v h' hh x' P => ?_
    exact .intro tx [] [] (n + 1) P.1 (.none rfl) (fun _ q => nomatch q) (x' dx _ (hh (dx, _) (.tail _ (.head _))) (not_in1 D.5)) (by rw [P.2]; simp only [List.push_toArray, List.nil_append])
  | cons b tb =>
    refine (does_put1 w x dx r tx op a k1 k2 k3 k4 k5 o t p pt rs.toArray n b tb D (by simp only [List.size_toArray]; exact hr) (Nat.lt_of_succ_lt hb)).weak (Nat.le_refl _) (Nat.le_refl _) (fun b q => q) fun h v h' hh x' P => ?_
    obtain ⟨rfl, tx', tup, t1, t2, n1, n2, n3, g1, g2⟩ := P
    exact .intro tx' _ _ (n + 1 + 1) rfl (.some tup tx' t1 t2 (List.cons_ne_nil _ _) n3) (List.forall_mem_cons.mpr ⟨n1, List.forall_mem_cons.mpr ⟨n2, fun _ q => nomatch q⟩⟩) g1 (by rw [g2]; simp only [List.push_toArray, List.append_assoc, List.cons_append, List.nil_append])
/-- what reading one '%..' turns -/
inductive ReadP (w : World) (x dx r tx op : Addr) (k1 k2 k3 k4 k5 : Tok) (o : List UInt8) (t : Tok) (p : Int) (rs : List Value) (tb : List UInt8) (row : List Value → Prop) (h : Heap) (v : Value) (h' : Heap) : Prop
  | intro (tx' : Addr) (pre : List Value) (E : List (Addr × Obj)) (n' : Nat) (pt : Tok) (a : Addr) (vs : List Value) : v = .none → Flush tb tx pre E tx' → row vs → New h a (tupOf vs) h' → (∀ q ∈ E, New h q.1 q.2 h') → (∀ q ∈ E, @Ne Nat q.1 a) → h'.get? dx = some (rdD w k1 k2 k3 k4 k5 o t p pt r tx' op) → h'.get? r = some (listOf (rs ++ (pre ++ [Value.ref a])).toArray n') → ReadP w x dx r tx op k1 k2 k3 k4 k5 o t p rs tb row h v h'
theorem newE {g h h' : Heap} {L : Addr} {objs E rest news : List (Addr × Obj)} (hs : ∀ b o, h.get? b = some o → b ∉ objs.map (·.1) → g.get? b = some o) (N : News g L h' (E ++ rest)) (an : ∀ p ∈ E, ∀ q ∈ news, q.1 ≠ p.1) (hm : ∀ p ∈ objs, ∃ o, (p.1, o) ∈ news) : ∀ q ∈ E, New h q.1 q.2 h' := fun q hq =>
  New.of' hs N (List.mem_append_left _ hq) fun p hp => Exists.elim (hm p hp) fun ob z => an q hq (p.1, ob) z


theorem regXmac2 : True := by
  k_with "noinline" => ((with_reducible show wG _ _ (call (Value.ref 103) _) _ _))
  k_with "wG" => (((with_reducible show wG _ _ (call (Value.ref 103) _) _ _); k_dflt (
  refine' DoesG.useM (does_put _ _ _ _ _ _ _ _ _ _ _ _ _ _ _ _ _ _ _ ?zzD ?zzhr ?zzhb) ?zzB ?zzF ?zzX ?zzT ?zzN (rd_mem ?zzm1 ?zzm2 ?zzm3 ?zzm4 ?zzm5) ?zzhm ?zzf ?zzk ?zzhd ?zzhu ?_;
  (case zzB => k_asm); (case zzF => k_asm); (case zzX => k_asm); (case zzT => k_asm); (case zzN => k_asm); (case zzm1 => k_mem); (case zzm2 => k_mem); (case zzm3 => k_mem); (case zzm4 => k_mem); (case zzm5 => k_mem);
  (case zzD => (refine ⟨?_, ?_, ?_, ?_, ?_, ?_, ?_, ?_, ?_, ?_⟩ <;> k_ne)); (case zzhr => omega); (case zzhb => omega);
  (case zzhm => exact List.forall_mem_cons.mpr ⟨⟨_, by k_mem⟩, List.forall_mem_cons.mpr ⟨⟨_, by k_mem⟩, List.forall_mem_nil _⟩⟩);
  (case zzf => exact rfl); (case zzk => exact rfl); (case zzhd => walk_at "lim"); (case zzhu => walk_at "lim"); k_whole;
  intro v' h' k' F' x' lt' P'; rcases P' with ⟨tx', pre', E', n', rfl, fl', hE', e1', e2'⟩;
  refine' led2 ?zzN x' ?zzU1 ?zzU2 e1' e2' ?zzab ?_; (case zzN => k_asm); (case zzU1 => k_upd); (case zzU2 => k_upd); (case zzab => k_ne); intro N1';
  refine' ledNs hE' ?zzF ?zzN0 N1' ?_; (case zzF => k_asm); (case zzN0 => k_asm); intro an' N2'; clear N1' x' lt' hE' e1' e2'; (try k_sweep))))
  trivial

set_option rowWalk.seconds 60 in
theorem does_param (w : World) (x dx r tx op : Addr) (k1 k2 k3 k4 k5 : Tok) (o : List UInt8) (b : Int) (hl : o.length < 100) (h0 : 0 ≤ b) (h1 : b + 2 < (o.length : Int)) (e1 : (((o.getD (b + 1).toNat 0).toNat : Nat) : Int) = 112) (e2 : (((o.getD (b + 2).toNat 0).toNat : Nat) : Int) = 49) (t pt u : Tok) (rs : List Value) (n : Nat) (tb : List UInt8) (D : Apart5 x dx r tx op) (hr : rs.length < 100) (hb : tb.length < 100) :
    DoesG w 117 30 130 [.ref x, .int b u] (rdL w x dx r tx op k1 k2 k3 k4 k5 o t b pt rs.toArray n tb) [dx, r] (ReadP w x dx r tx op k1 k2 k3 k4 k5 o t (b + 2 + 1) rs tb rowParam) := by
  k_with "m:subscriptTail" => (k_here; (with_reducible show wpAny _ _ (subscriptTail _ _ (Value.bytes (List.toArray _) _) (Value.int _ _)) _ _ _); k_dflt (refine' bytes_item_K ?zzf ?zza ?zzb ?zze ?_; (case zzf => omega); (case zza => omega); (case zzb => omega); (case zze => with_reducible assumption); k_whole))
  obtain ⟨d1, d2, d3, d4, d5, d6, d7, d8, d9, d10⟩ := D
  intro dp un gd env outer A₀ base h₀ L m mean mg mb s Q B F X T N hf hk hd hu hret
  refine' enter_G (binds := [(Str.ofString "self", .ref x), (Str.ofString "begin", .int b u)]) ?B ?F ?X ?T ?N ?f ?k ?room ?ho ?hcd ?hbind ?hloc ?_ ?c2 ?c3 ?c4 ?c5
  (case B => exact B); (case F => exact F); (case X => exact X); (case T => exact T); (case N => exact N); (case f => exact hf); (case k => exact hk)
  (case room => walk_at "lim")
  (case ho => k_is); (case hcd => k_is); (case hbind => (intro _; exact BindsTo.of_eq rfl)); (case hloc => exact locs rfl)
  (case c2 => exact rfl); (case c3 => exact rfl); (case c4 => exact rfl); (case c5 => decide)
  k_whole
  clear B F X T N hf hk
  intro g' L' h' F' N' B' X' T' hsub hlt hsz
  (try dsimp only)
  (try k_fold)
  k_steps
  refine' hret _ _ _ (kE [dx, r] ?m) (.intro _ _ _ _ _ _ _ rfl fl' ?rw0 ?n1 ?n2 ?n3 ?g1 ?g2)
  (case m => walk_at "end mods")
  (case g2 => exact News.get (by k_asm) (by k_mem))
  (case g1 => exact News.get (by k_asm) (by k_mem))
  (case n1 => walk_at "end new")
  (case n2 => exact newE hsub (by k_asm) an' (List.forall_mem_cons.mpr ⟨⟨_, by k_mem⟩, List.forall_mem_cons.mpr ⟨⟨_, by k_mem⟩, List.forall_mem_cons.mpr ⟨⟨_, by k_mem⟩, List.forall_mem_cons.mpr ⟨⟨_, by k_mem⟩, List.forall_mem_cons.mpr ⟨⟨_, by k_mem⟩, List.forall_mem_nil _⟩⟩⟩⟩⟩))
  (case n3 => exact fun q hq => (an' q hq _ (by k_mem)).symm)
  (case rw0 => exact ⟨_, _, rfl⟩)
theorem does_more (w : World) (x dx r tx op : Addr) (k1 k2 k3 k4 k5 : Tok) (t pt u : Tok) (rs : List Value) (n : Nat) (tb : List UInt8) (D : Apart5 x dx r tx op) (hr : rs.length < 100) (hb : tb.length < 100) :
    DoesG w 117 30 130 [.ref x, .int 2 u] (rdL w x dx r tx op k1 k2 k3 k4 k5 [27, 91, 37, 105, 37, 112, 49, 37, 100, 71] t 2 pt rs.toArray n tb) [dx, r] (ReadP w x dx r tx op k1 k2 k3 k4 k5 [27, 91, 37, 105, 37, 112, 49, 37, 100, 71] t (4) rs tb rowMore) := by
  obtain ⟨d1, d2, d3, d4, d5, d6, d7, d8, d9, d10⟩ := D
  intro dp un gd env outer A₀ base h₀ L m mean mg mb s Q B F X T N hf hk hd hu hret
  refine' enter_G (binds := [(Str.ofString "self", .ref x), (Str.ofString "begin", .int 2 u)]) ?B ?F ?X ?T ?N ?f ?k ?room ?ho ?hcd ?hbind ?hloc ?_ ?c2 ?c3 ?c4 ?c5
  (case B => exact B); (case F => exact F); (case X => exact X); (case T => exact T); (case N => exact N); (case f => exact hf); (case k => exact hk)
  (case room => walk_at "lim")
  (case ho => k_is); (case hcd => k_is); (case hbind => (intro _; exact BindsTo.of_eq rfl)); (case hloc => exact locs rfl)
  (case c2 => exact rfl); (case c3 => exact rfl); (case c4 => exact rfl); (case c5 => decide)
  k_whole
  clear B F X T N hf hk
  intro g' L' h' F' N' B' X' T' hsub hlt hsz
  (try dsimp only)
  (try k_fold)
  k_steps
  refine' hret _ _ _ (kE [dx, r] ?m) (.intro _ _ _ _ _ _ _ rfl fl' ?rw0 ?n1 ?n2 ?n3 ?g1 ?g2)
  (case m => walk_at "end mods")
  (case g2 => exact News.get (by k_asm) (by k_mem))
  (case g1 => exact News.get (by k_asm) (by k_mem))
  (case n1 => walk_at "end new")
  (case n2 => exact newE hsub (by k_asm) an' (List.forall_mem_cons.mpr ⟨⟨_, by k_mem⟩, List.forall_mem_cons.mpr ⟨⟨_, by k_mem⟩, List.forall_mem_cons.mpr ⟨⟨_, by k_mem⟩, List.forall_mem_cons.mpr ⟨⟨_, by k_mem⟩, List.forall_mem_cons.mpr ⟨⟨_, by k_mem⟩, List.forall_mem_nil _⟩⟩⟩⟩⟩))
  (case n3 => exact fun q hq => (an' q hq _ (by k_mem)).symm)
  (case rw0 => exact ⟨_, rfl⟩)
theorem does_write (w : World) (x dx r tx op : Addr) (k1 k2 k3 k4 k5 : Tok) (o : List UInt8) (b : Int) (hl : o.length < 100) (h0 : 0 ≤ b) (h1 : b + 1 < (o.length : Int)) (e1 : (((o.getD (b + 1).toNat 0).toNat : Nat) : Int) = 100) (c1 : (cutB o (some (b + 1)) (some (b + 1 + 1)) == [58]) = false) (c2 : (cutB o (some (b + 1)) (some (b + 1 + 1)) == [46]) = false) (t pt u : Tok) (rs : List Value) (n : Nat) (tb : List UInt8) (D : Apart5 x dx r tx op) (hr : rs.length < 100) (hb : tb.length < 100) :
    DoesG w 117 30 130 [.ref x, .int b u] (rdL w x dx r tx op k1 k2 k3 k4 k5 o t b pt rs.toArray n tb) [dx, r] (ReadP w x dx r tx op k1 k2 k3 k4 k5 o t (b + 1 + 1) rs tb rowWrite) := by
  k_with "m:subscriptTail" => (k_here; (with_reducible show wpAny _ _ (subscriptTail _ _ (Value.bytes (List.toArray _) _) (Value.int _ _)) _ _ _); k_dflt (refine' bytes_item_K ?zzf ?zza ?zzb ?zze ?_; (case zzf => omega); (case zza => omega); (case zzb => omega); (case zze => with_reducible assumption); k_whole))
  obtain ⟨d1, d2, d3, d4, d5, d6, d7, d8, d9, d10⟩ := D
  intro dp un gd env outer A₀ base h₀ L m mean mg mb s Q B F X T N hf hk hd hu hret
  refine' enter_G (binds := [(Str.ofString "self", .ref x), (Str.ofString "begin", .int b u)]) ?B ?F ?X ?T ?N ?f ?k ?room ?ho ?hcd ?hbind ?hloc ?_ ?c2 ?c3 ?c4 ?c5
  (case B => exact B); (case F => exact F); (case X => exact X); (case T => exact T); (case N => exact N); (case f => exact hf); (case k => exact hk)
  (case room => walk_at "lim")
  (case ho => k_is); (case hcd => k_is); (case hbind => (intro _; exact BindsTo.of_eq rfl)); (case hloc => exact locs rfl)
  (case c2 => exact rfl); (case c3 => exact rfl); (case c4 => exact rfl); (case c5 => decide)
  k_whole
  clear B F X T N hf hk
  intro g' L' h' F' N' B' X' T' hsub hlt hsz
  (try dsimp only)
  (try k_fold)
  k_steps
  refine' hret _ _ _ (kE [dx, r] ?m) (.intro _ _ _ _ _ _ _ rfl fl' ?rw0 ?n1 ?n2 ?n3 ?g1 ?g2)
  (case m => walk_at "end mods")
  (case g2 => exact News.get (by k_asm) (by k_mem))
  (case g1 => exact News.get (by k_asm) (by k_mem))
  (case n1 => walk_at "end new")
  (case n2 => exact newE hsub (by k_asm) an' (List.forall_mem_cons.mpr ⟨⟨_, by k_mem⟩, List.forall_mem_cons.mpr ⟨⟨_, by k_mem⟩, List.forall_mem_cons.mpr ⟨⟨_, by k_mem⟩, List.forall_mem_cons.mpr ⟨⟨_, by k_mem⟩, List.forall_mem_cons.mpr ⟨⟨_, by k_mem⟩, List.forall_mem_nil _⟩⟩⟩⟩⟩))
  (case n3 => exact fun q hq => (an' q hq _ (by k_mem)).symm)
  (case rw0 => exact ⟨_, _, _, _, rfl⟩)

/-! PQR3 -/
/-- reading one, wherever it stands -/
def RdC (w : World) (o : List UInt8) (b : Int) (op : Op) (j : Int) : Prop :=
  ∀ (x dx r tx oa : Addr) (k1 k2 k3 k4 k5 t pt u : Tok) (rs : List Value) (n : Nat) (tb : List UInt8), Apart5 x dx r tx oa → rs.length < 100 → tb.length < 100 →
    DoesG w 117 30 130 [.ref x, .int b u] (rdL w x dx r tx oa k1 k2 k3 k4 k5 o t b pt rs.toArray n tb) [dx, r] (ReadP w x dx r tx oa k1 k2 k3 k4 k5 o t j rs tb (RowOf op))
/-- how the octets are read -/
inductive PTrace (w : World) (o : List UInt8) (fin : List Op) : Int → List UInt8 → List Op → Prop
  | done {p tb ops} : p = (o.length : Int) → 0 < tb.length → tb.length < 90 → ops.length < 50 → fin = ops ++ [.text tb] → PTrace w o fin p tb ops
  | lit {p tb ops} (c : UInt8) : 0 ≤ p → p < (o.length : Int) → (((o.getD p.toNat 0).toNat : Nat) : Int) = ((c.toNat : Nat) : Int) → ((c.toNat : Nat) : Int) ≠ 37 → tb.length < 90 → PTrace w o fin (p + 1) (tb ++ [c]) ops → PTrace w o fin p tb ops
  | read {p tb ops} (op : Op) (j : Int) : 0 ≤ p → p < j → p < (o.length : Int) → (((o.getD p.toNat 0).toNat : Nat) : Int) = 37 → RdC w o p op j → tb.length < 90 → ops.length < 50 → PTrace w o fin j [] (ops ++ ((if tb = [] then [] else [.text tb]) ++ [op])) → PTrace w o fin p tb ops
theorem AreOps.len {W : List (Addr × Obj)} {vs : List Value} {os : List Op} (x : AreOps W vs os) : vs.length = os.length := by
  induction x with
  | nil => rfl
  | cons _ _ _ _ _ ih => exact congrArg (· + 1) ih
theorem AreOps.mono {W W' : List (Addr × Obj)} {vs : List Value} {os : List Op} (x : AreOps W vs os) (h : ∀ p ∈ W, p ∈ W') : AreOps W' vs os := by
  induction x with
  | nil => exact .nil
  | cons o rv hm hr _ ih => exact .cons o rv (h _ hm) hr ih
theorem AreOps.app {W : List (Addr × Obj)} {vs vs' : List Value} {os os' : List Op} (x : AreOps W vs os) (y : AreOps W vs' os') : AreOps W (vs ++ vs') (os ++ os') := by
  induction x with
  | nil => exact y
  | cons o rv hm hr _ ih => exact .cons o rv hm hr ih
inductive PrI (w : World) (x dx r oa : Addr) (k1 k2 k3 k4 k5 : Tok) (o : List UInt8) (t : Tok) (fin : List Op) (m : Str → Option Value) (g : Heap) (L : Addr) (s : Shared) (k : Nat) (s₁ : Shared) : Prop
  | intro (p : Int) (tb : List UInt8) (ops : List Op) (rvs : List Value) (W : List (Addr × Obj)) (tx : Addr) (h₁ : Heap) (tk pt : Tok) (n : Nat) : k = ((o.length : Int) - p).toNat → PTrace w o fin p tb ops → AreOps W rvs ops → (∀ q ∈ W, q.2.cls = .type "tuple") → s₁ = ⟨h₁, s.gens, s.drawn, tk, s.os⟩ → Fr g L h₁ m →
    News g L h₁ (rdL w x dx r tx oa k1 k2 k3 k4 k5 o t p pt rvs.toArray n tb ++ W) → Apart5 x dx r tx oa → PrI w x dx r oa k1 k2 k3 k4 k5 o t fin m g L s k s₁
inductive PrA (w : World) (o : List UInt8) (t : Tok) (fin : List Op) (m : Addr → Str → Option Value) (g : Heap) (L : Addr) (s s₁ : Shared) : Prop
  | intro (x dx r oa : Addr) (k1 k2 k3 k4 k5 : Tok) (k : Nat) : PrI w x dx r oa k1 k2 k3 k4 k5 o t fin (m x) g L s k s₁ → PrA w o t fin m g L s s₁
theorem offT {h₀ h : Heap} {L a : Addr} {q : Obj} {W news : List (Addr × Obj)} (hW : ∀ p ∈ W, p.2.cls = .type "tuple") (N : News h₀ L h news) (hm : (a, q) ∈ news) (hs : ∀ p ∈ W, p ∈ news) (hc : q.cls ≠ .type "tuple") : ∀ p ∈ W, p.1 ≠ a := by
  rintro p hp rfl
  have e1 := (N _ (hs p hp)).1
  rw [(N _ hm).1] at e1
  have e2 : q = p.2 := Option.some.inj e1
  exact hc (by rw [e2]; exact hW p hp)
theorem cG_cut {w : World} {A : Around} {s : Shared} {c : Code} {R : Flow → Shared → Prop} (I : Shared → Prop) (h0 : I s) (h : ∀ s', I s' → cG w A c R s') : cG w A c R s := h s h0
theorem news_cons {h₀ h : Heap} {L : Addr} {p : Addr × Obj} {l : List (Addr × Obj)} (e : h.get? p.1 = some p.2 ∧ p.1 ≠ L ∧ h₀.get? p.1 = none) (M : News h₀ L h l) : News h₀ L h (p :: l) := fun q hq => by
  rcases List.mem_cons.mp hq with rfl | hq
  · exact e
  · exact M q hq
theorem cls_cons {p : Addr × Obj} {W : List (Addr × Obj)} (h : p.2.cls = .type "tuple") (hW : ∀ p ∈ W, p.2.cls = .type "tuple") : ∀ q ∈ p :: W, q.2.cls = .type "tuple" := fun q hq => by
  rcases List.mem_cons.mp hq with rfl | hq
  · exact h
  · exact hW q hq
theorem prog_at {w : World} {o : List UInt8} {t : Tok} {fin : List Op} {g h : Heap} {L x dx r tx oa : Addr} {k1 k2 k3 k4 k5 pt : Tok} {tk : Nat} {s : Shared} {m : Str → Option Value} {M : Addr → Str → Option Value} (F : Fr g L h m)
    (N : News g L h [(oa, listOf #[] 0), (tx, baOf []), (r, listOf #[] 0), (x, instObj 148 dx), (dx, rdD w k1 k2 k3 k4 k5 o t 0 pt r tx oa)]) (tr : PTrace w o fin 0 [] []) (hm : ∀ y, m y = M x y) (A : Apart5 x dx r tx oa) : PrA w o t fin M g L s ⟨h, s.gens, s.drawn, tk, s.os⟩ :=
  .intro x dx r oa k1 k2 k3 k4 k5 _ (.intro 0 [] [] [] [] tx h tk pt 0 rfl tr .nil (fun _ q => nomatch q) rfl (frCongr F hm)
    (news_cons (N _ (.tail _ (.tail _ (.tail _ (.head _))))) (news_cons (N _ (.tail _ (.tail _ (.tail _ (.tail _ (.head _)))))) (news_cons (N _ (.tail _ (.tail _ (.head _)))) (news_cons (N _ (.tail _ (.head _))) (news_cons (N _ (.head _)) fun _ q => nomatch q))))) A)
theorem ReadP.isNone {w : World} {x dx r tx oa : Addr} {k1 k2 k3 k4 k5 : Tok} {o : List UInt8} {t : Tok} {p : Int} {rs : List Value} {tb : List UInt8} {row : List Value → Prop} {h : Heap} {v : Value} {h' : Heap} (P : ReadP w x dx r tx oa k1 k2 k3 k4 k5 o t p rs tb row h v h') : v = .none := by
  cases P; assumption
theorem read_next {w : World} {o : List UInt8} {t : Tok} {fin : List Op} {g h h' : Heap} {L x dx r tx oa : Addr} {k1 k2 k3 k4 k5 pt : Tok} {n : Nat} {tk : Nat} {s : Shared} {m : Str → Option Value} {p j : Int} {tb : List UInt8} {ops : List Op} {op : Op} {rvs : List Value} {W : List (Addr × Obj)} {v : Value}
    (N : News g L h (rdL w x dx r tx oa k1 k2 k3 k4 k5 o t p pt rvs.toArray n tb ++ W)) (F : Fr g L h m) (x' : Ext [dx, r] h h') (P : ReadP w x dx r tx oa k1 k2 k3 k4 k5 o t j rvs tb (RowOf op) h v h') (D : Apart5 x dx r tx oa) (AO : AreOps W rvs ops) (hW : ∀ q ∈ W, q.2.cls = .type "tuple")
    (w1 : ∀ q ∈ W, q.1 ≠ dx) (w2 : ∀ q ∈ W, q.1 ≠ r) (tr : PTrace w o fin j [] (ops ++ ((if tb = [] then [] else [.text tb]) ++ [op]))) (F' : Fr g L h' m) : PrI w x dx r oa k1 k2 k3 k4 k5 o t fin m g L s ((o.length : Int) - j).toNat ⟨h', s.gens, s.drawn, tk, s.os⟩ := by
  obtain ⟨tx', pre, E, n', pt', a, vs, -, fl, hrow, ha, hE, hEa, g1, g2⟩ := P
  have d1 := D.1
  have d2 := D.2
  have d7 := D.7
  have d9 := D.9
  have keep : ∀ q ∈ rdL w x dx r tx oa k1 k2 k3 k4 k5 o t p pt rvs.toArray n tb ++ W, q.1 ≠ dx → q.1 ≠ r → h'.get? q.1 = some q.2 ∧ q.1 ≠ L ∧ g.get? q.1 = none := fun q hq a1 a2 => ⟨x' _ _ (N q hq).1 (not_in2 a1 a2), (N q hq).2⟩
  have hd := (N _ (List.mem_append_left _ (.tail _ (.head _)))).2
  have hr := (N _ (List.mem_append_left _ (.tail _ (.tail _ (.head _))))).2
  have NW : News g L h' W := fun q hq => keep q (List.mem_append_right _ hq) (w1 q hq) (w2 q hq)
  have kx := keep _ (List.mem_append_left _ (.head _)) d1 d2
  have ko := keep _ (List.mem_append_left _ (.tail _ (.tail _ (.tail _ (.tail _ (.head _)))))) (Ne.symm d7) (Ne.symm d9)
  have Na : News g L h' ((a, tupOf vs) :: W) := ha.news F NW
  cases fl with
  | none htb =>
    subst htb
    have kt := keep _ (List.mem_append_left _ (.tail _ (.tail _ (.tail _ (.head _))))) (Ne.symm D.6) (Ne.symm D.8)
    exact .intro j [] _ (rvs ++ ([] ++ [Value.ref a])) ((a, tupOf vs) :: W) tx h' tk pt' n' rfl tr ((AO.mono fun q hq => .tail _ hq).app (.cons op vs (.head _) hrow .nil)) (cls_cons rfl hW) rfl F'
      (news_cons kx (news_cons ⟨g1, hd⟩ (news_cons ⟨g2, hr⟩ (news_cons kt (news_cons ko Na))))) D
  | some tup tx2 t1 t2 hne htt =>
    rw [if_neg hne] at tr
    have n1 := hE _ (.head _)
    have n2 := hE _ (.tail _ (.head _))
    have Nt : News g L h' ((tup, tupOf [.str (Str.ofString "text") t1, .bytes tb.toArray t2]) :: (a, tupOf vs) :: W) := n1.news F Na
    have kt := (n2.news F Nt) _ (.head _)
    have ne := n2.ne N
    exact .intro j [] _ (rvs ++ ([Value.ref tup] ++ [Value.ref a])) ((tup, _) :: (a, tupOf vs) :: W) tx' h' tk pt' n' rfl tr ((AO.mono fun q hq => .tail _ (.tail _ hq)).app (.cons (.text tb) _ (.head _) ⟨_, _, rfl⟩ (.cons op vs (.tail _ (.head _)) hrow .nil))) (cls_cons rfl (cls_cons rfl hW)) rfl F'
      (news_cons kx (news_cons ⟨g1, hd⟩ (news_cons ⟨g2, hr⟩ (news_cons kt (news_cons ko Nt)))))
      ⟨d1, d2, ne _ (List.mem_append_left _ (.head _)), D.4, D.5, ne _ (List.mem_append_left _ (.tail _ (.head _))), d7, ne _ (List.mem_append_left _ (.tail _ (.tail _ (.head _)))), d9, Ne.symm (ne _ (List.mem_append_left _ (.tail _ (.tail _ (.tail _ (.tail _ (.head _)))))))⟩
theorem prog_end {g h h' : Heap} {L d r : Addr} {p1 p2 p4 p5 p6 p7 : Addr × Obj} {W : List (Addr × Obj)} {rvs : List Value} {ops : List Op} {n : Nat} {tb : List UInt8} {t1 t2 : Tok} (hs : ∀ b o, h.get? b = some o → b ∉ ([] : List (Addr × Obj)).map (·.1) → g.get? b = some o)
    (N : News g L h' (p1 :: p2 :: (d, tupOf [.str (Str.ofString "text") t1, .bytes tb.toArray t2]) :: p4 :: p5 :: (r, listOf (rvs.toArray.push (.ref d)) n) :: p6 :: p7 :: W)) (hW : ∀ q ∈ W, q.2.cls = .type "tuple") (AO : AreOps W rvs ops) : ProgOf (ops ++ [.text tb]) h (.ref r) h' := by
  rw [List.push_toArray] at N
  exact ⟨r, n, rvs ++ [Value.ref d], (d, tupOf [.str (Str.ofString "text") t1, .bytes tb.toArray t2]) :: W, rfl,
    List.forall_mem_cons.mpr ⟨New.of' hs N (.tail _ (.tail _ (.tail _ (.tail _ (.tail _ (.head _)))))) (fun _ q => nomatch q), List.forall_mem_cons.mpr ⟨New.of' hs N (.tail _ (.tail _ (.head _))) (fun _ q => nomatch q), fun p hp => New.of' hs N (.tail _ (.tail _ (.tail _ (.tail _ (.tail _ (.tail _ (.tail _ (.tail _ hp)))))))) (fun _ q => nomatch q)⟩⟩,
    cls_cons rfl hW, (AO.mono fun q hq => .tail _ hq).app (.cons (.text tb) _ (.head _) ⟨_, _, rfl⟩ .nil)⟩

set_option rowWalk.seconds 100 in
theorem does_program (w : World) (o : List UInt8) (t : Tok) (fin : List Op) (hl : o.length < 90) (tr : PTrace w o fin 0 [] []) : DoesG w 159 40 160 [.bytes o.toArray t] [] [] (ProgOf fin) := by
  k_with "noinline" => (with_reducible show wG _ _ (call (Value.ref 117) _) _ _)
  k_with "nowhile" => (with_reducible show cG _ _ (Code.whileLoop _ _ _ (envOf (Str.ofString "ParmReader.program") _ _ _ _)) _ _)
  k_with "end all" => (with_reducible assumption)
  k_with "m:subscriptTail" => (k_here; (with_reducible show wpAny _ _ (subscriptTail _ _ (Value.bytes (List.toArray _) _) (Value.int _ _)) _ _ _); k_dflt (refine' bytes_item_K ?zzf ?zza ?zzb ?zze ?_; (case zzf => omega); (case zza => omega); (case zzb => omega); (case zze => with_reducible assumption); k_whole))
  intro dp un gd env outer A₀ base h₀ L m mean mg mb s Q B F X T N hf hk hd hu hret
  refine' enter_G (binds := [(Str.ofString "octets", .bytes o.toArray t)]) ?B ?F ?X ?T ?N ?f ?k ?room ?ho ?hcd ?hbind ?hloc ?_ ?c2 ?c3 ?c4 ?c5
  (case B => exact B); (case F => exact F); (case X => exact X); (case T => exact T); (case N => exact N); (case f => exact hf); (case k => exact hk)
  (case room => walk_at "lim")
  (case ho => k_is); (case hcd => k_is); (case hbind => (intro _; exact BindsTo.of_eq rfl)); (case hloc => exact locs rfl)
  (case c2 => exact rfl); (case c3 => exact rfl); (case c4 => exact rfl); (case c5 => decide)
  k_whole
  clear B F X T N hf hk
  intro g' L' h' F' N' B' X' T' hsub hlt hsz
  (try dsimp only)
  (try k_fold)
  k_steps
  (rename Fr _ _ _ _ => F0; rename News _ _ _ _ => N0)
  with_reducible refine' cG_cut (PrA w o t fin (fun x y => List.lookup y [(Str.ofString "self", Value.ref x)].reverse) g' L' s) (prog_at F0 N0 tr (fun y => rfl) ?hA) ?rest
  (case hA => (refine ⟨?_, ?_, ?_, ?_, ?_, ?_, ?_, ?_, ?_, ?_⟩ <;> k_ne))
  clear F0 N0 tr
  rintro s1 ⟨x, dx, r, oa, k1, k2, k3, k4, k5, k, I0⟩
  refine' cG_whileI _ _ I0 ?_
  rintro n₁ s₁ ⟨p, tb, ops, rvs, W, tx, h₁, tk, pt, n, rfl, tr, AO, hW, rfl, F1, N1, D⟩
  have hrv := AO.len
  have hrs : rvs.toArray.size = ops.length := by rw [List.size_toArray]; exact hrv
  have w1 := offT hW N1 (List.mem_append_left _ (.tail _ (.head _))) (fun q hq => List.mem_append_right _ hq) (show Value.type "dict" ≠ Value.type "tuple" by decide)
  have w2 := offT hW N1 (List.mem_append_left _ (.tail _ (.tail _ (.head _)))) (fun q hq => List.mem_append_right _ hq) (show Value.type "list" ≠ Value.type "tuple" by decide)
  have w3 := offT hW N1 (List.mem_append_left _ (.tail _ (.tail _ (.tail _ (.head _))))) (fun q hq => List.mem_append_right _ hq) (show Value.type "bytearray" ≠ Value.type "tuple" by decide)
  dsimp only [rdL, List.cons_append, List.nil_append] at N1
  cases tr with
  | done hp h0 h1 h2 hf =>
    obtain ⟨d1, d2, d3, d4, d5, d6, d7, d8, d9, d10⟩ := D
    k_steps
    (rename News _ _ _ _ => N5)
    exact hret _ _ _ (kE [] (fun p hp => nomatch hp)) (hf ▸ prog_end hsub N5 hW AO)
  | lit c h0 hlt hc hne htb tr2 =>
    have hz1 : (!(((c.toNat : Nat) : Int) == 37)) = true := by simpa using hne
    have hz2 : ((((c.toNat : Nat) : Int) != 37)) = true := by simpa using hne
    have hz3 : (((c.toNat : Nat) : Int) == 37) = false := by simpa using hne
    obtain ⟨d1, d2, d3, d4, d5, d6, d7, d8, d9, d10⟩ := id D
    k_steps
    (rename Fr _ _ _ _ => F5; rename News _ _ _ _ => N5)
    exact ⟨_, (show ((o.length : Int) - (p + 1)).toNat < ((o.length : Int) - p).toNat by omega), .intro (p + 1) (tb ++ [c]) ops rvs W tx _ _ _ n rfl tr2 AO hW rfl F5 N5 D⟩
  | read op j h0 hpj hlt hc hR htb hops tr2 =>
    obtain ⟨d1, d2, d3, d4, d5, d6, d7, d8, d9, d10⟩ := id D
    k_steps
    (rename Fr _ _ _ _ => F5; rename News _ _ _ _ => N5)
    refine' DoesG.useM (hR x dx r tx oa k1 k2 k3 k4 k5 t pt _ rvs n tb D (by omega) (by omega)) ?B F5 ?X ?T N5 ?hs ?hm rfl rfl ?hd ?hu ?_
    (case B => k_asm)
    (case X => k_asm)
    (case T => k_asm)
    (case hs => exact fun q hq => List.mem_append_left W hq)
    (case hm => exact List.forall_mem_cons.mpr ⟨⟨_, by k_mem⟩, List.forall_mem_cons.mpr ⟨⟨_, by k_mem⟩, List.forall_mem_nil _⟩⟩)
    (case hd => walk_at "lim")
    (case hu => walk_at "lim")
    k_whole
    intro v' h' k' F' x' lt' P'
    obtain rfl := P'.isNone
    k_steps
    exact ⟨_, (show ((o.length : Int) - j).toNat < ((o.length : Int) - p).toNat by omega), read_next N5 F5 x' P' D AO hW w1 w2 tr2 F'⟩
theorem rd_more (w : World) : RdC w [27, 91, 37, 105, 37, 112, 49, 37, 100, 71] 2 .more 4 := fun x dx r tx oa k1 k2 k3 k4 k5 t pt u rs n tb D hr hb => does_more w x dx r tx oa k1 k2 k3 k4 k5 t pt u rs n tb D hr hb
theorem rd_param (w : World) {o : List UInt8} {b j : Int} (hl : o.length < 100) (h0 : 0 ≤ b) (h1 : b + 2 < (o.length : Int)) (e1 : (((o.getD (b + 1).toNat 0).toNat : Nat) : Int) = 112) (e2 : (((o.getD (b + 2).toNat 0).toNat : Nat) : Int) = 49) (hj : b + 2 + 1 = j) : RdC w o b .param j :=
  fun x dx r tx oa k1 k2 k3 k4 k5 t pt u rs n tb D hr hb => hj ▸ does_param w x dx r tx oa k1 k2 k3 k4 k5 o b hl h0 h1 e1 e2 t pt u rs n tb D hr hb
theorem rd_write (w : World) {o : List UInt8} {b j : Int} (hl : o.length < 100) (h0 : 0 ≤ b) (h1 : b + 1 < (o.length : Int)) (e1 : (((o.getD (b + 1).toNat 0).toNat : Nat) : Int) = 100) (c1 : (cutB o (some (b + 1)) (some (b + 1 + 1)) == [58]) = false) (c2 : (cutB o (some (b + 1)) (some (b + 1 + 1)) == [46]) = false) (hj : b + 1 + 1 = j) : RdC w o b .write j :=
  fun x dx r tx oa k1 k2 k3 k4 k5 t pt u rs n tb D hr hb => hj ▸ does_write w x dx r tx oa k1 k2 k3 k4 k5 o b hl h0 h1 e1 c1 c2 t pt u rs n tb D hr hb
theorem prog_A (w : World) (c : UInt8) (hc : ((c.toNat : Nat) : Int) ≠ 37) (t : Tok) : DoesG w 159 40 160 [.bytes [27, 91, 37, 112, 49, 37, 100, c].toArray t] [] [] (ProgOf [.text [27, 91], .param, .write, .text [c]]) :=
  does_program w _ t _ (of_decide_eq_true rfl) (.lit 27 (of_decide_eq_true rfl) (of_decide_eq_true rfl) rfl (of_decide_eq_true rfl) (of_decide_eq_true rfl) (.lit 91 (of_decide_eq_true rfl) (of_decide_eq_true rfl) rfl (of_decide_eq_true rfl) (of_decide_eq_true rfl)
    (.read .param 5 (of_decide_eq_true rfl) (of_decide_eq_true rfl) (of_decide_eq_true rfl) rfl (rd_param w (of_decide_eq_true rfl) (of_decide_eq_true rfl) (of_decide_eq_true rfl) rfl rfl rfl) (of_decide_eq_true rfl) (of_decide_eq_true rfl)
    (.read .write 7 (of_decide_eq_true rfl) (of_decide_eq_true rfl) (of_decide_eq_true rfl) rfl (rd_write w (of_decide_eq_true rfl) (of_decide_eq_true rfl) (of_decide_eq_true rfl) rfl rfl rfl rfl) (of_decide_eq_true rfl) (of_decide_eq_true rfl)
    (.lit c (of_decide_eq_true rfl) (of_decide_eq_true rfl) rfl hc (of_decide_eq_true rfl) (.done rfl (of_decide_eq_true rfl) (of_decide_eq_true rfl) (of_decide_eq_true rfl) rfl))))))
theorem prog_B (w : World) (t : Tok) : DoesG w 159 40 160 [.bytes [27, 91, 37, 105, 37, 112, 49, 37, 100, 71].toArray t] [] [] (ProgOf [.text [27, 91], .more, .param, .write, .text [71]]) :=
  does_program w _ t _ (by decide) (.lit 27 (by decide) (by decide) rfl (by decide) (by decide) (.lit 91 (by decide) (by decide) rfl (by decide) (by decide)
    (.read .more 4 (by decide) (by decide) (by decide) rfl (rd_more w) (by decide) (by decide)
    (.read .param 7 (by decide) (by decide) (by decide) rfl (rd_param w (by decide) (by decide) (by decide) rfl rfl rfl) (by decide) (by decide)
    (.read .write 9 (by decide) (by decide) (by decide) rfl (rd_write w (by decide) (by decide) (by decide) rfl rfl rfl rfl) (by decide) (by decide)
    (.lit 71 (by decide) (by decide) rfl (by decide) (by decide) (.done rfl (by decide) (by decide) (by decide) rfl)))))))

/-! PQX1 -/
abbrev rnE (w : World) (k : String) (tk : Tok) (v : Value) : DictEntry := ⟨PyData.keyHash w.params (Str.ofString k), .str (Str.ofString k) tk, v⟩
/-- a run's objects -/
abbrev rnL (w : World) (x dx pl ow sd sk dk vl fb : Addr) (k1 k2 k3 k4 k5 k6 : Tok) (ps : Array Value) (e1 : Nat) (vals : Array Value) (e2 : Nat) (fs : List UInt8) : List (Addr × Obj) :=
  [(x, instObj 316 dx), (dx, dictOf [rnE w "params" k1 (.ref pl), rnE w "own" k2 (.ref ow), rnE w "statics" k3 (.ref sd), rnE w "stack" k4 (.ref sk), rnE w "found" k5 (.ref fb)] 5), (pl, listOf ps e1), (sk, instObj 225 dk), (dk, dictOf [rnE w "values" k6 (.ref vl)] 1), (vl, listOf vals e2), (fb, baOf fs)]
/-- all apart -/
def ApartL : List Nat → Prop
  | [] => True
  | a :: r => (∀ b ∈ r, Off a b) ∧ ApartL r
theorem apart_head {a b : Nat} {r : List Nat} (h : ApartL (a :: r)) (hb : b ∈ r) : Off a b := h.1 b hb
theorem vl_eq {h' : Heap} {vl : Addr} {E n : Int} {t : Tok} {k : Nat} (hE : E = n) (h : h'.get? vl = some (listOf (#[].push (.int E t)) k)) : ∃ t' e', h'.get? vl = some (listOf #[.int n t'] e') := by subst hE; exact ⟨_, _, h⟩


theorem do_text (w : World) (x dx pl ow sd sk dk vl fb a : Addr) (k1 k2 k3 k4 k5 k6 : Tok) (ps : Array Value) (e1 : Nat) (vals : Array Value) (e2 : Nat) (fs : List UInt8) (t1 t2 : Tok) (tb : List UInt8)
    (D : AllNe fb [(x, instObj 316 dx), (dx, instObj 0 0), (pl, listOf ps e1), (sk, instObj 225 dk), (dk, instObj 0 0), (vl, listOf vals e2), (a, instObj 0 0)]) (hz : fs.length + tb.length < 1000) :
    DoesG w 299 20 100 [.ref x, .ref a] ((a, tupOf [.str (Str.ofString "text") t1, .bytes tb.toArray t2]) :: rnL w x dx pl ow sd sk dk vl fb k1 k2 k3 k4 k5 k6 ps e1 vals e2 fs) [fb] (fun _ v h' => v = .none ∧ h'.get? fb = some (baOf (fs ++ tb))) := by
  intro dp un gd env outer A₀ base h₀ L m mean mg mb s Q B F X T N hf hk hd hu hret
  refine' enter_G (binds := [(Str.ofString "self", .ref x), (Str.ofString "row", .ref a)]) ?B ?F ?X ?T ?N ?f ?k ?room ?ho ?hcd ?hbind ?hloc ?_ ?c2 ?c3 ?c4 ?c5
  (case B => exact B); (case F => exact F); (case X => exact X); (case T => exact T); (case N => exact N); (case f => exact hf); (case k => exact hk)
  (case room => walk_at "lim")
  (case ho => k_is); (case hcd => k_is); (case hbind => (intro _; exact BindsTo.of_eq rfl)); (case hloc => exact locs rfl)
  (case c2 => exact rfl); (case c3 => exact rfl); (case c4 => exact rfl); (case c5 => decide)
  k_whole
  clear B F X T N hf hk
  intro g' L' h' F' N' B' X' T' hsub hlt hsz
  (try dsimp only)
  (try k_fold)
  k_steps
  exact hret _ _ _ (kE [fb] (by walk_at "end mods")) ⟨rfl, News.get (by k_asm) (by k_mem)⟩
theorem do_param (w : World) (x dx pl ow sd sk dk vl fb a : Addr) (k1 k2 k3 k4 k5 k6 : Tok) (n : Int) (q : Int) (tn z1 z2 z3 z4 z5 z6 z7 z8 : Tok) (e1 : Nat) (e2 : Nat) (fs : List UInt8) (t1 t2 : Tok)
    (D : AllNe vl [(x, instObj 316 dx), (dx, instObj 0 0), (pl, instObj 0 0), (sk, instObj 225 dk), (dk, instObj 0 0), (fb, instObj 0 0), (a, instObj 0 0)]) (h0 : 0 ≤ n) (h1 : n < 100) :
    DoesG w 299 20 100 [.ref x, .ref a] ((a, tupOf [.str (Str.ofString "param") t1, .int 1 t2]) :: rnL w x dx pl ow sd sk dk vl fb k1 k2 k3 k4 k5 k6 #[.int n tn, .int q z1, .int 0 z2, .int 0 z3, .int 0 z4, .int 0 z5, .int 0 z6, .int 0 z7, .int 0 z8] e1 #[] e2 fs) [vl] (fun _ v h' => v = .none ∧ ∃ t' e', h'.get? vl = some (listOf #[.int n t'] e')) := by
  intro dp un gd env outer A₀ base h₀ L m mean mg mb s Q B F X T N hf hk hd hu hret
  refine' enter_G (binds := [(Str.ofString "self", .ref x), (Str.ofString "row", .ref a)]) ?B ?F ?X ?T ?N ?f ?k ?room ?ho ?hcd ?hbind ?hloc ?_ ?c2 ?c3 ?c4 ?c5
  (case B => exact B); (case F => exact F); (case X => exact X); (case T => exact T); (case N => exact N); (case f => exact hf); (case k => exact hk)
  (case room => walk_at "lim")
  (case ho => k_is); (case hcd => k_is); (case hbind => (intro _; exact BindsTo.of_eq rfl)); (case hloc => exact locs rfl)
  (case c2 => exact rfl); (case c3 => exact rfl); (case c4 => exact rfl); (case c5 => decide)
  k_whole
  clear B F X T N hf hk
  intro g' L' h' F' N' B' X' T' hsub hlt hsz
  (try dsimp only)
  (try k_fold)
  k_steps
  refine' hret _ _ _ (kE [vl] (by walk_at "end mods")) ⟨rfl, vl_eq ?e (News.get ?N ?m)⟩
  (case N => k_asm)
  (case m => k_mem)
  (case e => (simp only [Int.fmod_eq_emod_of_nonneg _ (by decide : (0 : Int) ≤ 4294967296), Int.fdiv_eq_ediv_of_nonneg _ (by decide : (0 : Int) ≤ 2)]; omega))


theorem regXmac7 : True := by
  k_with "noinline" => ((with_reducible show wG _ _ (call (Value.ref 180) _) _ _))
  k_with "wG" => (((with_reducible show wG _ _ (call (Value.ref 180) _) _ _); k_dflt (refine' DoesG.useM (does_written _ _ _ _ _ _ ?zzh0 ?zzh1) ?zzB ?zzF ?zzX ?zzT ?zzN ?zzhs ?zzhm ?zzf ?zzk ?zzhd ?zzhu ?_; (walk_at "end use0"); (case zzh0 => omega); (case zzh1 => omega); k_whole; intro v' h' k' F' x' lt' P'; (((first | refine Exists.elim P' ?_ | refine And.elim ?_ P'); clear P'; intro t' P'); subst P'); refine' led0 ?zzN x' ?_; (case zzN => k_asm); intro N'; clear x' lt'; (try k_sweep))))
  trivial

theorem do_write (w : World) (x dx pl ow sd sk dk vl fb a : Addr) (k1 k2 k3 k4 k5 k6 : Tok) (n : Int) (tn : Tok) (ps : Array Value) (e1 : Nat) (e2 : Nat) (fs : List UInt8) (t1 t2 t3 t4 : Tok)
    (D : AllNe vl [(x, instObj 316 dx), (dx, instObj 0 0), (pl, instObj 0 0), (sk, instObj 225 dk), (dk, instObj 0 0), (fb, instObj 0 0), (a, instObj 0 0)])
    (D2 : AllNe fb [(x, instObj 316 dx), (dx, instObj 0 0), (pl, instObj 0 0), (sk, instObj 225 dk), (dk, instObj 0 0), (a, instObj 0 0)]) (h0 : 0 ≤ n) (h1 : n < 100) (hz : fs.length < 900) :
    DoesG w 299 60 200 [.ref x, .ref a] ((a, tupOf [.str (Str.ofString "write") t1, .int 100 t2, .bytes #[] t3, .int 0 t4, .none]) :: rnL w x dx pl ow sd sk dk vl fb k1 k2 k3 k4 k5 k6 ps e1 #[.int n tn] e2 fs) [vl, fb]
      (fun _ v h' => v = .none ∧ h'.get? fb = some (baOf (fs ++ figs n)) ∧ ∃ e', h'.get? vl = some (listOf #[] e')) := by
  have hl := figs_len n
  intro dp un gd env outer A₀ base h₀ L m mean mg mb s Q B F X T N hf hk hd hu hret
  refine' enter_G (binds := [(Str.ofString "self", .ref x), (Str.ofString "row", .ref a)]) ?B ?F ?X ?T ?N ?f ?k ?room ?ho ?hcd ?hbind ?hloc ?_ ?c2 ?c3 ?c4 ?c5
  (case B => exact B); (case F => exact F); (case X => exact X); (case T => exact T); (case N => exact N); (case f => exact hf); (case k => exact hk)
  (case room => walk_at "lim")
  (case ho => k_is); (case hcd => k_is); (case hbind => (intro _; exact BindsTo.of_eq rfl)); (case hloc => exact locs rfl)
  (case c2 => exact rfl); (case c3 => exact rfl); (case c4 => exact rfl); (case c5 => decide)
  k_whole
  clear B F X T N hf hk
  intro g' L' h' F' N' B' X' T' hsub hlt hsz
  (try dsimp only)
  (try k_fold)
  k_steps
  refine' hret _ _ _ (kE [vl, fb] (by walk_at "end mods")) ⟨rfl, News.get ?N ?m, ⟨_, News.get ?N2 ?m2⟩⟩
  (case N => k_asm)
  (case m => k_mem)
  (case N2 => k_asm)
  (case m2 => k_mem)
theorem does_make_more (w : World) (x dx pl ow sd sk dk vl fb : Addr) (k1 k2 k3 k4 k5 k6 : Tok) (n : Int) (t0 t1 t2 t3 t4 t5 t6 t7 t8 : Tok) (e1 : Nat) (vals : Array Value) (e2 : Nat) (fs : List UInt8)
    (D : AllNe pl [(x, instObj 316 dx), (dx, instObj 0 0), (sk, instObj 225 dk), (dk, instObj 0 0), (vl, instObj 0 0), (fb, instObj 0 0)]) (h0 : 0 ≤ n) (h1 : n < 99) :
    Does w 285 20 100 [.ref x] (rnL w x dx pl ow sd sk dk vl fb k1 k2 k3 k4 k5 k6 #[.int n t0, .int 0 t1, .int 0 t2, .int 0 t3, .int 0 t4, .int 0 t5, .int 0 t6, .int 0 t7, .int 0 t8] e1 vals e2 fs) [pl]
      (fun _ v h' => v = .none ∧ ∃ u0 u1 e', h'.get? pl = some (listOf #[.int (n + 1) u0, .int 1 u1, .int 0 t2, .int 0 t3, .int 0 t4, .int 0 t5, .int 0 t6, .int 0 t7, .int 0 t8] e')) := by
  intro dp un gd env outer A₀ base h₀ L m mean mg mb s Q E B F X T N hf hk hd hu hret
  refine' enter_def (binds := [(Str.ofString "self", .ref x)]) ?B ?F ?X ?T ?N ?f ?k ?room ?ho ?hcd ?hbind ?hloc ?_ ?c2 ?c3 ?c4 ?c5
  (case B => exact B); (case F => exact F); (case X => exact X); (case T => exact T); (case N => exact N); (case f => exact hf); (case k => exact hk)
  (case room => walk_at "lim")
  (case ho => k_is); (case hcd => k_is); (case hbind => (intro _; exact BindsTo.of_eq rfl)); (case hloc => exact locs rfl)
  (case c2 => exact rfl); (case c3 => exact rfl); (case c4 => exact rfl); (case c5 => decide)
  k_whole
  clear B F X T N hf hk
  intro g' L' h' F' N' B' X' T' hsub hlt hsz
  (try dsimp only)
  (try k_fold)
  k_steps
  refine' hret _ _ _ (kE [pl] (by walk_at "end mods")) ⟨rfl, _, _, _, News.get ?N ?m⟩
  (case N => k_asm)
  (case m => k_mem)
theorem rn_mem {w : World} {x dx pl ow sd sk dk vl fb : Addr} {k1 k2 k3 k4 k5 k6 : Tok} {ps : Array Value} {e1 : Nat} {vals : Array Value} {e2 : Nat} {fs : List UInt8} {news : List (Addr × Obj)}
    (h1 : (x, instObj 316 dx) ∈ news) (h2 : (dx, dictOf [rnE w "params" k1 (.ref pl), rnE w "own" k2 (.ref ow), rnE w "statics" k3 (.ref sd), rnE w "stack" k4 (.ref sk), rnE w "found" k5 (.ref fb)] 5) ∈ news) (h3 : (pl, listOf ps e1) ∈ news) (h4 : (sk, instObj 225 dk) ∈ news) (h5 : (dk, dictOf [rnE w "values" k6 (.ref vl)] 1) ∈ news) (h6 : (vl, listOf vals e2) ∈ news) (h7 : (fb, baOf fs) ∈ news) :
    ∀ p' ∈ rnL w x dx pl ow sd sk dk vl fb k1 k2 k3 k4 k5 k6 ps e1 vals e2 fs, p' ∈ news := by
  intro q hq
  rcases List.mem_cons.mp hq with rfl | hq
  · exact h1
  rcases List.mem_cons.mp hq with rfl | hq
  · exact h2
  rcases List.mem_cons.mp hq with rfl | hq
  · exact h3
  rcases List.mem_cons.mp hq with rfl | hq
  · exact h4
  rcases List.mem_cons.mp hq with rfl | hq
  · exact h5
  rcases List.mem_cons.mp hq with rfl | hq
  · exact h6
  rcases List.mem_cons.mp hq with rfl | hq
  · exact h7
  · exact absurd hq List.not_mem_nil
theorem rn_mem1 {a : Addr} {o : Obj} {l news : List (Addr × Obj)} (h : (a, o) ∈ news) (k : ∀ p ∈ l, p ∈ news) : ∀ p ∈ (a, o) :: l, p ∈ news := by
  intro q hq
  rcases List.mem_cons.mp hq with rfl | hq
  · exact h
  · exact k _ hq

theorem regXmac8 : True := by
  k_with "noinline" => ((with_reducible show wG _ _ (call (Value.ref 285) _) _ _))
  k_with "wG" => (((with_reducible show wG _ _ (call (Value.ref 285) _) _ _); k_dflt (
  refine' DoesG.useM (Does.toG (does_make_more _ _ _ _ _ _ _ _ _ _ _ _ _ _ _ _ _ _ _ _ _ _ _ _ _ _ _ _ _ _ ?zzD ?zzh0 ?zzh1)) ?zzB ?zzF ?zzX ?zzT ?zzN (rn_mem ?zzm1 ?zzm2 ?zzm3 ?zzm4 ?zzm5 ?zzm6 ?zzm7) ?zzhm ?zzf ?zzk ?zzhd ?zzhu ?_;
  (case zzB => k_asm); (case zzF => k_asm); (case zzX => k_asm); (case zzT => k_asm); (case zzN => k_asm); (case zzm1 => k_mem); (case zzm2 => k_mem); (case zzm3 => k_mem); (case zzm4 => k_mem); (case zzm5 => k_mem); (case zzm6 => k_mem); (case zzm7 => k_mem);
  (case zzD => (refine ⟨?_, ?_, ?_, ?_, ?_, ?_, trivial⟩ <;> k_ne)); (case zzh0 => omega); (case zzh1 => omega);
  (case zzhm => (intro a ha; rw [List.mem_singleton.mp ha]; exact ⟨_, by k_mem⟩));
  (case zzf => exact rfl); (case zzk => exact rfl); (case zzhd => walk_at "lim"); (case zzhu => walk_at "lim"); k_whole;
  intro v' h' k' F' x' lt' P'; (((first | refine Exists.elim P' ?_ | refine And.elim ?_ P'); clear P'; intro e0' P'); subst e0'; ((first | refine Exists.elim P' ?_ | refine And.elim ?_ P'); clear P'; intro u0' P'); ((first | refine Exists.elim P' ?_ | refine And.elim ?_ P'); clear P'; intro u1' P'); ((first | refine Exists.elim P' ?_ | refine And.elim ?_ P'); clear P'; intro e0' P'); (revert P'; intro e1'));
  refine' led1 ?zzN x' ?zzU1 e1' ?_; (case zzN => k_asm); (case zzU1 => k_upd); intro N1'; clear x' lt' e1'; (try k_sweep))))
  trivial

theorem do_more (w : World) (x dx pl ow sd sk dk vl fb a : Addr) (k1 k2 k3 k4 k5 k6 : Tok) (n : Int) (t0 t1 t2 t3 t4 t5 t6 t7 t8 : Tok) (e1 : Nat) (vals : Array Value) (e2 : Nat) (fs : List UInt8) (u : Tok)
    (D : AllNe pl [(x, instObj 316 dx), (dx, instObj 0 0), (sk, instObj 225 dk), (dk, instObj 0 0), (vl, instObj 0 0), (fb, instObj 0 0), (a, instObj 0 0)]) (h0 : 0 ≤ n) (h1 : n < 99) :
    DoesG w 299 40 140 [.ref x, .ref a] ((a, tupOf [.str (Str.ofString "more") u]) :: rnL w x dx pl ow sd sk dk vl fb k1 k2 k3 k4 k5 k6 #[.int n t0, .int 0 t1, .int 0 t2, .int 0 t3, .int 0 t4, .int 0 t5, .int 0 t6, .int 0 t7, .int 0 t8] e1 vals e2 fs) [pl]
      (fun _ v h' => v = .none ∧ ∃ u0 u1 e', h'.get? pl = some (listOf #[.int (n + 1) u0, .int 1 u1, .int 0 t2, .int 0 t3, .int 0 t4, .int 0 t5, .int 0 t6, .int 0 t7, .int 0 t8] e')) := by
  intro dp un gd env outer A₀ base h₀ L m mean mg mb s Q B F X T N hf hk hd hu hret
  refine' enter_G (binds := [(Str.ofString "self", .ref x), (Str.ofString "row", .ref a)]) ?B ?F ?X ?T ?N ?f ?k ?room ?ho ?hcd ?hbind ?hloc ?_ ?c2 ?c3 ?c4 ?c5
  (case B => exact B); (case F => exact F); (case X => exact X); (case T => exact T); (case N => exact N); (case f => exact hf); (case k => exact hk)
  (case room => walk_at "lim")
  (case ho => k_is); (case hcd => k_is); (case hbind => (intro _; exact BindsTo.of_eq rfl)); (case hloc => exact locs rfl)
  (case c2 => exact rfl); (case c3 => exact rfl); (case c4 => exact rfl); (case c5 => decide)
  k_whole
  clear B F X T N hf hk
  intro g' L' h' F' N' B' X' T' hsub hlt hsz
  (try dsimp only)
  (try k_fold)
  k_steps
  refine' hret _ _ _ (kE [pl] (by walk_at "end mods")) ⟨rfl, _, _, _, News.get ?N ?m⟩
  (case N => k_asm)
  (case m => k_mem)

/-! PQX2 -/
/-! rows of a parameter program, and what they turn -/
structure RS where
  a : Int
  b : Int
  vs : List Int
  fs : List UInt8
inductive Step : Op → RS → RS → Prop
  | text {a b vs fs} (tb : List UInt8) : fs.length + tb.length < 1000 → Step (.text tb) ⟨a, b, vs, fs⟩ ⟨a, b, vs, fs ++ tb⟩
  | more {a vs fs} : 0 ≤ a → a < 99 → Step .more ⟨a, 0, vs, fs⟩ ⟨a + 1, 1, vs, fs⟩
  | param {a b fs} : 0 ≤ a → a < 100 → Step .param ⟨a, b, [], fs⟩ ⟨a, b, [a], fs⟩
  | write {a b v fs} : 0 ≤ v → v < 100 → fs.length < 900 → Step .write ⟨a, b, [v], fs⟩ ⟨a, b, [], fs ++ figs v⟩
inductive Trace : List Op → RS → RS → Prop
  | nil {S} : Trace [] S S
  | cons {o os S S' S''} : Step o S S' → Trace os S' S'' → Trace (o :: os) S S''
theorem RowOf.word {o : Op} {vs : List Value} (h : RowOf o vs) : ∃ t r, vs = .str (opW o) t :: r ∧ r.length ≤ 100 := by
  cases o with
  | text b => obtain ⟨t, u, rfl⟩ := h; exact ⟨t, _, rfl, by simp⟩
  | more => obtain ⟨t, rfl⟩ := h; exact ⟨t, _, rfl, by simp⟩
  | param => obtain ⟨t, u, rfl⟩ := h; exact ⟨t, _, rfl, by simp⟩
  | write => obtain ⟨t, _, _, _, rfl⟩ := h; exact ⟨t, _, rfl, by simp⟩
def RnIs (S : RS) (ps vals : List Value) : Prop := IntsAre ps [S.a, S.b, 0, 0, 0, 0, 0, 0, 0] ∧ IntsAre vals S.vs
theorem ints_one {ps : List Value} {x : Int} {xs : List Int} {G : Prop} (h : IntsAre ps (x :: xs)) (k : ∀ t r, ps = .int x t :: r → IntsAre r xs → G) : G := by
  cases h with | cons _ t h => exact k t _ rfl h
theorem ints_nil {ps : List Value} (h : IntsAre ps []) : ps = [] := by cases h; rfl
theorem RnIs.get {S : RS} {ps vals : List Value} (h : RnIs S ps vals) : ∃ t0 t1 t2 t3 t4 t5 t6 t7 t8, ps = [.int S.a t0, .int S.b t1, .int 0 t2, .int 0 t3, .int 0 t4, .int 0 t5, .int 0 t6, .int 0 t7, .int 0 t8] :=
  ints_one h.1 fun t0 _ e0 h => ints_one h fun t1 _ e1 h => ints_one h fun t2 _ e2 h => ints_one h fun t3 _ e3 h => ints_one h fun t4 _ e4 h => ints_one h fun t5 _ e5 h => ints_one h fun t6 _ e6 h => ints_one h fun t7 _ e7 h => ints_one h fun t8 _ e8 h =>
    ⟨t0, t1, t2, t3, t4, t5, t6, t7, t8, e0.trans (congrArg (List.cons _) (e1.trans (congrArg (List.cons _) (e2.trans (congrArg (List.cons _) (e3.trans (congrArg (List.cons _) (e4.trans (congrArg (List.cons _) (e5.trans (congrArg (List.cons _) (e6.trans (congrArg (List.cons _) (e7.trans (congrArg (List.cons _) (e8.trans (congrArg (List.cons _) (ints_nil h))))))))))))))))))⟩
inductive DoneP (S' : RS) (pl vl fb : Addr) (h : Heap) (v : Value) (h' : Heap) : Prop
  | intro (ps' vals' : List Value) (e1' e2' : Nat) : v = .none → RnIs S' ps' vals' → h'.get? pl = some (listOf ps'.toArray e1') → h'.get? vl = some (listOf vals'.toArray e2') → h'.get? fb = some (baOf S'.fs) → DoneP S' pl vl fb h v h'
/-- a row is done -/
theorem do_any (w : World) (x dx pl ow sd sk dk vl fb a : Addr) (k1 k2 k3 k4 k5 k6 : Tok) {o : Op} {S S' : RS} {ps vals rv : List Value} (e1 e2 : Nat) (st : Step o S S') (hr : RowOf o rv) (hR : RnIs S ps vals)
    (D1 : AllNe pl [(x, instObj 316 dx), (dx, instObj 0 0), (sk, instObj 225 dk), (dk, instObj 0 0), (vl, instObj 0 0), (fb, instObj 0 0), (a, instObj 0 0)])
    (D2 : AllNe vl [(x, instObj 316 dx), (dx, instObj 0 0), (pl, instObj 0 0), (sk, instObj 225 dk), (dk, instObj 0 0), (fb, instObj 0 0), (a, instObj 0 0)])
    (D3 : AllNe fb [(x, instObj 316 dx), (dx, instObj 0 0), (pl, instObj 0 0), (sk, instObj 225 dk), (dk, instObj 0 0), (vl, instObj 0 0), (a, instObj 0 0)]) :
    DoesG w 299 60 200 [.ref x, .ref a] ((a, tupOf rv) :: rnL w x dx pl ow sd sk dk vl fb k1 k2 k3 k4 k5 k6 ps.toArray e1 vals.toArray e2 S.fs) [pl, vl, fb]
      (DoneP S' pl vl fb) := by
  obtain ⟨t0, t1, t2, t3, t4, t5, t6, t7, t8, rfl⟩ := hR.get
  obtain ⟨hp, hv⟩ := hR
  cases st with
  | text tb hz =>
    obtain ⟨u1, u2, rfl⟩ := hr
    refine (do_text w x dx pl ow sd sk dk vl fb a k1 k2 k3 k4 k5 k6 _ e1 _ e2 _ u1 u2 tb D3 hz).weak (by decide) (by decide) sub1c fun h v h' hh x' P => ?_
    obtain ⟨rfl, e⟩ := P
    exact ⟨_, _, e1, e2, rfl, ⟨hp, hv⟩, x' _ _ (hh (pl, _) (.tail _ (.tail _ (.tail _ (.head _))))) (not_in1 D3.2.2.1), x' _ _ (hh (vl, _) (.tail _ (.tail _ (.tail _ (.tail _ (.tail _ (.tail _ (.head _)))))))) (not_in1 D3.2.2.2.2.2.1), e⟩
  | more h0 h1 =>
    obtain ⟨u1, rfl⟩ := hr
    refine (do_more w x dx pl ow sd sk dk vl fb a k1 k2 k3 k4 k5 k6 _ t0 t1 t2 t3 t4 t5 t6 t7 t8 e1 _ e2 _ u1 D1 h0 h1).weak (by decide) (by decide) sub1a fun h v h' hh x' P => ?_
    obtain ⟨rfl, u0, u1', e', e⟩ := P
    exact ⟨_, _, e', e2, rfl, ⟨.cons _ _ (.cons _ _ (.cons _ _ (.cons _ _ (.cons _ _ (.cons _ _ (.cons _ _ (.cons _ _ (.cons _ _ .nil)))))))), hv⟩, e, x' _ _ (hh (vl, _) (.tail _ (.tail _ (.tail _ (.tail _ (.tail _ (.tail _ (.head _)))))))) (not_in1 D1.2.2.2.2.1), x' _ _ (hh (fb, _) (.tail _ (.tail _ (.tail _ (.tail _ (.tail _ (.tail _ (.tail _ (.head _))))))))) (not_in1 D1.2.2.2.2.2.1)⟩
  | param h0 h1 =>
    obtain ⟨u1, u2, rfl⟩ := hr
    cases hv
    refine (do_param w x dx pl ow sd sk dk vl fb a k1 k2 k3 k4 k5 k6 _ _ t0 t1 t2 t3 t4 t5 t6 t7 t8 e1 e2 _ u1 u2 D2 h0 h1).weak (by decide) (by decide) sub1b fun h v h' hh x' P => ?_
    obtain ⟨rfl, t', e', e⟩ := P
    exact ⟨_, _, e1, e', rfl, ⟨hp, .cons _ _ .nil⟩, x' _ _ (hh (pl, _) (.tail _ (.tail _ (.tail _ (.head _))))) (not_in1 D2.2.2.1), e, x' _ _ (hh (fb, _) (.tail _ (.tail _ (.tail _ (.tail _ (.tail _ (.tail _ (.tail _ (.head _))))))))) (not_in1 D2.2.2.2.2.2.1)⟩
  | write h0 h1 hz =>
    obtain ⟨u1, u2, u3, u4, rfl⟩ := hr
    cases hv with | cons _ tv hv =>
    cases hv
    refine (do_write w x dx pl ow sd sk dk vl fb a k1 k2 k3 k4 k5 k6 _ tv _ e1 e2 _ u1 u2 u3 u4 D2 ⟨D3.1, D3.2.1, D3.2.2.1, D3.2.2.2.1, D3.2.2.2.2.1, D3.2.2.2.2.2.2.1, trivial⟩ h0 h1 hz).weak (by decide) (by decide) sub2 fun h v h' hh x' P => ?_
    obtain ⟨rfl, e, e', ev⟩ := P
    exact ⟨_, _, e1, e', rfl, ⟨hp, .nil⟩, x' _ _ (hh (pl, _) (.tail _ (.tail _ (.tail _ (.head _))))) (not_in2 D2.2.2.1 D3.2.2.1), ev, e⟩
theorem AreOps.get {W : List (Addr × Obj)} {vs : List Value} {os : List Op} (x : AreOps W vs os) : ∀ {i : Nat} {v : Value}, vs[i]? = some v → ∃ a o rv, v = .ref a ∧ (a, tupOf rv) ∈ W ∧ RowOf o rv ∧ os[i]? = some o := by
  induction x with
  | nil => intro i v h; simp at h
  | @cons a vs os o rv hm hr _ ih =>
    intro i v h
    cases i with
    | zero => simp at h; exact ⟨a, o, rv, h.symm, hm, hr, by simp⟩
    | succ i => simp at h; obtain ⟨a', o', rv', x, y, z, e⟩ := ih h; exact ⟨a', o', rv', x, y, z, by simpa using e⟩
section
variable {w : World} {A : Around} {E : Value → Shared → Prop} {s : Shared} {h₀ : Heap} {L ls : Addr} {news : List (Addr × Obj)} {us : List Value} {k : Nat} {Q : Value → Shared → Prop}
theorem len_T (N : News h₀ L s.heap news) (hm : (ls, listOf us.toArray k) ∈ news) (hz : us.length ≤ 1000) (h : ∀ t tk, Q (.int (us.length : Int) t) ⟨s.heap, s.gens, s.drawn, tk, s.os⟩) : wpAny (model pw w) A (call (.builtin "len") [.ref ls]) Q E s :=
  call_len_list (N.isList hm) (by simp only [List.size_toArray]; omega) (by simp only [List.size_toArray]; exact h _ _)
theorem item_T {value slice : Expr} {r : Int} {t : Tok} (N : News h₀ L s.heap news) (hm : (ls, listOf us.toArray k) ∈ news) (h0 : 0 ≤ r) (h1 : r < us.length) (hz : us.length ≤ 1000) (h : ∀ v, us[r.toNat]? = some v → Q v s)
    (hs : subscripted slice false (.ref ls) (.int r t) = operate [.ref ls, .int r t] (getItem (.ref ls) (.int r t))) (ht : ∀ q, letTemporaryGo value (.ref ls) q = pure ()) : wpAny (model pw w) A (subscriptTail value slice (.ref ls) (.int r t)) Q E s := by
  have hlt : r.toNat < us.length := by omega
  exact subscriptTail_builtin (N.isList hm).typeIs PySem.F.slot_list_getitem.lookup (wpAny_getItem_list (x := us[r.toNat]) (N.isList hm) h0 (by omega) (by simp [hlt]) (h _ (by simp [hlt]))) hs ht
theorem item_A {value slice : Expr} {i : Nat} {v : Value} {t : Tok} (N : News h₀ L s.heap news) (hm : (ls, listOf us.toArray k) ∈ news) (hv : us[i]? = some v) (hz : us.length ≤ 1000) (h : Q v s)
    (hs : subscripted slice false (.ref ls) (.int (i : Int) t) = operate [.ref ls, .int (i : Int) t] (getItem (.ref ls) (.int (i : Int) t))) (ht : ∀ q, letTemporaryGo value (.ref ls) q = pure ()) : wpAny (model pw w) A (subscriptTail value slice (.ref ls) (.int (i : Int) t)) Q E s := by
  have hlt : i < us.length := (List.getElem?_eq_some_iff.mp hv).1
  refine item_T N hm (by omega) (by omega) hz (fun v' hv' => ?_) hs ht
  rw [Int.toNat_natCast, hv] at hv'
  exact Option.some.inj hv' ▸ h
theorem tup_0 {value slice : Expr} {a : Addr} {v : Value} {r : List Value} {t : Tok} (N : News h₀ L s.heap news) (hm : (a, tupOf (v :: r)) ∈ news) (hz : r.length ≤ 100) (h : Q v s)
    (hs : subscripted slice false (.ref a) (.int 0 t) = operate [.ref a, .int 0 t] (getItem (.ref a) (.int 0 t))) (ht : ∀ q, letTemporaryGo value (.ref a) q = pure ()) : wpAny (model pw w) A (subscriptTail value slice (.ref a) (.int 0 t)) Q E s :=
  item_tuple (x := v) (j := 0) (N.isTup hm) (by decide) (by decide) (by simp [seqIndex?]) (by simp) h hs ht
theorem cmp_opW {o : Op} {b : Str} {t u : Tok} (hb : opW o ≠ b) (h : Q (.bool false) s) : wpAny (model pw w) A (compareOp .Eq (.str (opW o) t) (.str b u)) Q E s :=
  PySem.SeqAt.RcAt.str_str _ _ _ _ pw w E Q (by rw [show (opW o == b) = false from beq_eq_false_iff_ne.mpr hb]; exact h)
end
theorem opW_jump (o : Op) : opW o ≠ Str.ofString "jump" := by cases o <;> (show Str.ofString _ ≠ _; decide)
theorem opW_unless (o : Op) : opW o ≠ Str.ofString "unless" := by cases o <;> (show Str.ofString _ ≠ _; decide)
theorem run_led {w : World} {h₀ h : Heap} {L r fb vl sk dk ow pl x dx sd : Addr} {rvs : List Value} {n e1 e2 : Nat} {W : List (Addr × Obj)} {k1 k2 k3 k4 k5 k6 : Tok} {oo : Obj} {ps : Array Value} {q1 q2 q3 q4 q5 : Addr × Obj}
    (N : News h₀ L h ((r, listOf rvs.toArray n) :: W ++ [(fb, baOf []), (vl, listOf #[] e2), (sk, instObj 225 dk), (dk, dictOf [rnE w "values" k6 (.ref vl)] 1), (ow, oo), (pl, listOf ps e1), q1, q2, q3, (x, instObj 316 dx), (dx, dictOf [rnE w "params" k1 (.ref pl), rnE w "own" k2 (.ref ow), rnE w "statics" k3 (.ref sd), rnE w "stack" k4 (.ref sk), rnE w "found" k5 (.ref fb)] 5), q4, q5])) :
    News h₀ L h (rnL w x dx pl ow sd sk dk vl fb k1 k2 k3 k4 k5 k6 ps e1 #[] e2 [] ++ (r, listOf rvs.toArray n) :: (W ++ [q5])) :=
  news_cons (N _ (List.mem_append_right _ (.tail _ (.tail _ (.tail _ (.tail _ (.tail _ (.tail _ (.tail _ (.tail _ (.tail _ (.head _)))))))))))) (news_cons (N _ (List.mem_append_right _ (.tail _ (.tail _ (.tail _ (.tail _ (.tail _ (.tail _ (.tail _ (.tail _ (.tail _ (.tail _ (.head _))))))))))))) (news_cons (N _ (List.mem_append_right _ (.tail _ (.tail _ (.tail _ (.tail _ (.tail _ (.head _)))))))) (news_cons (N _ (List.mem_append_right _ (.tail _ (.tail _ (.head _))))) (news_cons (N _ (List.mem_append_right _ (.tail _ (.tail _ (.tail _ (.head _)))))) (news_cons (N _ (List.mem_append_right _ (.tail _ (.head _)))) (news_cons (N _ (List.mem_append_right _ (.head _))) (news_cons (N _ (List.mem_append_left _ (.head _))) fun p hp => (List.mem_append.mp hp).elim (fun q => N p (List.mem_append_left _ (.tail _ q))) fun q => N p (List.mem_append_right _ (by rw [List.mem_singleton.mp q]; exact .tail _ (.tail _ (.tail _ (.tail _ (.tail _ (.tail _ (.tail _ (.tail _ (.tail _ (.tail _ (.tail _ (.tail _ (.head _)))))))))))))))))))))
theorem rn_next {w : World} {h₀ h h' : Heap} {L x dx pl ow sd sk dk vl fb a : Addr} {k1 k2 k3 k4 k5 k6 : Tok} {ps ps' vals vals' : Array Value} {e1 e2 e1' e2' : Nat} {fs fs' : List UInt8} {ra : Obj} {R : List (Addr × Obj)}
    (N : News h₀ L h ((a, ra) :: (rnL w x dx pl ow sd sk dk vl fb k1 k2 k3 k4 k5 k6 ps e1 vals e2 fs ++ R))) (x' : Ext [pl, vl, fb] h h') (g1 : h'.get? pl = some (listOf ps' e1')) (g2 : h'.get? vl = some (listOf vals' e2')) (g3 : h'.get? fb = some (baOf fs'))
    (D1 : AllNe pl [(x, instObj 316 dx), (dx, instObj 0 0), (sk, instObj 225 dk), (dk, instObj 0 0), (vl, instObj 0 0), (fb, instObj 0 0), (a, instObj 0 0)])
    (D2 : AllNe vl [(x, instObj 316 dx), (dx, instObj 0 0), (pl, instObj 0 0), (sk, instObj 225 dk), (dk, instObj 0 0), (fb, instObj 0 0), (a, instObj 0 0)])
    (D3 : AllNe fb [(x, instObj 316 dx), (dx, instObj 0 0), (pl, instObj 0 0), (sk, instObj 225 dk), (dk, instObj 0 0), (vl, instObj 0 0), (a, instObj 0 0)])
    (hR : ∀ p ∈ R, p.1 ≠ pl ∧ p.1 ≠ vl ∧ p.1 ≠ fb) : News h₀ L h' (rnL w x dx pl ow sd sk dk vl fb k1 k2 k3 k4 k5 k6 ps' e1' vals' e2' fs' ++ R) := by
  obtain ⟨n1, n2, n3, n4, n5, n6, n7, -⟩ := D1
  obtain ⟨m1, m2, m3, m4, m5, m6, m7, -⟩ := D2
  obtain ⟨l1, l2, l3, l4, l5, l6, l7, -⟩ := D3
  have keep : ∀ p, p ∈ (a, ra) :: (rnL w x dx pl ow sd sk dk vl fb k1 k2 k3 k4 k5 k6 ps e1 vals e2 fs ++ R) → p.1 ≠ pl → p.1 ≠ vl → p.1 ≠ fb → h'.get? p.1 = some p.2 ∧ p.1 ≠ L ∧ h₀.get? p.1 = none := fun p hp a1 a2 a3 => ⟨x' _ _ (N p hp).1 (not_in3 a1 a2 a3), (N p hp).2⟩
  exact news_cons (keep _ (.tail _ (List.mem_append_left _ (.head _))) n1 m1 l1) (news_cons (keep _ (.tail _ (List.mem_append_left _ (.tail _ (.head _)))) n2 m2 l2) (news_cons ⟨g1, (N _ (.tail _ (List.mem_append_left _ (.tail _ (.tail _ (.head _)))))).2⟩ (news_cons (keep _ (.tail _ (List.mem_append_left _ (.tail _ (.tail _ (.tail _ (.head _)))))) n3 m4 l4) (news_cons (keep _ (.tail _ (List.mem_append_left _ (.tail _ (.tail _ (.tail _ (.tail _ (.head _))))))) n4 m5 l5) (news_cons ⟨g2, (N _ (.tail _ (List.mem_append_left _ (.tail _ (.tail _ (.tail _ (.tail _ (.tail _ (.head _))))))))).2⟩ (news_cons ⟨g3, (N _ (.tail _ (List.mem_append_left _ (.tail _ (.tail _ (.tail _ (.tail _ (.tail _ (.tail _ (.head _)))))))))).2⟩ fun p hp => keep p (.tail _ (List.mem_append_right _ hp)) (hR p hp).1 (hR p hp).2.1 (hR p hp).2.2))))))
abbrev rnM (x rl : Addr) (i : Int) (u : Tok) (rowv : Option Value) : Str → Option Value := fun y =>
  if y = Str.ofString "row" then rowv else if y = Str.ofString "at" then some (.int i u) else List.lookup y [(Str.ofString "self", Value.ref x), (Str.ofString "rows", Value.ref rl)].reverse
inductive RnI (w : World) (x dx pl ow sd sk dk vl fb rl : Addr) (k1 k2 k3 k4 k5 k6 : Tok) (rvs : List Value) (n : Nat) (W : List (Addr × Obj)) (ops : List Op) (Send : RS) (g : Heap) (L : Addr) (s : Shared) (k : Nat) (s₁ : Shared) : Prop
  | intro (i : Nat) (S : RS) (h₁ : Heap) (tk : Nat) (ps vals : List Value) (e1 e2 : Nat) (u : Tok) (rowv : Option Value) : k = ops.length - i → i ≤ ops.length → Trace (ops.drop i) S Send → RnIs S ps vals → s₁ = ⟨h₁, s.gens, s.drawn, tk, s.os⟩ → Fr g L h₁ (rnM x rl i u rowv) → News g L h₁ (rnL w x dx pl ow sd sk dk vl fb k1 k2 k3 k4 k5 k6 ps.toArray e1 vals.toArray e2 S.fs ++ (rl, listOf rvs.toArray n) :: W) → RnI w x dx pl ow sd sk dk vl fb rl k1 k2 k3 k4 k5 k6 rvs n W ops Send g L s k s₁
theorem an_ne {X news : List (Addr × Obj)} (an : ∀ p ∈ X, ∀ q ∈ news, q.1 ≠ p.1) {p : Addr × Obj} (hp : p ∈ X) {b : Addr} {o : Obj} (hm : (b, o) ∈ news) : p.1 ≠ b := fun q => an p hp (b, o) hm q.symm
theorem an_app {X : List (Addr × Obj)} {q r : Addr × Obj} {P : Addr × Obj → Prop} (h : ∀ p ∈ r :: X, P p) (hq : P q) : ∀ p ∈ r :: (X ++ [q]), P p := fun p hp => by
  rcases List.mem_cons.mp hp with rfl | hp
  · exact h _ (.head _)
  rcases List.mem_append.mp hp with hp | hp
  · exact h _ (.tail _ hp)
  · rw [List.mem_singleton.mp hp]; exact hq
inductive RnA (x dx pl sk dk vl fb : Nat) (W : List (Addr × Obj)) : Prop
  | intro : x ≠ pl → dx ≠ pl → sk ≠ pl → dk ≠ pl → vl ≠ pl → fb ≠ pl → x ≠ vl → dx ≠ vl → pl ≠ vl → sk ≠ vl → dk ≠ vl → fb ≠ vl → x ≠ fb → dx ≠ fb → pl ≠ fb → sk ≠ fb → dk ≠ fb → vl ≠ fb → (∀ p ∈ W, p.1 ≠ pl ∧ p.1 ≠ vl ∧ p.1 ≠ fb) → RnA x dx pl sk dk vl fb W
/-- where the loop over the rows begins -/
inductive RunAt (w : World) (rvs : List Value) (n : Nat) (W : List (Addr × Obj)) (ops : List Op) (Send : RS) (g : Heap) (L : Addr) (s s₁ : Shared) : Prop
  | intro (x dx pl ow sd sk dk vl fb rl : Addr) (k1 k2 k3 k4 k5 k6 : Tok) : RnA x dx pl sk dk vl fb ((rl, listOf rvs.toArray n) :: W) → RnI w x dx pl ow sd sk dk vl fb rl k1 k2 k3 k4 k5 k6 rvs n W ops Send g L s ops.length s₁ → RunAt w rvs n W ops Send g L s s₁
theorem run_at {w : World} {h : Heap} {L r fb vl sk dk ow pl x dx sd : Addr} {rvs pv : List Value} {n e1 e2 : Nat} {W : List (Addr × Obj)} {k1 k2 k3 k4 k5 k6 : Tok} {oo : Obj} {q1 q2 q3 q4 q5 : Addr × Obj} {ops : List Op} {a : Int} {Send : RS} {g : Heap} {s : Shared} {tk : Nat} {m : Str → Option Value} {u : Tok} (F : Fr g L h m)
    (N : News g L h ((r, listOf rvs.toArray n) :: W ++ [(fb, baOf []), (vl, listOf #[] e2), (sk, instObj 225 dk), (dk, dictOf [rnE w "values" k6 (.ref vl)] 1), (ow, oo), (pl, listOf pv.toArray e1), q1, q2, q3, (x, instObj 316 dx), (dx, dictOf [rnE w "params" k1 (.ref pl), rnE w "own" k2 (.ref ow), rnE w "statics" k3 (.ref sd), rnE w "stack" k4 (.ref sk), rnE w "found" k5 (.ref fb)] 5), q4, q5]))
    (tr : Trace ops ⟨a, 0, [], []⟩ Send) (hp : IntsAre pv [a, 0, 0, 0, 0, 0, 0, 0, 0]) (hm : ∀ y, m y = rnM x r (0 : Nat) u none y) (A : RnA x dx pl sk dk vl fb ((r, listOf rvs.toArray n) :: (W ++ [q5]))) : RunAt w rvs n (W ++ [q5]) ops Send g L s ⟨h, s.gens, s.drawn, tk, s.os⟩ :=
  .intro x dx pl ow sd sk dk vl fb r k1 k2 k3 k4 k5 k6 A ⟨0, ⟨a, 0, [], []⟩, h, tk, pv, [], e1, e2, u, none, rfl, Nat.zero_le _, tr, ⟨hp, .nil⟩, rfl, frCongr F hm, run_led N⟩


local macro_rules | `(tactic| walk_at "compareOp Eq str str") => `(tactic| k_extra "m:compareOp Eq str str")
set_option rowWalk.seconds 100 in
theorem does_expand (w : World) (o : List UInt8) (ops : List Op) (n : Int) (S : RS) (tn t : Tok) (p : Addr) (e : Nat) (C : ∀ t, DoesG w 159 40 160 [.bytes o.toArray t] [] [] (ProgOf ops)) (tr : Trace ops ⟨n, 0, [], []⟩ S) (hl : ops.length ≤ 10) (hS : S.fs.length < 1000) :
    DoesG w 328 80 300 [.bytes o.toArray t, .ref p] [(p, listOf #[.int n tn] e)] [] (fun _ v _ => IsB v S.fs) := by
  k_with "noinline" => (with_reducible show wG _ _ (call (Value.ref 299) _) _ _)
  k_with "noinline" => (with_reducible show wG _ _ (call (Value.ref 159) _) _ _)
  k_with "nowhile" => (with_reducible show cG _ _ (Code.whileLoop _ _ _ (envOf (Str.ofString "ParamRun.run") _ _ _ _)) _ _)
  k_with "wG" => ((with_reducible show wG _ _ (call (Value.ref 159) _) _ _); k_dflt (refine' DoesG.useM (C _) ?zzB ?zzF ?zzX ?zzT ?zzN ?zzhs ?zzhm ?zzf ?zzk ?zzhd ?zzhu ?_; (walk_at "end use0"); k_whole; intro v' h' k' F' x' lt' P'; obtain ⟨r', n', rvs', W', rfl, hn', hW', AO'⟩ := P'; refine' led0 ?zzN x' ?_; (case zzN => k_asm); intro N1'; refine' ledNs hn' ?zzF ?zzN0 N1' ?_; (case zzF => k_asm); (case zzN0 => k_asm); intro an' N2'; clear N1' x' lt' hn'; (try k_sweep)))
  k_with "m:call builtin:len" => (k_here; (with_reducible show wpAny _ _ (call (Value.builtin "len") [Value.ref _]) _ _ _); k_dflt (refine' len_T ?zzN ?zzhm ?zzz ?_; (case zzN => k_asm); (case zzhm => k_mem); (case zzz => omega); intro t' k'))
  k_with "m:subscriptTail" => (k_here; (with_reducible show wpAny _ _ (subscriptTail _ _ (Value.ref _) (Value.int (Nat.cast _) _)) _ _ _); k_dflt (refine' item_A ?zzN ?zzhm ?zzhv ?zzz ?_ ?zzhs ?zzht; (case zzN => k_asm); (case zzhm => k_mem); (case zzhv => assumption); (case zzz => omega); (case zzhs => with_unfolding_all rfl); (case zzht => kmk_pure)))
  k_with "m:subscriptTail" => (k_here; (with_reducible show wpAny _ _ (subscriptTail _ _ (Value.ref _) (Value.int 0 _)) _ _ _); k_dflt (refine' tup_0 ?zzN ?zzhm ?zzz ?_ ?zzhs ?zzht; (case zzN => k_asm); (case zzhm => k_mem); (case zzz => assumption); (case zzhs => with_unfolding_all rfl); (case zzht => kmk_pure)))
  k_with "m:compareOp Eq str str" => (k_here; (with_reducible show wpAny _ _ (compareOp _ (Value.str (opW _) _) _) _ _ _); k_dflt (refine' cmp_opW ?zzh ?_; (case zzh => first | exact opW_jump _ | exact opW_unless _)))
  intro dp un gd env outer A₀ base h₀ L m mean mg mb s Q B F X T N hf hk hd hu hret
  refine' enter_G (binds := [(Str.ofString "octets", .bytes o.toArray t), (Str.ofString "params", .ref p), (Str.ofString "statics", .none)]) ?B ?F ?X ?T ?N ?f ?k ?room ?ho ?hcd ?hbind ?hloc ?_ ?c2 ?c3 ?c4 ?c5
  (case B => exact B); (case F => exact F); (case X => exact X); (case T => exact T); (case N => exact N); (case f => exact hf); (case k => exact hk)
  (case room => walk_at "lim")
  (case ho => k_is); (case hcd => k_is); (case hbind => (intro XS; exact binds_K XS rfl (by k_is) rfl rfl rfl)); (case hloc => exact locs rfl)
  (case c2 => exact rfl); (case c3 => exact rfl); (case c4 => exact rfl); (case c5 => decide)
  k_whole
  clear B F X T N hf hk
  intro g' L' h' F' N' B' X' T' hsub hlt hsz
  (try dsimp only)
  (try k_fold)
  k_steps
  (rename Fr _ _ _ _ => F0; rename News _ _ _ _ => N0)
  with_reducible refine' cG_cut (RunAt w rvs' n' (W' ++ [(p, listOf #[.int n tn] e)]) ops S g' L' s) (run_at (u := ?u0) F0 N0 tr ?hp ?hm ?hA) ?rest
  (case hm =>
    intro y
    dsimp only [rnM]
    by_cases h2 : y = Str.ofString "row"
    · subst h2; exact rfl
    · by_cases h3 : y = Str.ofString "at"
      · subst h3; exact rfl
      · rw [if_neg h2, if_neg h3, if_neg h3]; exact rfl)
  (case hp => exact .cons _ _ (.cons _ _ (.cons _ _ (.cons _ _ (.cons _ _ (.cons _ _ (.cons _ _ (.cons _ _ (.cons _ _ .nil)))))))))
  (case hA =>
    refine ⟨?_, ?_, ?_, ?_, ?_, ?_, ?_, ?_, ?_, ?_, ?_, ?_, ?_, ?_, ?_, ?_, ?_, ?_, ?aW⟩
    (case aW =>
      refine an_app ?_ ⟨by k_ne, by k_ne, by k_ne⟩
      intro p hp
      refine' ⟨an_ne an' hp ?m1, an_ne an' hp ?m2, an_ne an' hp ?m3⟩
      (case m1 => k_mem)
      (case m2 => k_mem)
      (case m3 => k_mem))
    all_goals k_ne)
  clear F0 N0 an' tr
  rintro s1 ⟨x, dx, pl, ow, sd, sk, dk, vl, fb, rl, k1, k2, k3, k4, k5, k6, ⟨a1, a2, a3, a4, a5, a6, b1, b2, b3, b4, b5, b6, c1, c2, c3, c4, c5, c6, aW⟩, I0⟩
  refine' cG_whileI _ _ I0 ?_
  rintro n₁ s₁ ⟨i, S1, h₁, tk, ps, vals, e1, e2, u, rowv, rfl, hi, tr, hR, rfl, F1, N1⟩
  have hlen : rvs'.length = ops.length := AO'.len
  by_cases hlt : i < ops.length
  · have hlt2 : (i : Int) < rvs'.length := by omega
    rw [List.drop_eq_getElem_cons hlt] at tr
    cases tr with | @cons _ _ _ S2 _ st tr2 =>
    have hv0 : rvs'[i]? = some (rvs'[i]'(by omega)) := List.getElem?_eq_getElem (by omega)
    obtain ⟨a, op, rv, e0, hmW, hrow, e3⟩ := AO'.get hv0
    rw [e0] at hv0
    obtain rfl : ops[i] = op := by rw [List.getElem?_eq_getElem hlt] at e3; exact Option.some.inj e3
    obtain ⟨t0, r0, rfl, hr0⟩ := hrow.word
    have N3 : News g' L' h₁ ((a, tupOf (.str (opW ops[i]) t0 :: r0)) :: (rnL w x dx pl ow sd sk dk vl fb k1 k2 k3 k4 k5 k6 ps.toArray e1 vals.toArray e2 S1.fs ++ (rl, listOf rvs'.toArray n') :: (W' ++ [(p, listOf #[.int n tn] e)]))) := fun p hp => by
      rcases List.mem_cons.mp hp with rfl | hp
      · exact N1 _ (List.mem_append_right _ (.tail _ (List.mem_append_left _ hmW)))
      · exact N1 p hp
    obtain ⟨ap1, ap2, ap3⟩ := aW _ (.tail _ (List.mem_append_left _ hmW))
    clear N1 e0 e3
    k_steps
    (rename Fr _ _ _ _ => F5; rename News _ _ _ _ => N5)
    refine' DoesG.useM (do_any w x dx pl ow sd sk dk vl fb a k1 k2 k3 k4 k5 k6 e1 e2 st hrow hR ⟨a1, a2, a3, a4, a5, a6, ap1, trivial⟩ ⟨b1, b2, b3, b4, b5, b6, ap2, trivial⟩ ⟨c1, c2, c3, c4, c5, c6, ap3, trivial⟩) ?B F5 ?X ?T N5 ?hs ?hm rfl rfl ?hd ?hu ?_
    (case B => k_asm)
    (case X => k_asm)
    (case T => k_asm)
    (case hs =>
      intro q hq
      rcases List.mem_cons.mp hq with rfl | hq
      · exact .head _
      · exact .tail _ (List.mem_append_left _ hq))
    (case hm =>
      intro b hb
      simp only [List.mem_cons, List.not_mem_nil, or_false] at hb
      rcases hb with rfl | rfl | rfl
      · exact ⟨_, by k_mem⟩
      · exact ⟨_, by k_mem⟩
      · exact ⟨_, by k_mem⟩)
    (case hd => walk_at "lim")
    (case hu => walk_at "lim")
    k_whole
    intro v' h' k' F' x' lt' P'
    obtain ⟨ps', vals', e1', e2', rfl, hR', g1', g2', g3'⟩ := P'
    have N6 := rn_next N5 x' g1' g2' g3' ⟨a1, a2, a3, a4, a5, a6, ap1, trivial⟩ ⟨b1, b2, b3, b4, b5, b6, ap2, trivial⟩ ⟨c1, c2, c3, c4, c5, c6, ap3, trivial⟩ aW
    clear N5 F5 x' lt' g1' g2' g3'
    k_steps
    (rename Fr _ _ _ _ => F7; rename News _ _ _ _ => N7)
    exact ⟨ops.length - (i + 1), by omega, i + 1, S2, _, _, ps', vals', e1', e2', _, _, rfl, hlt, tr2, hR', rfl, frCongr F7 (fun y => by
      dsimp only [rnM]
      by_cases h2 : y = Str.ofString "row"
      · subst h2; exact rfl
      · by_cases h3 : y = Str.ofString "at"
        · subst h3; exact rfl
        · rw [if_neg h2, if_neg h3]
          first | exact rfl | (simp only [h2, h3, if_false])), N7⟩
  · have hlt2 : ¬ (i : Int) < rvs'.length := by omega
    rw [List.drop_eq_nil_of_le (by omega)] at tr
    cases tr
    k_steps
    exact hret _ _ _ (kE [] fun q hq => .inr (List.mem_append_right _ (.tail _ (List.mem_append_right _ hq)))) ⟨_, rfl⟩
theorem does_expandA (w : World) (c : UInt8) (n : Int) (tn t : Tok) (p : Addr) (e : Nat) (hc : ((c.toNat : Nat) : Int) ≠ 37) (h0 : 0 ≤ n) (h1 : n < 99) :
    DoesG w 328 80 300 [.bytes [27, 91, 37, 112, 49, 37, 100, c].toArray t, .ref p] [(p, listOf #[.int n tn] e)] [] (fun _ v _ => IsB v ([27, 91] ++ figs n ++ [c])) := by
  have hl := figs_len n
  exact does_expand w _ _ n ⟨n, 0, [], [27, 91] ++ figs n ++ [c]⟩ tn t p e (prog_A w c hc)
    (.cons (S' := ⟨n, 0, [], [27, 91]⟩) (.text [27, 91] (by decide)) (.cons (S' := ⟨n, 0, [n], [27, 91]⟩) (.param h0 (by omega)) (.cons (S' := ⟨n, 0, [], [27, 91] ++ figs n⟩) (.write h0 (by omega) (by decide)) (.cons (.text [c] (by simp; omega)) .nil)))) (by simp) (by simp; omega)
theorem does_expandB (w : World) (n : Int) (tn t : Tok) (p : Addr) (e : Nat) (h0 : 0 ≤ n) (h1 : n < 98) :
    DoesG w 328 80 300 [.bytes [27, 91, 37, 105, 37, 112, 49, 37, 100, 71].toArray t, .ref p] [(p, listOf #[.int n tn] e)] [] (fun _ v _ => IsB v ([27, 91] ++ figs (n + 1) ++ [71])) := by
  have hl := figs_len (n + 1)
  exact does_expand w _ _ n ⟨n + 1, 1, [], [27, 91] ++ figs (n + 1) ++ [71]⟩ tn t p e (prog_B w)
    (.cons (S' := ⟨n, 0, [], [27, 91]⟩) (.text [27, 91] (by decide)) (.cons (S' := ⟨n + 1, 1, [], [27, 91]⟩) (.more h0 (by omega)) (.cons (S' := ⟨n + 1, 1, [n + 1], [27, 91]⟩) (.param (by omega) (by omega)) (.cons (S' := ⟨n + 1, 1, [], [27, 91] ++ figs (n + 1)⟩) (.write (by omega) (by omega) (by decide)) (.cons (.text [71] (by simp; omega)) .nil))))) (by simp) (by simp; omega)

/-! PQX3 -/

theorem does_delay_at (w : World) (o : List UInt8) (i : Int) (t u : Tok) (h0 : 0 ≤ i) (h1 : i < o.length) (hz : o.length < 100000) (hn : cutB o (some i) (some (i + 2)) ≠ [36, 60]) : Does w 335 20 100 [.bytes o.toArray t, .int i u] [] [] (fun _ v _ => v = .none) := by
  have hB : ((cutB o (some i) (some (i + 2))).toArray.toList != (#[36, 60] : Array UInt8).toList) = true := by simpa using hn
  intro dp un gd env outer A₀ base h₀ L m mean mg mb s Q E B F X T N hf hk hd hu hret
  refine' enter_def (binds := [(Str.ofString "octets", .bytes o.toArray t), (Str.ofString "at", .int i u)]) ?B ?F ?X ?T ?N ?f ?k ?room ?ho ?hcd ?hbind ?hloc ?_ ?c2 ?c3 ?c4 ?c5
  (case B => exact B); (case F => exact F); (case X => exact X); (case T => exact T); (case N => exact N); (case f => exact hf); (case k => exact hk)
  (case room => walk_at "lim")
  (case ho => k_is); (case hcd => k_is); (case hbind => (intro _; exact BindsTo.of_eq rfl)); (case hloc => exact locs rfl)
  (case c2 => exact rfl); (case c3 => exact rfl); (case c4 => exact rfl); (case c5 => decide)
  k_whole
  clear B F X T N hf hk
  intro g' L' h' F' N' B' X' T' hsub hlt hsz
  (try dsimp only)
  (try k_fold)
  k_steps
  exact hret _ _ _ (kE [] (by intro p hp; cases hp)) rfl

/-! PQX4 -/



theorem regXmac10 : True := by
  k_with "noinline" => ((with_reducible show wG _ _ (call (Value.ref 335) _) _ _))
  k_with "wG" => (((with_reducible show wG _ _ (call (Value.ref 335) _) _ _); k_dflt (
  refine' DoesG.useM (Does.toG (does_delay_at _ _ _ _ _ ?zzh0 ?zzh1 ?zzhz ?zzhn)) ?zzB ?zzF ?zzX ?zzT ?zzN ?zzhs ?zzhm ?zzf ?zzk ?zzhd ?zzhu ?_; (walk_at "end use0"); (case zzh0 => omega); (case zzh1 => omega); (case zzhz => omega); (case zzhn => assumption); k_whole; intro v' h' k' F' x' lt' P'; subst P'; refine' led0 ?zzN x' ?_; (case zzN => k_asm); intro N'; clear x' lt'; (try k_sweep))))
  trivial

abbrev dlM (o : List UInt8) (t : Tok) (fb dl : Addr) (i : Int) (u : Tok) (dv : Option Value) : Str → Option Value := fun y =>
  if y = Str.ofString "at" then some (.int i u) else if y = Str.ofString "delay" then dv else if y = Str.ofString "delays" then some (.ref dl) else if y = Str.ofString "found" then some (.ref fb) else if y = Str.ofString "octets" then some (.bytes o.toArray t) else none
inductive DlI (o : List UInt8) (t : Tok) (fb dl : Addr) (g : Heap) (L : Addr) (s : Shared) (n : Nat) (s₁ : Shared) : Prop
  | intro (i : Nat) (u : Tok) (h₁ : Heap) (tk : Nat) (dv : Option Value) : n = o.length - i → i ≤ o.length → s₁ = ⟨h₁, s.gens, s.drawn, tk, s.os⟩ → Fr g L h₁ (dlM o t fb dl i u dv) → News g L h₁ [(dl, listOf #[] 0), (fb, baOf (o.take i))] → DlI o t fb dl g L s n s₁
theorem dlI_of {o : List UInt8} {t : Tok} {fb dl : Addr} {g : Heap} {L : Addr} {s : Shared} {h₁ : Heap} {tk : Nat} {m : Str → Option Value} {u : Tok} {dv : Option Value} {j : Int} {b : List UInt8} (i : Nat) (hi : i ≤ o.length) (F : Fr g L h₁ m) (hj : j = i) (ha : m (Str.ofString "at") = some (.int j u)) (hd : m (Str.ofString "delay") = dv)
    (hm : ∀ y, y ≠ Str.ofString "at" → y ≠ Str.ofString "delay" → m y = dlM o t fb dl i u dv y) (N : News g L h₁ [(dl, listOf #[] 0), (fb, baOf b)]) (hb : b = o.take i) : DlI o t fb dl g L s (o.length - i) ⟨h₁, s.gens, s.drawn, tk, s.os⟩ := by
  subst hj hb
  refine ⟨i, u, h₁, tk, dv, rfl, hi, rfl, frCongr F fun y => ?_, N⟩
  by_cases h1 : y = Str.ofString "at"
  · subst h1; rw [ha]; simp [dlM]
  · by_cases h2 : y = Str.ofString "delay"
    · subst h2; rw [hd]; simp only [dlM]; rw [if_neg (show ¬ (Str.ofString "delay" = Str.ofString "at") by decide)]; rfl
    · exact hm y h1 h2
def Hold (p : Prop) : Prop := p
theorem hold {p : Prop} (h : Hold p) : p := h
theorem does_delays (w : World) (o : List UInt8) (t : Tok) (hz : o.length < 1000) (hn : ∀ i : Nat, i < o.length → cutB o (some (i : Int)) (some ((i : Int) + 2)) ≠ [36, 60]) :
    DoesG w 342 40 150 [.bytes o.toArray t] [] [] (fun h v h' => ∃ a dl t', v = .ref a ∧ New h a (tupOf [.bytes o.toArray t', .ref dl]) h') := by
  intro dp un gd env outer A₀ base h₀ L m mean mg mb s Q B F X T N hf hk hd hu hret
  refine' enter_G (binds := [(Str.ofString "octets", .bytes o.toArray t)]) ?B ?F ?X ?T ?N ?f ?k ?room ?ho ?hcd ?hbind ?hloc ?_ ?c2 ?c3 ?c4 ?c5
  (case B => exact B); (case F => exact F); (case X => exact X); (case T => exact T); (case N => exact N); (case f => exact hf); (case k => exact hk)
  (case room => walk_at "lim")
  (case ho => k_is); (case hcd => k_is); (case hbind => (intro _; exact BindsTo.of_eq rfl)); (case hloc => exact locs rfl)
  (case c2 => exact rfl); (case c3 => exact rfl); (case c4 => exact rfl); (case c5 => decide)
  k_whole
  clear B F X T N hf hk
  intro g' L' h' F' N' B' X' T' hsub hlt hsz
  (try dsimp only)
  (try k_fold)
  k_with "nowhile" => (with_reducible show cG _ _ (Code.whileLoop _ _ _ (envOf (Str.ofString "delays_of") _ _ _ _)) _ _)
  k_steps
  rename_i dl xx0 xx1 lt0 xx2 xx3 F0 N0
  refine' cG_whileI (DlI o t a' dl g' L' s) o.length (dlI_of 0 (Nat.zero_le _) F0 rfl rfl rfl ?_ N0 rfl) ?_
  · intro y h1 h2
    simp only [dlM, h1, h2, if_false, List.lookup, List.reverse_cons, List.reverse_nil, List.nil_append]
    by_cases h3 : y = Str.ofString "octets"
    · subst h3; simp
    · have : (y == Str.ofString "octets") = false := by simpa using h3
      simp [this, h3]
  · rintro n s₁ ⟨i, u, h₁, tk, dv, rfl, hi, rfl, F1, N1⟩
    clear F0 N0
    by_cases hlt : i < o.length
    · have hcut := hn i hlt
      have hlt2 : (i : Int) < o.length := by omega
      have hi2 : (0 : Int) ≤ i := by omega
      k_steps
      refine' ⟨o.length - (i + 1), by omega, dlI_of (i + 1) (by omega) ?F ?hj ?ha ?hd ?hm ?N ?hb⟩
      (case F => k_asm)
      (case ha => exact rfl)
      (case hd => exact rfl)
      (case N => k_asm)
      (case hj => omega)
      (case hm => (intro y h1 h2; simp only [dlM, h1, h2, if_false]))
      (case hb => (rw [List.take_add_one]; congr 1; simp [List.getD, hlt]))
    · have hlt2 : ¬ (i : Int) < o.length := by omega
      rw [List.take_of_length_le (by omega)] at N1
      k_steps
      refine' hret _ _ _ (kE [] (by intro p hp; cases hp)) ⟨_, _, _, rfl, ?n1⟩
      (case n1 => walk_at "end new")
theorem does_without (w : World) (o : List UInt8) (t : Tok) (hz : o.length < 1000) (hn : ∀ i : Nat, i < o.length → cutB o (some (i : Int)) (some ((i : Int) + 2)) ≠ [36, 60]) :
    DoesG w 349 60 200 [.bytes o.toArray t] [] [] (fun _ v _ => IsB v o) := by
  k_with "noinline" => (with_reducible show wG _ _ (call (Value.ref 342) _) _ _)
  k_with "wG" => ((with_reducible show wG _ _ (call (Value.ref 342) _) _ _); k_dflt (refine' DoesG.useM (does_delays _ _ _ ?zzhz ?zzhn) ?zzB ?zzF ?zzX ?zzT ?zzN ?zzhs ?zzhm ?zzf ?zzk ?zzhd ?zzhu ?_; (walk_at "end use0"); (case zzhz => assumption); (case zzhn => assumption); k_whole; intro v' h' k' F' x' lt' P'; obtain ⟨a', dl', t', rfl, n'⟩ := P'; refine' led0 ?zzN x' ?_; (case zzN => k_asm); intro N1'; refine' ledN n' ?zzF ?zzN0 N1' ?_; (case zzF => k_asm); (case zzN0 => k_asm); intro l0 N2'; clear N1' x' lt' n'; (try k_sweep)))
  intro dp un gd env outer A₀ base h₀ L m mean mg mb s Q B F X T N hf hk hd hu hret
  refine' enter_G (binds := [(Str.ofString "octets", .bytes o.toArray t)]) ?B ?F ?X ?T ?N ?f ?k ?room ?ho ?hcd ?hbind ?hloc ?_ ?c2 ?c3 ?c4 ?c5
  (case B => exact B); (case F => exact F); (case X => exact X); (case T => exact T); (case N => exact N); (case f => exact hf); (case k => exact hk)
  (case room => walk_at "lim")
  (case ho => k_is); (case hcd => k_is); (case hbind => (intro _; exact BindsTo.of_eq rfl)); (case hloc => exact locs rfl)
  (case c2 => exact rfl); (case c3 => exact rfl); (case c4 => exact rfl); (case c5 => decide)
  k_whole
  clear B F X T N hf hk
  intro g' L' h' F' N' B' X' T' hsub hlt hsz
  (try dsimp only)
  (try k_fold)
  k_steps
  exact hret _ _ _ (kE [] (by intro p hp; cases hp)) ⟨_, rfl⟩

/-! PQX5 -/
theorem no_dollar {o : List UInt8} (h : (36 : UInt8) ∉ o) (i : Nat) (_ : i < o.length) : cutB o (some (i : Int)) (some ((i : Int) + 2)) ≠ [36, 60] := by
  intro e
  apply h
  have : (36 : UInt8) ∈ cutB o (some (i : Int)) (some ((i : Int) + 2)) := by rw [e]; simp
  exact List.mem_of_mem_drop (List.mem_of_mem_take this)
theorem dig_ne (k : Int) : dig k ≠ 36 := by
  unfold dig
  rw [List.getD_eq_getElem?_getD]
  rcases Nat.lt_or_ge k.toNat 16 with h | h
  · have : ∀ j : Nat, j < 16 → ([48, 49, 50, 51, 52, 53, 54, 55, 56, 57, 97, 98, 99, 100, 101, 102] : List UInt8)[j]?.getD 0 ≠ 36 := by decide
    exact this _ h
  · rw [List.getElem?_eq_none (by simpa using h)]; decide
theorem figs_ne (n : Int) : (36 : UInt8) ∉ figs n := by
  unfold figs
  split <;> simp [Ne.symm (dig_ne _)]



theorem regXmac12 : True := by
  k_with "noinline" => ((with_reducible show wG _ _ (call (Value.ref 349) _) _ _))
  k_with "noinline" => ((with_reducible show wG _ _ (call (Value.ref 328) _) _ _))
  k_with "wG" => (((with_reducible show wG _ _ (call (Value.ref 349) _) _ _); k_dflt (
  refine' DoesG.useM (does_without _ _ _ ?zzhz ?zzhn) ?zzB ?zzF ?zzX ?zzT ?zzN ?zzhs ?zzhm ?zzf ?zzk ?zzhd ?zzhu ?_; (walk_at "end use0"); (case zzhz => first | assumption | (simp only [List.length_append, List.length_cons, List.length_nil]; omega)); (case zzhn => assumption); k_whole; intro v' h' k' F' x' lt' P'; (((first | refine Exists.elim P' ?_ | refine And.elim ?_ P'); clear P'; intro t' P'); subst P'); refine' led0 ?zzN x' ?_; (case zzN => k_asm); intro N'; clear x' lt'; (try k_sweep))))
  k_with "wG" => (((with_reducible show wG _ _ (call (Value.ref 328) _) _ _); k_dflt (
  refine' DoesG.useM (does_expandA _ _ _ _ _ _ _ ?zzhc ?zzh0 ?zzh1) ?zzB ?zzF ?zzX ?zzT ?zzN ?zzhs ?zzhm ?zzf ?zzk ?zzhd ?zzhu ?_; (case zzB => k_asm); (case zzF => k_asm); (case zzX => k_asm); (case zzT => k_asm); (case zzN => k_asm); (case zzhs => (intro p hp; rw [List.mem_singleton.mp hp]; k_mem)); (case zzhm => (intro a ha; cases ha)); (case zzf => exact rfl); (case zzk => exact rfl); (case zzhd => walk_at "lim"); (case zzhu => walk_at "lim"); (case zzhc => assumption); (case zzh0 => omega); (case zzh1 => omega); k_whole; intro v' h' k' F' x' lt' P'; (((first | refine Exists.elim P' ?_ | refine And.elim ?_ P'); clear P'; intro t' P'); subst P'); refine' led0 ?zzN x' ?_; (case zzN => k_asm); intro N'; clear x' lt'; (try k_sweep))))
  k_with "wG" => (((with_reducible show wG _ _ (call (Value.ref 328) _) _ _); k_dflt (
  refine' DoesG.useM (does_expandB _ _ _ _ _ _ ?zzh0 ?zzh1) ?zzB ?zzF ?zzX ?zzT ?zzN ?zzhs ?zzhm ?zzf ?zzk ?zzhd ?zzhu ?_; (case zzB => k_asm); (case zzF => k_asm); (case zzX => k_asm); (case zzT => k_asm); (case zzN => k_asm); (case zzhs => (intro p hp; rw [List.mem_singleton.mp hp]; k_mem)); (case zzhm => (intro a ha; cases ha)); (case zzf => exact rfl); (case zzk => exact rfl); (case zzhd => walk_at "lim"); (case zzhu => walk_at "lim"); (case zzh0 => omega); (case zzh1 => omega); k_whole; intro v' h' k' F' x' lt' P'; (((first | refine Exists.elim P' ?_ | refine And.elim ?_ P'); clear P'; intro t' P'); subst P'); refine' led0 ?zzN x' ?_; (case zzN => k_asm); intro N'; clear x' lt'; (try k_sweep))))
  trivial

theorem does_fill0 (w : World) (o : List UInt8) (t : Tok) (p : Addr) (e : Nat) (hz : o.length < 1000) (hn : (36 : UInt8) ∉ o) : DoesG w 416 100 300 [.bytes o.toArray t, .ref p] [(p, listOf #[] e)] [] (fun _ v _ => IsB v o) := by
  have hn2 := @no_dollar o hn
  intro dp un gd env outer A₀ base h₀ L m mean mg mb s Q B F X T N hf hk hd hu hret
  refine' enter_G (binds := [(Str.ofString "octets", .bytes o.toArray t), (Str.ofString "params", .ref p)]) ?B ?F ?X ?T ?N ?f ?k ?room ?ho ?hcd ?hbind ?hloc ?_ ?c2 ?c3 ?c4 ?c5
  (case B => exact B); (case F => exact F); (case X => exact X); (case T => exact T); (case N => exact N); (case f => exact hf); (case k => exact hk)
  (case room => walk_at "lim")
  (case ho => k_is); (case hcd => k_is); (case hbind => (intro _; exact BindsTo.of_eq rfl)); (case hloc => exact locs rfl)
  (case c2 => exact rfl); (case c3 => exact rfl); (case c4 => exact rfl); (case c5 => decide)
  k_whole
  clear B F X T N hf hk
  intro g' L' h' F' N' B' X' T' hsub hlt hsz
  (try dsimp only)
  (try k_fold)
  k_steps
  exact hret _ _ _ (kE [] (by walk_at "end mods")) ⟨_, rfl⟩
theorem does_fillN (w : World) (p : Addr) (o : Obj) : DoesG w 416 100 300 [.none, .ref p] [(p, o)] [] (fun _ v _ => v = .none) := by
  intro dp un gd env outer A₀ base h₀ L m mean mg mb s Q B F X T N hf hk hd hu hret
  refine' enter_G (binds := [(Str.ofString "octets", .none), (Str.ofString "params", .ref p)]) ?B ?F ?X ?T ?N ?f ?k ?room ?ho ?hcd ?hbind ?hloc ?_ ?c2 ?c3 ?c4 ?c5
  (case B => exact B); (case F => exact F); (case X => exact X); (case T => exact T); (case N => exact N); (case f => exact hf); (case k => exact hk)
  (case room => walk_at "lim")
  (case ho => k_is); (case hcd => k_is); (case hbind => (intro _; exact BindsTo.of_eq rfl)); (case hloc => exact locs rfl)
  (case c2 => exact rfl); (case c3 => exact rfl); (case c4 => exact rfl); (case c5 => decide)
  k_whole
  clear B F X T N hf hk
  intro g' L' h' F' N' B' X' T' hsub hlt hsz
  (try dsimp only)
  (try k_fold)
  k_steps
  exact hret _ _ _ (kE [] (by walk_at "end mods")) rfl
theorem does_fillA (w : World) (c : UInt8) (n : Int) (tn t : Tok) (p : Addr) (e : Nat) (hc : ((c.toNat : Nat) : Int) ≠ 37) (hc2 : c ≠ 36) (h0 : 0 ≤ n) (h1 : n < 99) :
    DoesG w 416 200 600 [.bytes [27, 91, 37, 112, 49, 37, 100, c].toArray t, .ref p] [(p, listOf #[.int n tn] e)] [] (fun _ v _ => IsB v ([27, 91] ++ figs n ++ [c])) := by
  have hl := figs_len n
  have hz : ([27, 91] ++ figs n ++ [c]).length < 1000 := by simp; omega
  have hn2 := @no_dollar ([27, 91] ++ figs n ++ [c]) (by simp [figs_ne, Ne.symm hc2])
  intro dp un gd env outer A₀ base h₀ L m mean mg mb s Q B F X T N hf hk hd hu hret
  refine' enter_G (binds := [(Str.ofString "octets", .bytes [27, 91, 37, 112, 49, 37, 100, c].toArray t), (Str.ofString "params", .ref p)]) ?B ?F ?X ?T ?N ?f ?k ?room ?ho ?hcd ?hbind ?hloc ?_ ?c2 ?c3 ?c4 ?c5
  (case B => exact B); (case F => exact F); (case X => exact X); (case T => exact T); (case N => exact N); (case f => exact hf); (case k => exact hk)
  (case room => walk_at "lim")
  (case ho => k_is); (case hcd => k_is); (case hbind => (intro _; exact BindsTo.of_eq rfl)); (case hloc => exact locs rfl)
  (case c2 => exact rfl); (case c3 => exact rfl); (case c4 => exact rfl); (case c5 => decide)
  k_whole
  clear B F X T N hf hk
  intro g' L' h' F' N' B' X' T' hsub hlt hsz
  (try dsimp only)
  (try k_fold)
  k_steps
  exact hret _ _ _ (kE [] (by walk_at "end mods")) ⟨_, rfl⟩
theorem does_fillB (w : World) (n : Int) (tn t : Tok) (p : Addr) (e : Nat) (h0 : 0 ≤ n) (h1 : n < 98) :
    DoesG w 416 200 600 [.bytes [27, 91, 37, 105, 37, 112, 49, 37, 100, 71].toArray t, .ref p] [(p, listOf #[.int n tn] e)] [] (fun _ v _ => IsB v ([27, 91] ++ figs (n + 1) ++ [71])) := by
  have hl := figs_len (n + 1)
  have hz : ([27, 91] ++ figs (n + 1) ++ [71]).length < 1000 := by simp; omega
  have hn2 := @no_dollar ([27, 91] ++ figs (n + 1) ++ [71]) (by simp [figs_ne])
  intro dp un gd env outer A₀ base h₀ L m mean mg mb s Q B F X T N hf hk hd hu hret
  refine' enter_G (binds := [(Str.ofString "octets", .bytes [27, 91, 37, 105, 37, 112, 49, 37, 100, 71].toArray t), (Str.ofString "params", .ref p)]) ?B ?F ?X ?T ?N ?f ?k ?room ?ho ?hcd ?hbind ?hloc ?_ ?c2 ?c3 ?c4 ?c5
  (case B => exact B); (case F => exact F); (case X => exact X); (case T => exact T); (case N => exact N); (case f => exact hf); (case k => exact hk)
  (case room => walk_at "lim")
  (case ho => k_is); (case hcd => k_is); (case hbind => (intro _; exact BindsTo.of_eq rfl)); (case hloc => exact locs rfl)
  (case c2 => exact rfl); (case c3 => exact rfl); (case c4 => exact rfl); (case c5 => decide)
  k_whole
  clear B F X T N hf hk
  intro g' L' h' F' N' B' X' T' hsub hlt hsz
  (try dsimp only)
  (try k_fold)
  k_steps
  exact hret _ _ _ (kE [] (by walk_at "end mods")) ⟨_, rfl⟩

/-! PQC1 -/
/-! what a terminal's strings tell -/
abbrev Strs := List UInt8 → Option (List UInt8)
def oV (o : Option (List UInt8)) (t : Tok) : Value := match o with
  | none => .none
  | some b => .bytes b.toArray t
abbrev sEch : List UInt8 := [101, 99, 104]
abbrev sEl : List UInt8 := [101, 108]
abbrev sEl1 : List UInt8 := [101, 108, 49]
abbrev sCr : List UInt8 := [99, 114]
abbrev sCub1 : List UInt8 := [99, 117, 98, 49]
abbrev sCuf1 : List UInt8 := [99, 117, 102, 49]
abbrev sHpa : List UInt8 := [104, 112, 97]
abbrev sCuf : List UInt8 := [99, 117, 102]
abbrev sCub : List UInt8 := [99, 117, 98]
abbrev oA (c : UInt8) : List UInt8 := [27, 91, 37, 112, 49, 37, 100, c]
abbrev oB : List UInt8 := [27, 91, 37, 105, 37, 112, 49, 37, 100, 71]
def madeL : List (List UInt8 × List UInt8) :=
  [(sEch, oA 88), (sEl, [27, 91, 75]), (sEl1, [27, 91, 49, 75]), (sCr, [13]), (sCub1, [8]), (sCuf1, [27, 91, 67]), (sHpa, oB), (sCuf, oA 67), (sCub, oA 68)]
def GoodS (l : Strs) : Prop := ∀ k o, l k = some o → (k, o) ∈ madeL
def fillF (o : List UInt8) (n : Int) : List UInt8 := if o = oB then [27, 91] ++ figs (n + 1) ++ [71] else [27, 91] ++ figs n ++ [o.getLastD 0]
def toldF (l : Strs) (k : List UInt8) (ns : List Int) : Option (List UInt8) := match l k, ns with
  | none, _ => none
  | some o, [] => some o
  | some o, n :: _ => some (fillF o n)
/-- the keys that are asked for -/
def plainW : List (List UInt8) := [sEl, sEl1, sCr, sCub1, sCuf1, [104, 116], [99, 98, 116]]
def paramW : List (List UInt8) := [sEch, sHpa, sCuf, sCub]
def askedK : List Key := (plainW.map fun k => (k, [])) ++ paramW.flatMap fun k => (List.range 98).map fun (n : Nat) => ((k, [(n : Int)]) : Key)
theorem len_le {α : Type} [DecidableEq α] : ∀ (l m : List α), l.Nodup → (∀ x ∈ l, x ∈ m) → l.length ≤ m.length
  | [], m, _, _ => Nat.zero_le _
  | a :: l, m, hn, hs => by
    have ha := hs a (.head _)
    have hn' := List.nodup_cons.mp hn
    have := len_le l (m.erase a) hn'.2 fun x hx => (List.mem_erase_of_ne (by rintro rfl; exact hn'.1 hx)).mpr (hs x (.tail _ hx))
    rw [List.length_erase_of_mem ha] at this
    have : 0 < m.length := List.length_pos_of_mem ha
    simp only [List.length_cons]; omega
theorem askedK_len : askedK.length = 399 := by decide +kernel

/-! the terminal's objects -/
abbrev rdE' (w : World) (k : String) (tk : Tok) (v : Value) : DictEntry := ⟨PyData.keyHash w.params (Str.ofString k), .str (Str.ofString k) tk, v⟩
abbrev capsD (w : World) (k1 k2 : Tok) (i kd : Addr) : Obj := dictOf [rdE' w "info" k1 (.ref i), rdE' w "kept" k2 (.ref kd)] 2
abbrev infoD (w : World) (k1 k2 k3 k4 k5 k6 : Tok) (na bo nu sd mo us : Addr) : Obj :=
  dictOf [rdE' w "names" k1 (.ref na), rdE' w "booleans" k2 (.ref bo), rdE' w "numbers" k3 (.ref nu), rdE' w "strings" k4 (.ref sd), rdE' w "more" k5 (.ref mo), rdE' w "uses" k6 (.ref us)] 6
def MapIs (f : List UInt8 → Option Value) (l : Strs) : Prop := ∀ k, ∃ t, f k = (l k).map fun o => .bytes o.toArray t
structure CapsAt (w : World) (h : Heap) (l : Strs) (c kd cd i id : Addr) (k1 k2 k3 k4 k5 k6 k7 k8 : Tok) (na bo nu sd mo us : Addr) : Prop where
  caps : h.get? c = some (instObj 405 cd)
  capsd : h.get? cd = some (capsD w k1 k2 i kd)
  info : h.get? i = some (instObj 520 id)
  infod : h.get? id = some (infoD w k3 k4 k5 k6 k7 k8 na bo nu sd mo us)
  texts : ∃ f, h.MapOf (bytesKind pw w) sd f ∧ MapIs f l
  more : h.MapOf (bytesKind pw w) mo fun _ => none
  nums : h.MapOf (bytesKind pw w) nu fun _ => none
  lo : (sd == sysModules) = false ∧ (mo == sysModules) = false ∧ (nu == sysModules) = false
inductive CapsIn (w : World) (h : Heap) (l : Strs) (c kd : Addr) : Prop
  | intro (cd : _) (i : _) (id : _) (k1 : _) (k2 : _) (k3 : _) (k4 : _) (k5 : _) (k6 : _) (k7 : _) (k8 : _) (na : _) (bo : _) (nu : _) (sd : _) (mo : _) (us : _) : CapsAt w h l c kd cd i id k1 k2 k3 k4 k5 k6 k7 k8 na bo nu sd mo us → CapsIn w h l c kd
theorem mapOf_keep {w : World} {h h' : Heap} {a : Addr} {f : List UInt8 → Option Value} (x : h.MapOf (bytesKind pw w) a f) (k : ∀ b o, h.get? b = some o → h'.get? b = some o) : h'.MapOf (bytesKind pw w) a f := by
  obtain ⟨o, es, ep, e, r⟩ := x
  exact ⟨o, es, ep, k _ _ e, r⟩
theorem CapsIn.keep {w : World} {h h' : Heap} {l : Strs} {c kd : Addr} (x : CapsIn w h l c kd) (k : ∀ b o, h.get? b = some o → h'.get? b = some o) : CapsIn w h' l c kd := by
  obtain ⟨cd, i, id, k1, k2, k3, k4, k5, k6, k7, k8, na, bo, nu, sd, mo, us, ⟨a1, a2, a3, a4, ⟨f, a5, a5'⟩, a6, a7, a8⟩⟩ := x
  exact ⟨cd, i, id, k1, k2, k3, k4, k5, k6, k7, k8, na, bo, nu, sd, mo, us, ⟨k _ _ a1, k _ _ a2, k _ _ a3, k _ _ a4, ⟨f, mapOf_keep a5 k, a5'⟩, mapOf_keep a6 k, mapOf_keep a7 k, a8⟩⟩

/-! the kept dict, as a part of the ledger -/
def KeyIn (w : World) (K : List (Addr × Obj)) (k : Key) (a : Addr) : Prop :=
  ∃ t p o, (a, tupOf [.bytes k.1.toArray t, .ref p]) ∈ K ∧ ((p, o) ∈ K ∨ (hd.heap_1 w.params).lookup p = some o) ∧ ∃ items n, o.cls = .type "tuple" ∧ o.data = .seq items n ∧ ItemsAre (intKind pw w) k.2 items.toList
def isKept (c : Value) : Bool := match c with | .type T => T == "dict" || T == "tuple" | _ => false
structure KeptAs (w : World) (l : Strs) (kd : Addr) (K : List (Addr × Obj)) (o : Obj) (es : Array DictEntry) (ep : Nat) (xs : List (Key × Addr × Value)) : Prop where
  mem : (kd, o) ∈ K
  exact_ : o.ExactDict
  data : o.data = .dict es ep
  ent : es.toList = xs.map (entryOfKey (keyKind w))
  nodup : (xs.map (·.1)).Nodup
  asked : ∀ x ∈ xs, x.1 ∈ askedK
  keys : ∀ x ∈ xs, KeyIn w K x.1 x.2.1
  vals : ∀ x ∈ xs, ∃ t, x.2.2 = oV (toldF l x.1.1 x.1.2) t
  cls : ∀ p ∈ K, isKept p.2.cls = true
  lo : (kd == sysModules) = false
def Kept (w : World) (l : Strs) (kd : Addr) (K : List (Addr × Obj)) : Prop := ∃ o es ep xs, KeptAs w l kd K o es ep xs
section
variable {w : World} {l : Strs} {kd : Addr} {K : List (Addr × Obj)} {o : Obj} {es : Array DictEntry} {ep : Nat} {xs : List (Key × Addr × Value)} {h : Heap}
theorem KeyIn.isKey {k : Key} {a : Addr} (x : KeyIn w K k a) (hK : ∀ p ∈ K, h.get? p.1 = some p.2) (X : (hd.heap_1 w.params).In h) : IsKey w h k a := by
  obtain ⟨t, p, o, hm, hp, items, n, hc, hd, hi⟩ := x
  refine ⟨t, p, hK _ hm, o, items, n, ?_, hc, hd, hi⟩
  rcases hp with hp | hp
  · exact hK _ hp
  · exact X _ _ hp
theorem KeptAs.dict (x : KeptAs w l kd K o es ep xs) (hK : ∀ p ∈ K, h.get? p.1 = some p.2) (X : (hd.heap_1 w.params).In h) : h.DictOfH (keyKind w) kd xs :=
  ⟨o, es, ep, hK _ x.mem, x.exact_, x.data, x.ent, fun y hy => (x.keys y hy).isKey hK X, x.nodup⟩
theorem KeptAs.len (x : KeptAs w l kd K o es ep xs) : xs.length ≤ 399 := by
  have := len_le (xs.map (·.1)) askedK x.nodup fun y hy => by obtain ⟨z, hz, rfl⟩ := List.mem_map.mp hy; exact x.asked z hz
  rw [askedK_len, List.length_map] at this
  exact this
theorem kept_val (x : KeptAs w l kd K o es ep xs) {k : Key} {p : Addr × Value} (e : atKey xs k = some p) : ∃ t, p.2 = oV (toldF l k.1 k.2) t := by
  unfold atKey at e
  obtain ⟨y, hy, rfl⟩ := Option.map_eq_some_iff.mp e
  have hk : y.1 = k := by have := List.find?_some hy; exact of_decide_eq_true this
  obtain ⟨t, ht⟩ := x.vals y (List.mem_of_find?_eq_some hy)
  exact ⟨t, by rw [← hk]; exact ht⟩
/-- an object of another class stands apart -/
theorem kept_off {a : Addr} {q : Obj} {h₀ : Heap} {L : Addr} {news : List (Addr × Obj)} (x : Kept w l kd K) (N : News h₀ L h news) (hm : (a, q) ∈ news) (hs : ∀ p ∈ K, p ∈ news) (hc : isKept q.cls = false) : ∀ p ∈ K, p.1 ≠ a := by
  obtain ⟨o, es, ep, xs, x⟩ := x
  rintro p hp rfl
  have e1 := (N _ (hs p hp)).1
  rw [(N _ hm).1] at e1
  have := x.cls p hp
  rw [← Option.some.inj e1, hc] at this
  cases this
end

/-! PQC2 -/
/-- the kept part, grown from another -/
def KC (w : World) (l : Strs) (kd : Addr) (K₀ K : List (Addr × Obj)) : Prop := Kept w l kd K ∧ ∀ p ∈ K₀, p.1 = kd ∨ p ∈ K
def KStep (objs : List (Addr × Obj)) (h : Heap) (K' : List (Addr × Obj)) (h' : Heap) : Prop := ∀ p ∈ K', h'.get? p.1 = some p.2 ∧ (p.1 ∈ objs.map (·.1) ∨ h.get? p.1 = none)
/-- as DoesG, of a def that a terminal is given to -/
def DoesC (w : World) (l : Strs) (c kd : Addr) (f : Addr) (d u : Nat) (vs : List Value) (pre : List (Addr × Obj)) (Post : Heap → Value → Heap → Prop) : Prop :=
  ∀ (K : List (Addr × Obj)) (dp un : Nat) (gd : Option (List Code)) (env : Env) (outer : List Env) (A₀ : Around) (base h₀ : Heap) (L : Addr) (m : Str → Option Value) (mean : ExcName → Option Value) (mg mb : Str → Option Value) (s : Shared) (Q : Value → Shared → Prop),
    Kept w l kd K → CapsIn w (hideAll s.heap ((pre ++ K).map (·.1))) l c kd →
    Below A₀ base outer h₀ → Fr h₀ L s.heap m → (hd.heap_1 w.params).In h₀ → TopM mean mg mb h₀ → News h₀ L s.heap (pre ++ K) → env.frame = some L → env.scope.kind = .function → dp + d < recursionLimit → un + u < cLine →
    (∀ v h' tk' K', Ext [kd] s.heap h' → KC w l kd K K' → KStep (pre ++ K) s.heap K' h' → Post s.heap v h' → Q v { s with heap := h', toks := tk' }) →
    wG w { handled := none, depth := dp, frames := some (env :: outer), guards := gd, units := un } (call (.ref f) vs) Q s
/-- the ledger's end is the kept part -/
inductive Spl (kd : Addr) (K : List (Addr × Obj)) : List (Addr × Obj) → (List (Addr × Obj) → List (Addr × Obj)) → Prop
  | nil : Spl kd K K (fun K' => K')
  | cons1 {p n f} : isKept p.2.cls = false → Spl kd K n f → Spl kd K (p :: n) (fun K' => p :: f K')
  | cons2 {p n f} : p.1 ≠ kd → Spl kd K n f → Spl kd K (p :: n) (fun K' => p :: f K')
  | cons4 {p n f} : p.2.cls = .type "tuple" → Spl kd K n f → Spl kd K (p :: n) (fun K' => p :: f K')
  | cons3 {a vs n f} : Spl kd K n f → Spl kd K ((a, tupOf vs) :: n) (fun K' => (a, tupOf vs) :: f K')
section
variable {w : World} {l : Strs} {kd c : Addr} {K K' : List (Addr × Obj)} {h h' h₀ : Heap} {L : Addr} {news : List (Addr × Obj)} {f : List (Addr × Obj) → List (Addr × Obj)} {m : Str → Option Value}
theorem Spl.sub (S : Spl kd K news f) : ∀ p ∈ K, p ∈ news := by
  induction S with
  | nil => exact fun p hp => hp
  | cons1 _ _ ih => exact fun p hp => .tail _ (ih p hp)
  | cons2 _ _ ih => exact fun p hp => .tail _ (ih p hp)
  | cons3 _ ih => exact fun p hp => .tail _ (ih p hp)
  | cons4 _ _ ih => exact fun p hp => .tail _ (ih p hp)
theorem Spl.led (S : Spl kd K news f) {o : Obj} (ho : o.cls = .type "dict") (hm : (kd, o) ∈ K) (x : Ext [kd] h h') (N' : News h₀ L h' K') (N : News h₀ L h news) : News h₀ L h' (f K') := by
  have key : ∀ {p : Addr × Obj} {n : List (Addr × Obj)}, News h₀ L h (p :: n) → p.1 ≠ kd → News h₀ L h' (f K') → News h₀ L h' (p :: f K') := fun N hne I q hq => by
    rcases List.mem_cons.mp hq with rfl | hq
    · exact ⟨x _ _ (N _ (.head _)).1 (by intro z; exact hne (List.mem_singleton.mp z)), (N _ (.head _)).2⟩
    · exact I q hq
  clear key
  induction S with
  | nil => exact N'
  | @cons1 p n f hc S ih =>
    intro q hq
    rcases List.mem_cons.mp hq with rfl | hq
    · refine ⟨x _ _ (N _ (.head _)).1 fun z => ?_, (N _ (.head _)).2⟩
      have e1 := (N _ (.head _)).1
      rw [List.mem_singleton.mp z, (N _ (.tail _ (S.sub _ hm))).1] at e1
      rw [← Option.some.inj e1, ho] at hc
      cases hc
    · exact ih (fun r hr => N r (.tail _ hr)) q hq
  | @cons2 p n f hc S ih =>
    intro q hq
    rcases List.mem_cons.mp hq with rfl | hq
    · exact ⟨x _ _ (N _ (.head _)).1 fun z => hc (List.mem_singleton.mp z), (N _ (.head _)).2⟩
    · exact ih (fun r hr => N r (.tail _ hr)) q hq
  | @cons3 a vs n f S ih =>
    intro q hq
    rcases List.mem_cons.mp hq with rfl | hq
    · refine ⟨x _ _ (N _ (.head _)).1 fun z => ?_, (N _ (.head _)).2⟩
      have e1 := (N _ (.head _)).1
      rw [List.mem_singleton.mp z, (N _ (.tail _ (S.sub _ hm))).1] at e1
      have := congrArg Obj.cls (Option.some.inj e1)
      rw [ho] at this
      exact absurd (show Value.type "dict" = Value.type "tuple" from this) (by decide)
    · exact ih (fun r hr => N r (.tail _ hr)) q hq
  | @cons4 p n f hc S ih =>
    intro q hq
    rcases List.mem_cons.mp hq with rfl | hq
    · refine ⟨x _ _ (N _ (.head _)).1 fun z => ?_, (N _ (.head _)).2⟩
      have e1 := (N _ (.head _)).1
      rw [List.mem_singleton.mp z, (N _ (.tail _ (S.sub _ hm))).1] at e1
      have := congrArg Obj.cls (Option.some.inj e1)
      rw [ho, hc] at this
      exact absurd (show Value.type "dict" = Value.type "tuple" from this) (by decide)
    · exact ih (fun r hr => N r (.tail _ hr)) q hq
theorem KC.refl (x : Kept w l kd K) : KC w l kd K K := ⟨x, fun p hp => .inr hp⟩
theorem KC.trans {K₀ : List (Addr × Obj)} (x : KC w l kd K₀ K) (y : KC w l kd K K') : KC w l kd K₀ K' := ⟨y.1, fun p hp => (x.2 p hp).elim .inl fun q => y.2 p q⟩
theorem kept_dict (x : Kept w l kd K) : ∃ o, (kd, o) ∈ K ∧ o.cls = .type "dict" := let ⟨o, _, _, _, x⟩ := x; ⟨o, x.mem, x.exact_.1⟩
theorem KStep.led {objs : List (Addr × Obj)} (x : KStep objs h K' h') (F : Fr h₀ L h m) (N : News h₀ L h objs) : News h₀ L h' K' := by
  intro p hp
  obtain ⟨e, z⟩ := x p hp
  refine ⟨e, ?_⟩
  rcases z with z | z
  · obtain ⟨q, hq, e2⟩ := List.mem_map.mp z
    rw [← e2]
    exact (N q hq).2
  · refine ⟨fun q => ?_, ?_⟩
    · obtain ⟨oL, _, _, hL, _⟩ := F.ns
      rw [q, hL] at z; cases z
    · cases q : h₀.get? p.1 with
      | none => rfl
      | some o' => rw [F.keep _ _ q] at z; cases z
theorem caps_hide {objs : List (Addr × Obj)} (x : CapsIn w h₀ l c kd) (F : Fr h₀ L h m) (N : News h₀ L h objs) : CapsIn w (hideAll h (objs.map (·.1))) l c kd :=
  x.keep fun b o e => hideAll_get _ (F.keep _ _ e) fun q => by
    obtain ⟨p, hp, rfl⟩ := List.mem_map.mp q
    rw [(N p hp).2.2] at e; cases e
theorem caps_in {objs : List (Addr × Obj)} (x : CapsIn w (hideAll h (objs.map (·.1))) l c kd) (hs : ∀ b o, h.get? b = some o → b ∉ objs.map (·.1) → h₀.get? b = some o) : CapsIn w h₀ l c kd :=
  x.keep fun b o e => hs b o (of_hideAll _ e) fun q => by rw [hideAll_none _ q] at e; cases e
theorem kstep {objs : List (Addr × Obj)} (hs : ∀ b o, h.get? b = some o → b ∉ objs.map (·.1) → h₀.get? b = some o) (N : News h₀ L h' news) (hK : ∀ p ∈ K', p ∈ news) : KStep objs h K' h' := fun p hp => by
  refine ⟨(N p (hK p hp)).1, ?_⟩
  by_cases q : p.1 ∈ objs.map (·.1)
  · exact .inl q
  · refine .inr ?_
    cases e : h.get? p.1 with
    | none => rfl
    | some o => have := hs _ _ e q; rw [(N p (hK p hp)).2.2] at this; cases this
end
section
variable {w : World} {l : Strs} {kd c f : Addr} {d u : Nat} {vs : List Value} {pre news : List (Addr × Obj)} {K₀ K : List (Addr × Obj)} {Post : Heap → Value → Heap → Prop} {dp un : Nat} {gd : Option (List Code)} {env : Env} {outer : List Env} {A₀ : Around} {base h₀ : Heap} {L : Addr} {m : Str → Option Value} {mean : ExcName → Option Value} {mg mb : Str → Option Value} {s : Shared} {Q : Value → Shared → Prop} {fk : List (Addr × Obj) → List (Addr × Obj)}
theorem DoesC.useH (C : DoesC w l c kd f d u vs pre Post) (hK : KC w l kd K₀ K) (CA : CapsIn w (hideAll s.heap ((pre ++ K).map (·.1))) l c kd) (B : Below A₀ base outer h₀) (F : Fr h₀ L s.heap m) (X : (hd.heap_1 w.params).In h₀) (T : TopM mean mg mb h₀) (N : News h₀ L s.heap news) (S : Spl kd K news fk) (hs : ∀ p ∈ pre, p ∈ news)
    (hf : env.frame = some L) (hk : env.scope.kind = .function) (hd : dp + d < recursionLimit) (hu : un + u < cLine)
    (h : ∀ v h' tk' K', Fr h₀ L h' m → KC w l kd K₀ K' → News h₀ L h' (fk K') → Ext [kd] s.heap h' → Post s.heap v h' → Q v ⟨h', s.gens, s.drawn, tk', s.os⟩) :
    wG w (atA dp un gd env outer) (call (.ref f) vs) Q s := by
  have NK : News h₀ L s.heap (pre ++ K) := fun p hp => by
    rcases List.mem_append.mp hp with hp | hp
    · exact N p (hs p hp)
    · exact N p (S.sub p hp)
  obtain ⟨o, hm, ho⟩ := kept_dict hK.1
  refine C K dp un gd env outer A₀ base h₀ L m mean mg mb s Q hK.1 CA B F X T NK hf hk hd hu fun v h' tk' K' x hK' st hp => ?_
  exact h v h' tk' K' (x.fr F fun a ha => by rw [List.mem_singleton.mp ha]; exact (N _ (S.sub _ hm)).2) (hK.trans hK') (S.led ho hm x (st.led F NK) N) x hp
theorem DoesC.use (C : DoesC w l c kd f d u vs pre Post) (hK : KC w l kd K₀ K) (CA : CapsIn w h₀ l c kd) (B : Below A₀ base outer h₀) (F : Fr h₀ L s.heap m) (X : (hd.heap_1 w.params).In h₀) (T : TopM mean mg mb h₀) (N : News h₀ L s.heap news) (S : Spl kd K news fk) (hs : ∀ p ∈ pre, p ∈ news)
    (hf : env.frame = some L) (hk : env.scope.kind = .function) (hd : dp + d < recursionLimit) (hu : un + u < cLine)
    (h : ∀ v h' tk' K', Fr h₀ L h' m → KC w l kd K₀ K' → News h₀ L h' (fk K') → Ext [kd] s.heap h' → Post s.heap v h' → Q v ⟨h', s.gens, s.drawn, tk', s.os⟩) :
    wG w (atA dp un gd env outer) (call (.ref f) vs) Q s :=
  C.useH hK (caps_hide CA F fun p hp => by
    rcases List.mem_append.mp hp with hp | hp
    · exact N p (hs p hp)
    · exact N p (S.sub p hp)) B F X T N S hs hf hk hd hu h
theorem endC {g h h' : Heap} {L' : Addr} {K' : List (Addr × Obj)} {P G : Prop}
    (hret : ∀ K', Ext [kd] h h' → KC w l kd K K' → KStep (pre ++ K) h K' h' → P → G)
    (kE : ∀ mods, (∀ p ∈ pre ++ K, p.1 ∈ mods ∨ p ∈ news) → Ext mods h h') (hK : KC w l kd K K') (hs : ∀ b o, h.get? b = some o → b ∉ (pre ++ K).map (·.1) → g.get? b = some o)
    (N : News g L' h' news) (hKs : ∀ p ∈ K', p ∈ news) (hp : ∀ p ∈ pre, p ∈ news) (post : P) : G :=
  hret K' (kE _ fun p hq => by
    rcases List.mem_append.mp hq with hq | hq
    · exact .inr (hp p hq)
    · rcases hK.2 p hq with z | z
      · exact .inl (by rw [z]; exact .head _)
      · exact .inr (hKs p z)) hK (kstep hs N hKs) post
end
/-- a def that a terminal is given to, and that leaves the kept part alone -/
def DoesH (w : World) (l : Strs) (c kd : Addr) (f : Addr) (d u : Nat) (vs : List Value) (Post : Heap → Value → Heap → Prop) : Prop :=
  ∀ (dp un : Nat) (gd : Option (List Code)) (env : Env) (outer : List Env) (A₀ : Around) (base h₀ : Heap) (L : Addr) (m : Str → Option Value) (mean : ExcName → Option Value) (mg mb : Str → Option Value) (s : Shared) (Q : Value → Shared → Prop),
    CapsIn w h₀ l c kd → Below A₀ base outer h₀ → Fr h₀ L s.heap m → (hd.heap_1 w.params).In h₀ → TopM mean mg mb h₀ → News h₀ L s.heap [] → env.frame = some L → env.scope.kind = .function → dp + d < recursionLimit → un + u < cLine →
    (∀ v h' tk', Ext [] s.heap h' → Post s.heap v h' → Q v { s with heap := h', toks := tk' }) →
    wG w { handled := none, depth := dp, frames := some (env :: outer), guards := gd, units := un } (call (.ref f) vs) Q s
section
variable {w : World} {l : Strs} {kd c f : Addr} {d u : Nat} {vs : List Value} {news : List (Addr × Obj)} {Post : Heap → Value → Heap → Prop} {dp un : Nat} {gd : Option (List Code)} {env : Env} {outer : List Env} {A₀ : Around} {base h₀ : Heap} {L : Addr} {m : Str → Option Value} {mean : ExcName → Option Value} {mg mb : Str → Option Value} {s : Shared} {Q : Value → Shared → Prop}
theorem DoesH.use (C : DoesH w l c kd f d u vs Post) (CA : CapsIn w h₀ l c kd) (B : Below A₀ base outer h₀) (F : Fr h₀ L s.heap m) (X : (hd.heap_1 w.params).In h₀) (T : TopM mean mg mb h₀) (N : News h₀ L s.heap news) (hf : env.frame = some L) (hk : env.scope.kind = .function) (hd : dp + d < recursionLimit) (hu : un + u < cLine)
    (h : ∀ v h' tk', Fr h₀ L h' m → News h₀ L h' news → Ext [] s.heap h' → Post s.heap v h' → Q v ⟨h', s.gens, s.drawn, tk', s.os⟩) :
    wG w (atA dp un gd env outer) (call (.ref f) vs) Q s :=
  C dp un gd env outer A₀ base h₀ L m mean mg mb s Q CA B F X T (fun p hp => nomatch hp) hf hk hd hu fun v h' tk' x hp =>
    h v h' tk' (x.fr F fun _ q => nomatch q) (x.news0 N) x hp
end
/-- the ground, where it is -/
theorem inst_of {h : Heap} {x C dx : Addr} {o : Obj} (e1 : h.get? x = some (instObj C dx)) (e2 : h.get? dx = some o) : InstAt h x (instObj C dx) C (some o) := ⟨e1, rfl, rfl, e2⟩
theorem InstAt.fr {h₀ h : Heap} {x C L : Addr} {ox : Obj} {od : Option Obj} {m : Str → Option Value} (I : InstAt h₀ x ox C od) (F : Fr h₀ L h m) : InstAt h x ox C od := by
  obtain ⟨e1, e2, e3, e4⟩ := I
  refine ⟨F.keep _ _ e1, e2, e3, ?_⟩
  split at e4 <;> first | exact F.keep _ _ e4 | exact e4
/-! dicts of texts -/
section
variable {w : World} {A : Around} {s : Shared} {E : Value → Shared → Prop} {h₀ : Heap} {L sd : Addr} {m : Str → Option Value} {f : List UInt8 → Option Value} {k : List UInt8} {t : Tok}
theorem in_textN {Q : Value → Shared → Prop} (M : h₀.MapOf (bytesKind pw w) sd f) (lo : (sd == sysModules) = false) (F : Fr h₀ L s.heap m) (e : f k = none) (h : ∀ tk, Q (.bool false) ⟨s.heap, s.gens, s.drawn, tk, s.os⟩) :
    wpAny (model pw w) A (compareOp .In (.bytes k.toArray t) (.ref sd)) Q E s :=
  wpAny_in_of (isB w k t) lo (mapOf_keep M F.keep) (by rw [e]; exact h _)
theorem in_textS {Q : Value → Shared → Prop} {v : Value} (M : h₀.MapOf (bytesKind pw w) sd f) (lo : (sd == sysModules) = false) (F : Fr h₀ L s.heap m) (e : f k = some v) (h : ∀ tk, Q (.bool true) ⟨s.heap, s.gens, s.drawn, tk, s.os⟩) :
    wpAny (model pw w) A (compareOp .In (.bytes k.toArray t) (.ref sd)) Q E s :=
  wpAny_in_of (isB w k t) lo (mapOf_keep M F.keep) (by rw [e]; exact h _)
theorem item_text {value slice : Expr} {v : Value} {Q : Value → Shared → Prop} (M : h₀.MapOf (bytesKind pw w) sd f) (F : Fr h₀ L s.heap m) (e : f k = some v) (h : ∀ tk, Q v ⟨s.heap, s.gens, s.drawn, tk, s.os⟩)
    (hs : subscripted slice false (.ref sd) (.bytes k.toArray t) = operate [.ref sd, .bytes k.toArray t] (getItem (.ref sd) (.bytes k.toArray t))) (ht : ∀ r, letTemporaryGo value (.ref sd) r = pure ()) :
    wpAny (model pw w) A (subscriptTail value slice (.ref sd) (.bytes k.toArray t)) Q E s :=
  subscriptTail_builtin (mapOf_keep M F.keep).typeIs slot_dict_getitem.lookup (wpAny_getItem_of (isB w k t) (mapOf_keep M F.keep) e (h _)) hs ht
theorem getMethod_text {pl : Sem Bool} {Q : Value × List Value → Shared → Prop} (M : h₀.MapOf (bytesKind pw w) sd f) (F : Fr h₀ L s.heap m) (h : Q (.builtin "dict.get", [.ref sd]) s) : wpAny (model pw w) A (getMethod (.ref sd) "get" pl) Q E s :=
  getMethod_builtin (mapOf_keep M F.keep).typeIs PySem.F.plainAttrs_dict PySem.F.slot_dict_get PySem.F.type_dict_get (mapOf_keep M F.keep).noDict h
theorem get_text {Q : Value → Shared → Prop} (M : h₀.MapOf (bytesKind pw w) sd f) (lo : (sd == sysModules) = false) (F : Fr h₀ L s.heap m) (e : f k = none) (h : ∀ tk, Q .none ⟨s.heap, s.gens, s.drawn, tk, s.os⟩) :
    wpAny (model pw w) A (call (.builtin "dict.get") [.ref sd, .bytes k.toArray t]) Q E s :=
  call_meetsIn PySem.F.slot_dict_get (mapOf_keep M F.keep).typeIs PySem.F.entry_dict_get (PySem.F.args_dict_get_2 _ _) (meets_dict_get (bytesKind pw w) sd (isB w k t) lo) ⟨_, mapOf_keep M F.keep, by rw [e]; exact h _⟩
end

/-! PQC3 -/

local macro_rules | `(tactic| k_inst) => `(tactic| k_extra "m:k_inst")
local macro_rules | `(tactic| walk_at "compareOp In bytes ref") => `(tactic| k_extra "m:compareOp In bytes ref")
local macro_rules | `(tactic| walk_at "call builtin:dict.get") => `(tactic| k_extra "m:call builtin:dict.get")
theorem regXmac13 : True := by
  k_with "m:k_inst" => ((refine' InstAt.fr ?zzhI ?zzhF; (case zzhI => assumption); (case zzhF => k_asm)))
  k_with "m:compareOp In bytes ref" => ((k_here; k_dflt (first
  | (refine' in_textS ?zzhM ?zzlo ?zzF ?zze ?_; (case zzhM => assumption); (case zzlo => assumption); (case zzF => k_asm); (case zze => assumption); intro tk')
  | (refine' in_textN ?zzhM ?zzlo ?zzF ?zze ?_; (case zzhM => assumption); (case zzlo => assumption); (case zzF => k_asm); (case zze => assumption); intro tk'))))
  k_with "m:subscriptTail" => ((k_here; (with_reducible show wpAny _ _ (subscriptTail _ _ (Value.ref _) (Value.bytes _ _)) _ _ _); k_dflt (refine' item_text ?zzhM ?zzF ?zze ?_ ?zzhs ?zzht; (case zzhM => assumption); (case zzF => k_asm); (case zze => assumption); (case zzhs => with_unfolding_all rfl); (case zzht => kmk_pure); intro tk')))
  k_with "m:getMethod ref" => ((k_here; (with_reducible show wpAny _ _ (getMethod _ (Str.ofString "get") _) _ _ _); k_dflt (refine' getMethod_text ?zzhM ?zzF ?_; (case zzhM => assumption); (case zzF => k_asm); k_whole)))
  k_with "m:call builtin:dict.get" => ((k_here; k_dflt (refine' get_text ?zzhM ?zzlo ?zzF ?zze ?_; (case zzhM => assumption); (case zzlo => assumption); (case zzF => k_asm); (case zze => first | assumption | exact rfl); intro tk')))
  trivial

theorem does_string (w : World) (l : Strs) (c kd : Addr) (k : List UInt8) (t : Tok) : DoesH w l c kd 370 10 60 [.ref c, .bytes k.toArray t] (fun _ v _ => ∃ t', v = oV (l k) t') := by
  intro dp un gd env outer A₀ base h₀ L m mean mg mb s Q CA B F X T N hf hk hd hu hret
  replace CA := CapsIn.keep CA F.keep
  refine' enter_G (binds := [(Str.ofString "self", .ref c), (Str.ofString "word", .bytes k.toArray t)]) ?B ?F ?X ?T ?N ?f ?k ?room ?ho ?hcd ?hbind ?hloc ?_ ?c2 ?c3 ?c4 ?c5
  (case B => exact B); (case F => exact F); (case X => exact X); (case T => exact T); (case N => exact N); (case f => exact hf); (case k => exact hk)
  (case room => walk_at "lim")
  (case ho => k_is); (case hcd => k_is); (case hbind => (intro _; exact BindsTo.of_eq rfl)); (case hloc => exact locs rfl)
  (case c2 => exact rfl); (case c3 => exact rfl); (case c4 => exact rfl); (case c5 => decide)
  k_whole
  clear B F X T N hf hk
  intro g' L' h' F' N' B' X' T' hsub hlt hsz
  (try dsimp only)
  (try k_fold)
  have CG := CapsIn.keep CA (fun b o e => hsub b o e (by intro q; cases q))
  clear CA
  obtain ⟨cd, i, id, k1, k2, k3, k4, k5, k6, k7, k8, na, bo, nu, sd, mo, us, CG3⟩ := CG
  have a1 := CG3.caps
  have a2 := CG3.capsd
  have a3 := CG3.info
  have a4 := CG3.infod
  obtain ⟨f, a5, a5'⟩ := CG3.texts
  have a6 := CG3.more
  have lo1 := CG3.lo.1
  have lo2 := CG3.lo.2.1
  clear CG3
  have I1 := inst_of a1 a2
  have I2 := inst_of a3 a4
  obtain ⟨ty, hy⟩ := a5' k
  clear a1 a2 a3 a4 a5'
  cases e : l k with
  | none =>
    rw [e] at hy; dsimp only [Option.map] at hy
    k_steps
    exact hret _ _ _ (kE [] (by intro p hp; cases hp)) ⟨0, by rw [e]; rfl⟩
  | some o =>
    rw [e] at hy; dsimp only [Option.map] at hy
    k_steps
    exact hret _ _ _ (kE [] (by intro p hp; cases hp)) ⟨_, by rw [e]; rfl⟩

/-! PQC4 -/
theorem fun_news {w : World} {extra news : List (Addr × Obj)} {k : Key} {a : Addr} (hk : KeyIn w extra k a) (he : ∀ p ∈ extra, p ∈ news) : KeyIn w news k a := by
  obtain ⟨t, p, q, h1, h2, r⟩ := hk
  exact ⟨t, p, q, he _ h1, h2.imp (he _) id, r⟩
theorem wp_of_in {M : Model} {A : Around} {E : Value → Shared → Prop} {s : Shared} {t : Sem Bool} {Q : Value → Shared → Prop} (h : wpAny M A (t >>= fun b => pure (Value.bool b)) Q E s) : wpAny M A t (fun b => Q (.bool b)) E s := fun Γ p hΓ => by
  have := h Γ p hΓ
  rw [Sem.wp_bind'] at this
  exact this
section
variable {w : World} {A : Around} {s : Shared} {E : Value → Shared → Prop} {l : Strs} {kd a L : Addr} {h₀ : Heap} {m : Str → Option Value} {K news : List (Addr × Obj)} {o : Obj} {es : Array DictEntry} {ep : Nat} {xs : List (Key × Addr × Value)} {k : Key}
theorem in_heap_not {d : Addr} {Q : Value → Shared → Prop} (hu : A.units + 3 < cLine) (hkey : IsKey w s.heap k a) (hd : (d == sysModules) = false) (hm : s.heap.DictOfH (keyKind w) d xs)
    (h : Q (.bool (!(atKey xs k).isSome)) { s with toks := s.toks + (keyKind w).draws k }) : wpAny (model pw w) A (compareOp .NotIn (.ref a) (.ref d)) Q E s := by
  show wpAny _ _ (do return .bool (!(← contains (.ref d) (.ref a)))) Q E s
  refine wpAny_bind ?_
  have := wp_of_in (t := contains (.ref d) (.ref a)) (Q := fun v s' => match v with | .bool b => wpAny (model pw w) A (pure (Value.bool (!b))) Q E s' | _ => False)
    (wpAny_in_heap (Q := fun v s' => match v with | .bool b => wpAny (model pw w) A (pure (Value.bool (!b))) Q E s' | _ => False) (E := E) (knd := keyKind w) (by show A.units + 1 + 2 < cLine; omega) hkey hd hm (wpAny_pure h))
  exact this
theorem KeptAs.there (x : KeptAs w l kd K o es ep xs) (hs : ∀ p ∈ K, p ∈ news) (N : News h₀ L s.heap news) (F : Fr h₀ L s.heap m) (X : (hd.heap_1 w.params).In h₀) : s.heap.DictOfH (keyKind w) kd xs :=
  x.dict (fun p hp => (N p (hs p hp)).1) (X.keeps F.keep)
theorem KeyIn.there (x : KeyIn w news k a) (N : News h₀ L s.heap news) (F : Fr h₀ L s.heap m) (X : (hd.heap_1 w.params).In h₀) : IsKey w s.heap k a :=
  x.isKey (fun p hp => (N p hp).1) (X.keeps F.keep)
theorem notin_keptS {p : Addr × Value} {Q : Value → Shared → Prop} (x : KeptAs w l kd K o es ep xs) (hs : ∀ p ∈ K, p ∈ news) (N : News h₀ L s.heap news) (F : Fr h₀ L s.heap m) (X : (hd.heap_1 w.params).In h₀) (hk : KeyIn w news k a) (hu : A.units + 3 < cLine)
    (e : atKey xs k = some p) (h : ∀ tk, Q (.bool false) ⟨s.heap, s.gens, s.drawn, tk, s.os⟩) : wpAny (model pw w) A (compareOp .NotIn (.ref a) (.ref kd)) Q E s :=
  in_heap_not hu (KeyIn.there hk N F X) x.lo (x.there hs N F X) (by rw [e]; exact h _)
theorem notin_keptN {Q : Value → Shared → Prop} (x : KeptAs w l kd K o es ep xs) (hs : ∀ p ∈ K, p ∈ news) (N : News h₀ L s.heap news) (F : Fr h₀ L s.heap m) (X : (hd.heap_1 w.params).In h₀) (hk : KeyIn w news k a) (hu : A.units + 3 < cLine)
    (e : atKey xs k = none) (h : ∀ tk, Q (.bool true) ⟨s.heap, s.gens, s.drawn, tk, s.os⟩) : wpAny (model pw w) A (compareOp .NotIn (.ref a) (.ref kd)) Q E s :=
  in_heap_not hu (KeyIn.there hk N F X) x.lo (x.there hs N F X) (by rw [e]; exact h _)
theorem item_kept {value slice : Expr} {p : Addr × Value} {Q : Value → Shared → Prop} (x : KeptAs w l kd K o es ep xs) (hs : ∀ p ∈ K, p ∈ news) (N : News h₀ L s.heap news) (F : Fr h₀ L s.heap m) (X : (hd.heap_1 w.params).In h₀) (hk : KeyIn w news k a) (hu : A.units + 3 < cLine)
    (e : atKey xs k = some p) (h : ∀ tk, Q p.2 ⟨s.heap, s.gens, s.drawn, tk, s.os⟩)
    (hs' : subscripted slice false (.ref kd) (.ref a) = operate [.ref kd, .ref a] (getItem (.ref kd) (.ref a))) (ht : ∀ r, letTemporaryGo value (.ref kd) r = pure ()) :
    wpAny (model pw w) A (subscriptTail value slice (.ref kd) (.ref a)) Q E s :=
  subscriptTail_builtin (x.there hs N F X).typeIs slot_dict_getitem.lookup (wpAny_getItem_heap (knd := keyKind w) (by show A.units + 1 + 2 < cLine; omega) (KeyIn.there hk N F X) (x.there hs N F X) e (h _)) hs' ht
theorem atKey_app {v : Value} (e : atKey xs k = none) : atKey (xs ++ [(k, a, v)]) k = some (a, v) := by
  unfold atKey at e ⊢
  have e' := Option.map_eq_none_iff.mp e
  rw [List.find?_append, e']
  simp
theorem set_kept {v : Value} {extra : List (Addr × Obj)} {Q : Unit → Shared → Prop} (x : KeptAs w l kd K o es ep xs) (hs : ∀ p ∈ K, p ∈ news) (N : News h₀ L s.heap news) (F : Fr h₀ L s.heap m) (X : (hd.heap_1 w.params).In h₀) (hk : KeyIn w extra k a) (he : ∀ p ∈ extra, p ∈ news) (hx : ∀ p ∈ extra, p.2.cls = .type "tuple")
    (hu : A.units + 3 < cLine) (e : atKey xs k = none) (ha : k ∈ askedK) (hv : ∃ t, v = oV (toldF l k.1 k.2) t)
    (h : ∀ h' tk K' o' es' ep', Fr h₀ L h' m → News h₀ L h' K' → KeptAs w l kd K' o' es' ep' (xs ++ [(k, a, v)]) → KeyIn w K' k a → (∀ p ∈ K, p.1 = kd ∨ p ∈ K') → (∀ p ∈ extra, p ∈ K') → atKey (xs ++ [(k, a, v)]) k = some (a, v) → Q () ⟨h', s.gens, s.drawn, tk, s.os⟩) :
    wpAny (model pw w) A (setItem (.ref kd) (.ref a) v) Q E s := by
  have hkey := KeyIn.there (fun_news hk he) N F X
  refine wpAny_setItem_heap (knd := keyKind w) (by show A.units + 1 + 2 < cLine; omega) hkey (x.there hs N F X) (fun h' hm hb => ?_) (by have := x.len; simp only [sizeLine]; omega)
  rw [storedH_new e] at hm
  obtain ⟨o', es', ep', g', ex', d', en', _, nd'⟩ := hm
  have nk : ∀ q : Addr × Obj, q ∈ news → q.2.cls = .type "tuple" → q.1 ≠ kd := fun q hq hc z => by
    have e1 := (N q hq).1
    rw [z, (N _ (hs _ x.mem)).1] at e1
    have e2 := congrArg Obj.cls (Option.some.inj e1)
    rw [hc, x.exact_.1] at e2
    exact absurd (show Value.type "dict" = Value.type "tuple" from e2) (by decide)
  let K' := (kd, o') :: (extra ++ K.filter fun q => decide (q.1 ≠ kd))
  have sub : ∀ q ∈ K, q.1 ≠ kd → q ∈ K' := fun q hq hn => .tail _ (List.mem_append.mpr (.inr (List.mem_filter.mpr ⟨hq, decide_eq_true hn⟩)))
  have NK : News h₀ L h' K' := fun q hq => by
    rcases List.mem_cons.mp hq with rfl | hq
    · exact ⟨g', (N _ (hs _ x.mem)).2⟩
    · rcases List.mem_append.mp hq with hq | hq
      · exact ⟨(hb.2 _ (nk q (he q hq) (hx q hq))).trans (N q (he q hq)).1, (N q (he q hq)).2⟩
      · obtain ⟨hq, hn⟩ := List.mem_filter.mp hq
        exact ⟨(hb.2 _ (of_decide_eq_true hn)).trans (N q (hs q hq)).1, (N q (hs q hq)).2⟩
  have old : ∀ {k' : Key} {b : Addr}, KeyIn w K k' b → KeyIn w K' k' b := by
    rintro k' b ⟨t, p, q, h1, h2, items, n, h3, h4, h5⟩
    refine ⟨t, p, q, sub _ h1 (nk _ (hs _ h1) rfl), h2.imp (fun z => sub _ z (nk _ (hs _ z) h3)) id, items, n, h3, h4, h5⟩
  have new : KeyIn w K' k a := by
    obtain ⟨t, p, q, h1, h2, r⟩ := hk
    exact ⟨t, p, q, .tail _ (List.mem_append.mpr (.inl h1)), h2.imp (fun z => .tail _ (List.mem_append.mpr (.inl z))) id, r⟩
  refine h h' _ K' o' es' ep' (F.change hb (N _ (hs _ x.mem)).2.1 (N _ (hs _ x.mem)).2.2) NK ⟨.head _, ex', d', en', nd', ?_, ?_, ?_, ?_, x.lo⟩ new ?_ ?_ (atKey_app e)
  · intro y hy
    rcases List.mem_append.mp hy with hy | hy
    · exact x.asked y hy
    · rw [List.mem_singleton.mp hy]; exact ha
  · intro y hy
    rcases List.mem_append.mp hy with hy | hy
    · exact old (x.keys y hy)
    · rw [List.mem_singleton.mp hy]; exact new
  · intro y hy
    rcases List.mem_append.mp hy with hy | hy
    · exact x.vals y hy
    · rw [List.mem_singleton.mp hy]; exact hv
  · intro q hq
    rcases List.mem_cons.mp hq with rfl | hq
    · show isKept o'.cls = true
      rw [ex'.1]; rfl
    · rcases List.mem_append.mp hq with hq | hq
      · rw [hx q hq]; rfl
      · exact x.cls q (List.mem_filter.mp hq).1
  · intro q hq
    by_cases z : q.1 = kd
    · exact .inl z
    · exact .inr (sub q hq z)
  · exact fun q hq => .tail _ (List.mem_append.mpr (.inl hq))
end

/-! PQC5 -/

def FillOk (ns : List Int) (o : Option (List UInt8)) : Prop := match ns with
  | [] => ∀ b, o = some b → b.length < 1000 ∧ (36 : UInt8) ∉ b
  | n :: _ => ∀ b, o = some b → b = oB ∨ ∃ c : UInt8, b = oA c ∧ ((c.toNat : Nat) : Int) ≠ 37 ∧ c ≠ 36
def fillsF (o : Option (List UInt8)) (ns : List Int) : Option (List UInt8) := match o, ns with
  | none, _ => none
  | some o, [] => some o
  | some o, n :: _ => some (fillF o n)
theorem toldF_eq (l : Strs) (k : List UInt8) (ns : List Int) : toldF l k ns = fillsF (l k) ns := by
  unfold toldF fillsF; cases l k <;> rfl
theorem does_fillU0 (w : World) (o : Option (List UInt8)) (t : Tok) (p : Addr) (e : Nat) (ho : FillOk [] o) : DoesG w 416 200 600 [oV o t, .ref p] [(p, listOf #[] e)] [] (fun _ v _ => ∃ t', v = oV (fillsF o []) t') := by
  intro dp un gd env outer A₀ base h₀ L m mean mg mb s Q B F X T N hf hk hd hu hret
  cases o with
  | none => exact does_fillN w p _ dp un gd env outer A₀ base h₀ L m mean mg mb s Q B F X T N hf hk (by omega) (by omega) fun v h' tk' x hp => hret v h' tk' x ⟨0, hp⟩
  | some b => exact does_fill0 w b t p e (ho b rfl).1 (ho b rfl).2 dp un gd env outer A₀ base h₀ L m mean mg mb s Q B F X T N hf hk (by omega) (by omega) fun v h' tk' x hp => hret v h' tk' x (let ⟨t, h⟩ := hp; ⟨t, h⟩)
theorem does_fillU1 (w : World) (o : Option (List UInt8)) (n : Int) (tn t : Tok) (p : Addr) (e : Nat) (h0 : 0 ≤ n) (h1 : n < 98) (ho : FillOk [n] o) :
    DoesG w 416 200 600 [oV o t, .ref p] [(p, listOf #[.int n tn] e)] [] (fun _ v _ => ∃ t', v = oV (fillsF o [n]) t') := by
  intro dp un gd env outer A₀ base h₀ L m mean mg mb s Q B F X T N hf hk hd hu hret
  cases o with
  | none => exact does_fillN w p _ dp un gd env outer A₀ base h₀ L m mean mg mb s Q B F X T N hf hk (by omega) (by omega) fun v h' tk' x hp => hret v h' tk' x ⟨0, hp⟩
  | some b =>
    rcases ho b rfl with rfl | ⟨c, rfl, hc, hc2⟩
    · exact does_fillB w n tn t p e h0 h1 dp un gd env outer A₀ base h₀ L m mean mg mb s Q B F X T N hf hk (by omega) (by omega) fun v h' tk' x hp => hret v h' tk' x (by obtain ⟨t, h⟩ := hp; exact ⟨t, by simp only [fillsF, fillF, if_pos]; exact h⟩)
    · exact does_fillA w c n tn t p e hc hc2 h0 (by omega) dp un gd env outer A₀ base h₀ L m mean mg mb s Q B F X T N hf hk (by omega) (by omega) fun v h' tk' x hp => hret v h' tk' x (by
        obtain ⟨t, h⟩ := hp
        refine ⟨t, ?_⟩
        have : ¬ (oA c = oB) := by simp
        simp only [fillsF, fillF, if_neg this, List.getLastD_cons, List.getLastD_nil]
        exact h)
theorem keyIn0 {w : World} {news : List (Addr × Obj)} {a : Addr} {k : List UInt8} {t : Tok} (h : (a, tupOf [.bytes k.toArray t, .ref 380]) ∈ news) : KeyIn w news (k, []) a :=
  ⟨t, 380, tupOf [], h, .inr (by k_is), _, _, rfl, rfl, .nil⟩
theorem keyIn1 {w : World} {news : List (Addr × Obj)} {a p : Addr} {k : List UInt8} {t tn : Tok} {n : Int} (h : (a, tupOf [.bytes k.toArray t, .ref p]) ∈ news) (hp : (p, tupOf [.int n tn]) ∈ news) : KeyIn w news (k, [n]) a :=
  ⟨t, p, _, h, .inl hp, _, _, rfl, rfl, .cons (by simp [intKind, Value.isInt]) .nil⟩
section
variable {w : World} {A : Around} {E : Value → Shared → Prop} {s : Shared} {h₀ : Heap} {L p : Addr} {m : Str → Option Value} {news : List (Addr × Obj)} {vs : List Value}
theorem tup_380 (X : (hd.heap_1 w.params).In h₀) (F : Fr h₀ L s.heap m) : s.heap.IsTuple 380 #[] :=
  ⟨tupOf [], F.keep _ _ (X _ _ (show (hd.heap_1 w.params).lookup 380 = some (tupOf []) by k_is)), rfl, _, rfl⟩
theorem tuple_380 {Q : Value → Shared → Prop} (X : (hd.heap_1 w.params).In h₀) (F : Fr h₀ L s.heap m) (h : Q (.ref 380) s) : wpAny (model pw w) A (call (.type "tuple") [.ref 380]) Q E s := call_tuple_same (tup_380 X F) h
theorem tuple_K {Q : Value → Shared → Prop} (N : News h₀ L s.heap news) (hm : (p, tupOf vs) ∈ news) (h : Q (.ref p) s) : wpAny (model pw w) A (call (.type "tuple") [.ref p]) Q E s := call_tuple_same ⟨_, (N _ hm).1, rfl, _, rfl⟩ h
theorem list_380 {Q : Value → Shared → Prop} (X : (hd.heap_1 w.params).In h₀) (F : Fr h₀ L s.heap m) (N : News h₀ L s.heap news) (h : ∀ D c h', Fr h₀ L h' m → News h₀ L h' ((D, listOf #[] c) :: news) → (∀ q ∈ news, q.1 < D) → Q (.ref D) { s with heap := h' }) :
    wpAny (model pw w) A (call (.type "list") [.ref 380]) Q E s :=
  list_copyKT F N (tup_380 X F) h (by decide)
end

/-! PQC6 -/


local macro_rules | `(tactic| walk_at "compareOp NotIn ref ref") => `(tactic| k_extra "m:compareOp NotIn ref ref")
local macro_rules | `(tactic| walk_at "call type:tuple") => `(tactic| k_extra "m:call type:tuple")
local macro_rules | `(tactic| walk_at "call type:list") => `(tactic| k_extra "m:call type:list")
local macro_rules | `(tactic| walk_at "setItem ref") => `(tactic| k_extra "m:setItem ref")
local macro_rules | `(tactic| walk_at "end C") => `(tactic| k_extra "m:end C")
theorem regXmac14 : True := by
  k_with "noinline" => ((with_reducible show wG _ _ (call (Value.ref 370) _) _ _))
  k_with "wG" => (((with_reducible show wG _ _ (call (Value.ref 370) _) _ _); k_dflt (
  refine' DoesH.use (does_string _ _ _ _ _ _) ?zzCA ?zzB ?zzF ?zzX ?zzT ?zzN ?zzf ?zzk ?zzhd ?zzhu ?_; (case zzCA => assumption); (case zzB => k_asm); (case zzF => k_asm); (case zzX => k_asm); (case zzT => k_asm); (case zzN => k_asm); (case zzf => exact rfl); (case zzk => exact rfl); (case zzhd => walk_at "lim"); (case zzhu => walk_at "lim"); k_whole; intro v' h' k' F' N' x' P'; (((first | refine Exists.elim P' ?_ | refine And.elim ?_ P'); clear P'; intro t' P'); subst P'); clear x'; (try k_sweep))))
  k_with "noinline" => ((with_reducible show wG _ _ (call (Value.ref 416) _) _ _))
  k_with "wG" => (((with_reducible show wG _ _ (call (Value.ref 416) _) _ _); k_dflt (
  refine' DoesG.useM (does_fillU0 _ _ _ _ _ ?zzhz) ?zzB ?zzF ?zzX ?zzT ?zzN ?zzhs ?zzhm ?zzf ?zzk ?zzhd ?zzhu ?_; (case zzB => k_asm); (case zzF => k_asm); (case zzX => k_asm); (case zzT => k_asm); (case zzN => k_asm); (case zzhs => (intro p hp; rw [List.mem_singleton.mp hp]; k_mem)); (case zzhm => (intro a ha; cases ha)); (case zzf => exact rfl); (case zzk => exact rfl); (case zzhd => walk_at "lim"); (case zzhu => walk_at "lim"); (case zzhz => assumption); k_whole; intro v' h' k' F' x' lt' P'; (((first | refine Exists.elim P' ?_ | refine And.elim ?_ P'); clear P'; intro t' P'); subst P'); refine' led0 ?zzN x' ?_; (case zzN => k_asm); intro N'; clear x' lt'; (try k_sweep))))
  k_with "wG" => (((with_reducible show wG _ _ (call (Value.ref 416) _) _ _); k_dflt (
  refine' DoesG.useM (does_fillU1 _ _ _ _ _ _ _ ?zzh0 ?zzh1 ?zzhz) ?zzB ?zzF ?zzX ?zzT ?zzN ?zzhs ?zzhm ?zzf ?zzk ?zzhd ?zzhu ?_; (case zzB => k_asm); (case zzF => k_asm); (case zzX => k_asm); (case zzT => k_asm); (case zzN => k_asm); (case zzhs => (intro p hp; rw [List.mem_singleton.mp hp]; k_mem)); (case zzhm => (intro a ha; cases ha)); (case zzf => exact rfl); (case zzk => exact rfl); (case zzhd => walk_at "lim"); (case zzhu => walk_at "lim"); (case zzh0 => omega); (case zzh1 => omega); (case zzhz => assumption); k_whole; intro v' h' k' F' x' lt' P'; (((first | refine Exists.elim P' ?_ | refine And.elim ?_ P'); clear P'; intro t' P'); subst P'); refine' led0 ?zzN x' ?_; (case zzN => k_asm); intro N'; clear x' lt'; (try k_sweep))))
  k_with "end tail" => ((intro p hp; (repeat (first | exact hp | refine List.Mem.tail _ ?_))))
  k_with "end key" => (first | assumption | exact keyIn0 (by k_mem) | exact keyIn1 (by k_mem) (by k_mem))
  k_with "m:compareOp NotIn ref ref" => ((k_here; k_dflt (first
  | (refine' notin_keptS ?zzhx ?zzhs ?zzN ?zzF ?zzX ?zzhk ?zzhu ?zzhe ?_; (case zzhe => assumption); (case zzhx => assumption); (case zzN => k_asm); (case zzF => k_asm); (case zzX => k_asm); (case zzhs => walk_at "end tail"); (case zzhk => walk_at "end key"); (case zzhu => k_room); intro tk')
  | (refine' notin_keptN ?zzhx ?zzhs ?zzN ?zzF ?zzX ?zzhk ?zzhu ?zzhe ?_; (case zzhe => assumption); (case zzhx => assumption); (case zzN => k_asm); (case zzF => k_asm); (case zzX => k_asm); (case zzhs => walk_at "end tail"); (case zzhk => walk_at "end key"); (case zzhu => k_room); intro tk'))))
  k_with "m:subscriptTail" => ((k_here; (with_reducible show wpAny _ _ (subscriptTail _ _ (Value.ref _) (Value.ref _)) _ _ _); k_dflt (refine' item_kept ?zzhx ?zzhs ?zzN ?zzF ?zzX ?zzhk ?zzhu ?zzhe ?_ ?zzhs2 ?zzht; (case zzhe => assumption); (case zzhx => assumption); (case zzN => k_asm); (case zzF => k_asm); (case zzX => k_asm); (case zzhs => walk_at "end tail"); (case zzhk => walk_at "end key"); (case zzhu => k_room); (case zzhs2 => with_unfolding_all rfl); (case zzht => kmk_pure); intro tk')))
  k_with "m:call type:tuple" => ((k_here; (with_reducible show wpAny _ _ (call (Value.type "tuple") [Value.ref _]) _ _ _); k_dflt (first
  | (refine' tuple_K ?zzN ?zzhm ?_; (case zzN => k_asm); (case zzhm => k_mem); k_whole)
  | (refine' tuple_380 ?zzX ?zzF ?_; (case zzX => k_asm); (case zzF => k_asm)))))
  k_with "m:call type:list" => ((k_here; (with_reducible show wpAny _ _ (call (Value.type "list") [Value.ref 380]) _ _ _); k_dflt (refine' list_380 ?zzX ?zzF ?zzN ?_; (case zzX => k_asm); (case zzF => k_asm); (case zzN => k_asm); intro D' c' h' F' N' l1; (try k_lt l1); (try k_sweep))))
  k_with "m:setItem ref" => ((k_here; k_dflt (first
  | (refine' set_kept (extra := [(_, tupOf [_, Value.ref 380])]) ?zzhx ?zzhs ?zzN ?zzF ?zzX (keyIn0 (List.Mem.head _)) ?zzhi ?zzhc ?zzhu ?zzhe ?zzha ?zzhv ?_; (case zzhe => assumption); (case zzhx => assumption); (case zzN => k_asm); (case zzF => k_asm); (case zzX => k_asm); (case zzhs => walk_at "end tail"); (case zzhu => k_room); (case zzhi => (intro p hp; rw [List.mem_singleton.mp hp]; k_mem)); (case zzhc => (intro p hp; rw [List.mem_singleton.mp hp])); (case zzha => assumption); (case zzhv => exact ⟨_, congrArg (fun o => oV o _) (toldF_eq _ _ _).symm⟩))
  | (refine' set_kept (extra := [(_, tupOf [_, _]), (_, tupOf [_])]) ?zzhx ?zzhs ?zzN ?zzF ?zzX (keyIn1 (List.Mem.head _) (List.Mem.tail _ (List.Mem.head _))) ?zzhi ?zzhc ?zzhu ?zzhe ?zzha ?zzhv ?_; (case zzhe => assumption); (case zzhx => assumption); (case zzN => k_asm); (case zzF => k_asm); (case zzX => k_asm); (case zzhs => walk_at "end tail"); (case zzhu => k_room); (case zzhi => (intro p hp; (rcases List.mem_cons.mp hp with rfl | hp); (k_mem); (rw [List.mem_singleton.mp hp]; k_mem))); (case zzhc => (intro p hp; (rcases List.mem_cons.mp hp with rfl | hp); (exact rfl); (rw [List.mem_singleton.mp hp]))); (case zzha => assumption); (case zzhv => exact ⟨_, congrArg (fun o => oV o _) (toldF_eq _ _ _).symm⟩))); intro h' tk' K' o' es' ep' F' N' HK' HN' hm' hx' he'; (rename KC _ _ _ _ _ => kh'); (replace kh' := KC.trans kh' ⟨⟨_, _, _, _, HK'⟩, hm'⟩); clear hm'))
  k_with "m:end C" => ((refine' endC (hret _ _ _) kE ?zzkh hsub ?zzN ?zzhKs ?zzhp ?zzpost; (case zzkh => assumption); (case zzN => k_asm); (case zzhKs => walk_at "end tail")))
  trivial

theorem does_told0 (w : World) (l : Strs) (c kd : Addr) (k : List UInt8) (t : Tok) (hk0 : (k, []) ∈ askedK) (hl : FillOk [] (l k)) : DoesC w l c kd 388 250 700 [.ref c, .bytes k.toArray t] [] (fun _ v _ => ∃ t', v = oV (toldF l k []) t') := by
  intro K dp un gd env outer A₀ base h₀ L m mean mg mb s Q hK CA B F X T N hf hk hd hu hret
  refine' enter_G (binds := [(Str.ofString "self", .ref c), (Str.ofString "word", .bytes k.toArray t), (Str.ofString "params", .ref 380)]) ?B ?F ?X ?T ?N ?f ?k ?room ?ho ?hcd ?hbind ?hloc ?_ ?c2 ?c3 ?c4 ?c5
  (case B => exact B); (case F => exact F); (case X => exact X); (case T => exact T); (case N => exact N); (case f => exact hf); (case k => exact hk)
  (case room => walk_at "lim")
  (case ho => k_is); (case hcd => k_is); (case hbind => (intro XS; exact binds_K XS rfl (by k_is) rfl rfl rfl)); (case hloc => exact locs rfl)
  (case c2 => exact rfl); (case c3 => exact rfl); (case c4 => exact rfl); (case c5 => decide)
  k_whole
  clear B F X T N hf hk
  intro g' L' h' F' N' B' X' T' hsub hlt hsz
  (try dsimp only)
  (try k_fold)
  have CG := caps_in CA hsub
  have KH := KC.refl hK
  clear CA
  dsimp only [List.nil_append, List.cons_append] at N' hlt hsub
  have CG2 := CG
  obtain ⟨cd, i, id, k1, k2, k3, k4, k5, k6, k7, k8, na, bo, nu, sd, mo, us, CG3⟩ := CG2
  have a1 := CG3.caps
  have a2 := CG3.capsd
  clear CG3
  have I1 := inst_of a1 a2
  clear a1 a2
  obtain ⟨o, es, ep, xs, HK⟩ := hK
  cases e : atKey xs (k, []) with
  | some p =>
    obtain ⟨tv, hv⟩ := kept_val HK e
    k_steps
    exact endC (pre := []) (hret _ _ _) kE (by assumption) hsub (by k_asm) (by walk_at "end tail") (by intro p hp; cases hp) ⟨_, hv⟩
  | none =>
    k_steps
    exact endC (pre := []) (hret _ _ _) kE (by assumption) hsub (by k_asm) (by walk_at "end tail") (by intro p hp; cases hp) ⟨_, congrArg (fun o => oV o _) (toldF_eq _ _ _).symm⟩
theorem does_told1 (w : World) (l : Strs) (c kd p : Addr) (k : List UInt8) (n : Int) (tn t : Tok) (hk0 : (k, [n]) ∈ askedK) (h0 : 0 ≤ n) (h1 : n < 98) (hl : FillOk [n] (l k)) :
    DoesC w l c kd 388 250 700 [.ref c, .bytes k.toArray t, .ref p] [(p, tupOf [.int n tn])] (fun _ v _ => ∃ t', v = oV (toldF l k [n]) t') := by
  intro K dp un gd env outer A₀ base h₀ L m mean mg mb s Q hK CA B F X T N hf hk hd hu hret
  refine' enter_G (binds := [(Str.ofString "self", .ref c), (Str.ofString "word", .bytes k.toArray t), (Str.ofString "params", .ref p)]) ?B ?F ?X ?T ?N ?f ?k ?room ?ho ?hcd ?hbind ?hloc ?_ ?c2 ?c3 ?c4 ?c5
  (case B => exact B); (case F => exact F); (case X => exact X); (case T => exact T); (case N => exact N); (case f => exact hf); (case k => exact hk)
  (case room => walk_at "lim")
  (case ho => k_is); (case hcd => k_is); (case hbind => (intro XS; exact binds_K XS rfl (by k_is) rfl rfl rfl)); (case hloc => exact locs rfl)
  (case c2 => exact rfl); (case c3 => exact rfl); (case c4 => exact rfl); (case c5 => decide)
  k_whole
  clear B F X T N hf hk
  intro g' L' h' F' N' B' X' T' hsub hlt hsz
  (try dsimp only)
  (try k_fold)
  have CG := caps_in CA hsub
  have KH := KC.refl hK
  clear CA
  dsimp only [List.nil_append, List.cons_append] at N' hlt hsub
  have CG2 := CG
  obtain ⟨cd, i, id, k1, k2, k3, k4, k5, k6, k7, k8, na, bo, nu, sd, mo, us, CG3⟩ := CG2
  have a1 := CG3.caps
  have a2 := CG3.capsd
  clear CG3
  have I1 := inst_of a1 a2
  clear a1 a2
  obtain ⟨o, es, ep, xs, HK⟩ := hK
  cases e : atKey xs (k, [n]) with
  | some q =>
    obtain ⟨tv, hv⟩ := kept_val HK e
    k_steps
    exact endC (pre := [(p, tupOf [.int n tn])]) (hret _ _ _) kE (by assumption) hsub (by k_asm) (by walk_at "end tail") (by intro p hp; rw [List.mem_singleton.mp hp]; k_mem) ⟨_, hv⟩
  | none =>
    k_steps
    exact endC (pre := [(p, tupOf [.int n tn])]) (hret _ _ _) kE (by assumption) hsub (by k_asm) (by walk_at "end tail") (by intro p hp; rw [List.mem_singleton.mp hp]; exact hx' _ (List.Mem.tail _ (List.Mem.head _))) ⟨_, congrArg (fun o => oV o _) (toldF_eq _ _ _).symm⟩

/-! PQC7 -/

local macro_rules | `(tactic| walk_at "binaryOp Add bytes bytes") => `(tactic| k_extra "m:binaryOp Add bytes bytes")
local macro_rules | `(tactic| walk_at "binaryOp Mult bytes int") => `(tactic| k_extra "m:binaryOp Mult bytes int")
theorem regXmac15 : True := by
  k_with "m:binaryOp Add bytes bytes" => (((with_reducible show wpAny _ _ (binaryOp Operator.Add (Value.bytes _ _) (Value.bytes _ _)) _ _ _); (refine KBy.add_bytes (by (simp only [List.size_toArray]; omega)) ?_); intro _ _))
  k_with "m:binaryOp Mult bytes int" => (((with_reducible show wpAny _ _ (binaryOp Operator.Mult (Value.bytes (List.toArray _) _) (Value.int _ _)) _ _ _); (refine bytes_mul_any (by assumption) (by omega) (by omega) (by omega) ?_); intro _ _))
  trivial

def costF (o : Option (List UInt8)) : Int × Int := match o with
  | none => (1, 0)
  | some b => (0, b.length)
def Fits (o : Option (List UInt8)) (n : Nat) : Prop := ∀ b, o = some b → b.length ≤ n
def joinF (o p : Option (List UInt8)) : Option (List UInt8) := match o, p with
  | some a, some b => some (a ++ b)
  | _, _ => none
def repF (o : Option (List UInt8)) (n : Int) : Option (List UInt8) := o.map fun b => (List.replicate n.toNat b).flatten
theorem does_cost (w : World) (o : Option (List UInt8)) (t : Tok) (ho : Fits o 100000) : Does w 423 1 8 [oV o t] [] [] (fun h v h' => ∃ a t1 t2, v = .ref a ∧ New h a (tupOf [.int (costF o).1 t1, .int (costF o).2 t2]) h') := by
  cases o with
  | none =>
    intro dp un gd env outer A₀ base h₀ L m mean mg mb s Q E B F X T N hf hk hd hu hret
    refine' enter_def (binds := [(Str.ofString "octets", Value.none)]) ?B ?F ?X ?T ?N ?f ?k ?room ?ho ?hcd ?hbind ?hloc ?_ ?c2 ?c3 ?c4 ?c5
    (case B => exact B); (case F => exact F); (case X => exact X); (case T => exact T); (case N => exact N); (case f => exact hf); (case k => exact hk)
    (case room => walk_at "lim")
    (case ho => k_is); (case hcd => k_is); (case hbind => (intro _; exact BindsTo.of_eq rfl)); (case hloc => exact locs rfl)
    (case c2 => exact rfl); (case c3 => exact rfl); (case c4 => exact rfl); (case c5 => decide)
    k_whole
    clear B F X T N hf hk
    intro g' L' h' F' N' B' X' T' hsub hlt hsz
    (try dsimp only)
    (try k_fold)
    k_steps
    exact hret _ _ _ (kE [] (by intro p hp; cases hp)) ⟨_, _, _, rfl, by walk_at "end new"⟩
  | some b =>
    have hb : b.length ≤ 100000 := ho b rfl
    intro dp un gd env outer A₀ base h₀ L m mean mg mb s Q E B F X T N hf hk hd hu hret
    refine' enter_def (binds := [(Str.ofString "octets", Value.bytes b.toArray t)]) ?B ?F ?X ?T ?N ?f ?k ?room ?ho ?hcd ?hbind ?hloc ?_ ?c2 ?c3 ?c4 ?c5
    (case B => exact B); (case F => exact F); (case X => exact X); (case T => exact T); (case N => exact N); (case f => exact hf); (case k => exact hk)
    (case room => walk_at "lim")
    (case ho => k_is); (case hcd => k_is); (case hbind => (intro _; exact BindsTo.of_eq rfl)); (case hloc => exact locs rfl)
    (case c2 => exact rfl); (case c3 => exact rfl); (case c4 => exact rfl); (case c5 => decide)
    k_whole
    clear B F X T N hf hk
    intro g' L' h' F' N' B' X' T' hsub hlt hsz
    (try dsimp only)
    (try k_fold)
    k_steps
    exact hret _ _ _ (kE [] (by intro p hp; cases hp)) ⟨_, _, _, rfl, by walk_at "end new"⟩
theorem does_joined (w : World) (o p : Option (List UInt8)) (t u : Tok) (ho : Fits o 100000) (hp : Fits p 100000) : Does w 437 1 8 [oV o t, oV p u] [] [] (fun _ v _ => ∃ t', v = oV (joinF o p) t') := by
  rcases o with _ | a
  · rcases p with _ | b
    · intro dp un gd env outer A₀ base h₀ L m mean mg mb s Q E B F X T N hf hk hd hu hret
      refine' enter_def (binds := [(Str.ofString "one", Value.none), (Str.ofString "other", Value.none)]) ?B ?F ?X ?T ?N ?f ?k ?room ?ho ?hcd ?hbind ?hloc ?_ ?c2 ?c3 ?c4 ?c5
      (case B => exact B); (case F => exact F); (case X => exact X); (case T => exact T); (case N => exact N); (case f => exact hf); (case k => exact hk)
      (case room => walk_at "lim")
      (case ho => k_is); (case hcd => k_is); (case hbind => (intro _; exact BindsTo.of_eq rfl)); (case hloc => exact locs rfl)
      (case c2 => exact rfl); (case c3 => exact rfl); (case c4 => exact rfl); (case c5 => decide)
      k_whole
      clear B F X T N hf hk
      intro g' L' h' F' N' B' X' T' hsub hlt hsz
      (try dsimp only)
      (try k_fold)
      k_steps
      exact hret _ _ _ (kE [] (by intro p hp; cases hp)) ⟨0, rfl⟩
    · intro dp un gd env outer A₀ base h₀ L m mean mg mb s Q E B F X T N hf hk hd hu hret
      refine' enter_def (binds := [(Str.ofString "one", Value.none), (Str.ofString "other", Value.bytes b.toArray u)]) ?B ?F ?X ?T ?N ?f ?k ?room ?ho ?hcd ?hbind ?hloc ?_ ?c2 ?c3 ?c4 ?c5
      (case B => exact B); (case F => exact F); (case X => exact X); (case T => exact T); (case N => exact N); (case f => exact hf); (case k => exact hk)
      (case room => walk_at "lim")
      (case ho => k_is); (case hcd => k_is); (case hbind => (intro _; exact BindsTo.of_eq rfl)); (case hloc => exact locs rfl)
      (case c2 => exact rfl); (case c3 => exact rfl); (case c4 => exact rfl); (case c5 => decide)
      k_whole
      clear B F X T N hf hk
      intro g' L' h' F' N' B' X' T' hsub hlt hsz
      (try dsimp only)
      (try k_fold)
      k_steps
      exact hret _ _ _ (kE [] (by intro p hp; cases hp)) ⟨0, rfl⟩
  · rcases p with _ | b
    · intro dp un gd env outer A₀ base h₀ L m mean mg mb s Q E B F X T N hf hk hd hu hret
      refine' enter_def (binds := [(Str.ofString "one", Value.bytes a.toArray t), (Str.ofString "other", Value.none)]) ?B ?F ?X ?T ?N ?f ?k ?room ?ho ?hcd ?hbind ?hloc ?_ ?c2 ?c3 ?c4 ?c5
      (case B => exact B); (case F => exact F); (case X => exact X); (case T => exact T); (case N => exact N); (case f => exact hf); (case k => exact hk)
      (case room => walk_at "lim")
      (case ho => k_is); (case hcd => k_is); (case hbind => (intro _; exact BindsTo.of_eq rfl)); (case hloc => exact locs rfl)
      (case c2 => exact rfl); (case c3 => exact rfl); (case c4 => exact rfl); (case c5 => decide)
      k_whole
      clear B F X T N hf hk
      intro g' L' h' F' N' B' X' T' hsub hlt hsz
      (try dsimp only)
      (try k_fold)
      k_steps
      exact hret _ _ _ (kE [] (by intro p hp; cases hp)) ⟨0, rfl⟩
    · have ha : a.length ≤ 100000 := ho a rfl
      have hb : b.length ≤ 100000 := hp b rfl
      intro dp un gd env outer A₀ base h₀ L m mean mg mb s Q E B F X T N hf hk hd hu hret
      refine' enter_def (binds := [(Str.ofString "one", Value.bytes a.toArray t), (Str.ofString "other", Value.bytes b.toArray u)]) ?B ?F ?X ?T ?N ?f ?k ?room ?ho ?hcd ?hbind ?hloc ?_ ?c2 ?c3 ?c4 ?c5
      (case B => exact B); (case F => exact F); (case X => exact X); (case T => exact T); (case N => exact N); (case f => exact hf); (case k => exact hk)
      (case room => walk_at "lim")
      (case ho => k_is); (case hcd => k_is); (case hbind => (intro _; exact BindsTo.of_eq rfl)); (case hloc => exact locs rfl)
      (case c2 => exact rfl); (case c3 => exact rfl); (case c4 => exact rfl); (case c5 => decide)
      k_whole
      clear B F X T N hf hk
      intro g' L' h' F' N' B' X' T' hsub hlt hsz
      (try dsimp only)
      (try k_fold)
      k_steps
      exact hret _ _ _ (kE [] (by intro p hp; cases hp)) ⟨_, by simp only [oV, joinF, List.append_toArray]; rfl⟩
theorem does_repeated (w : World) (o : Option (List UInt8)) (n : Int) (t u : Tok) (ho : ∀ b, o = some b → b ≠ [] ∧ b.length ≤ 16) (h0 : 0 ≤ n) (h1 : n ≤ 100000) : Does w 444 1 8 [oV o t, .int n u] [] [] (fun _ v _ => ∃ t', v = oV (repF o n) t') := by
  rcases o with _ | b
  · intro dp un gd env outer A₀ base h₀ L m mean mg mb s Q E B F X T N hf hk hd hu hret
    refine' enter_def (binds := [(Str.ofString "octets", Value.none), (Str.ofString "many", Value.int n u)]) ?B ?F ?X ?T ?N ?f ?k ?room ?ho ?hcd ?hbind ?hloc ?_ ?c2 ?c3 ?c4 ?c5
    (case B => exact B); (case F => exact F); (case X => exact X); (case T => exact T); (case N => exact N); (case f => exact hf); (case k => exact hk)
    (case room => walk_at "lim")
    (case ho => k_is); (case hcd => k_is); (case hbind => (intro _; exact BindsTo.of_eq rfl)); (case hloc => exact locs rfl)
    (case c2 => exact rfl); (case c3 => exact rfl); (case c4 => exact rfl); (case c5 => decide)
    k_whole
    clear B F X T N hf hk
    intro g' L' h' F' N' B' X' T' hsub hlt hsz
    (try dsimp only)
    (try k_fold)
    k_steps
    exact hret _ _ _ (kE [] (by intro p hp; cases hp)) ⟨0, rfl⟩
  · obtain ⟨hb0, hb⟩ := ho b rfl
    intro dp un gd env outer A₀ base h₀ L m mean mg mb s Q E B F X T N hf hk hd hu hret
    refine' enter_def (binds := [(Str.ofString "octets", Value.bytes b.toArray t), (Str.ofString "many", Value.int n u)]) ?B ?F ?X ?T ?N ?f ?k ?room ?ho ?hcd ?hbind ?hloc ?_ ?c2 ?c3 ?c4 ?c5
    (case B => exact B); (case F => exact F); (case X => exact X); (case T => exact T); (case N => exact N); (case f => exact hf); (case k => exact hk)
    (case room => walk_at "lim")
    (case ho => k_is); (case hcd => k_is); (case hbind => (intro _; exact BindsTo.of_eq rfl)); (case hloc => exact locs rfl)
    (case c2 => exact rfl); (case c3 => exact rfl); (case c4 => exact rfl); (case c5 => decide)
    k_whole
    clear B F X T N hf hk
    intro g' L' h' F' N' B' X' T' hsub hlt hsz
    (try dsimp only)
    (try k_fold)
    k_steps
    exact hret _ _ _ (kE [] (by intro p hp; cases hp)) ⟨_, rfl⟩

/-! PQC8 -/
abbrev pairO (x : Int × Int) (t u : Tok) : Obj := tupOf [.int x.1 t, .int x.2 u]
def ltP (x y : Int × Int) : Bool := if x.1 = y.1 then decide (x.2 < y.2) else decide (x.1 < y.1)
section
variable {w : World} {A : Around} {E : Value → Shared → Prop} {s : Shared} {x y : Int × Int} {a b : Addr} {t u t' u' : Tok}
theorem pair_lt_tree {P : Fin → Shared → Prop} (ha : s.heap.get? a = some (pairO x t u)) (hb : s.heap.get? b = some (pairO y t' u')) (h : P (.done (.ret (.bool (ltP x y)))) s) :
    wpAny (model pw w) A (Builtin.«tuple.__lt__» ⟨[.ref a, .ref b], []⟩) P E s := by
  have hTb : s.TypeIs (.ref b) "tuple" := ⟨_, hb, rfl⟩
  show wpAny _ _ (isInstance (.ref b) (.type "tuple") >>= _) _ _ s
  refine wpAny_bind (wpAny_isInstance hTb isSubtype_tuple_tuple ?_)
  simp only [Bool.not_true, Bool.false_eq_true, if_false]
  refine wpAny_bind (wpAny_tupleItemsOf ha rfl ?_)
  refine wpAny_bind (wpAny_tupleItemsOf hb rfl ?_)
  refine wpAny_bind ?_
  simp only [List.zip_cons_cons, List.zip_nil_right, List.forIn_cons, List.forIn_nil]
  refine wpAny_bind (wpAny_bind (wpAny_eqBool_int ?_))
  by_cases h1 : x.1 = y.1
  · have e1 : (x.1 == y.1) = true := by simp [h1]
    rw [e1]
    simp only [Bool.not_true, Bool.false_eq_true, if_false]
    refine wpAny_pure ?_
    refine wpAny_bind (wpAny_bind (wpAny_eqBool_int ?_))
    unfold ltP at h
    rw [if_pos h1] at h
    by_cases h2 : x.2 = y.2
    · have e2 : (x.2 == y.2) = true := by simp [h2]
      rw [e2]
      simp only [Bool.not_true, Bool.false_eq_true, if_false]
      refine wpAny_pure (wpAny_pure ?_)
      have e3 : decide (x.2 < y.2) = false := decide_eq_false (by omega)
      rw [e3] at h
      exact wpAny_pure h
    · have e2 : (x.2 == y.2) = false := by simp [h2]
      rw [e2]
      simp only [Bool.not_false, if_true]
      refine wpAny_bind (wpAny_rule (wpAny_bind (wpAny_lt_int ?_)))
      exact wpAny_bind (wpAny_pure (wpAny_pure (wpAny_pure (wpAny_pure h))))
  · have e1 : (x.1 == y.1) = false := by simp [h1]
    rw [e1]
    simp only [Bool.not_false, if_true]
    unfold ltP at h
    rw [if_neg h1] at h
    refine wpAny_bind (wpAny_rule (wpAny_bind (wpAny_lt_int ?_)))
    exact wpAny_bind (wpAny_pure (wpAny_pure (wpAny_pure (wpAny_pure h))))
theorem pair_lt {Q : Value → Shared → Prop} {h₀ : Heap} {L : Addr} {news : List (Addr × Obj)} (N : News h₀ L s.heap news) (ha : (a, pairO x t u) ∈ news) (hb : (b, pairO y t' u') ∈ news) (hu : A.units < cLine) (h : Q (.bool (ltP x y)) s) : wpAny (model pw w) A (compareOp .Lt (.ref a) (.ref b)) Q E s := by
  show wpAny _ _ (richCompare .Lt (.ref a) (.ref b)) Q E s
  have hTa : s.TypeIs (.ref a) "tuple" := ⟨_, (N _ ha).1, rfl⟩
  exact wpAny_richCompare_same_room (op := .Lt) hTa ⟨_, (N _ hb).1, rfl⟩ F.slot_tuple_lt
    (wpAny_call_entry F.slot_tuple_lt hTa F.entry_tuple_lt (pair_lt_tree (N _ ha).1 (N _ hb).1 ⟨_, rfl, (fun e => nomatch e), h⟩) (F.args_tuple_lt_2 _ _)) hu
end
/-! the cheapest of several -/
inductive AreO : List Value → List (Option (List UInt8)) → Prop
  | nil : AreO [] []
  | cons {vs os} (o : Option (List UInt8)) (t : Tok) : AreO vs os → AreO (oV o t :: vs) (o :: os)
theorem AreO.get {vs : List Value} {os : List (Option (List UInt8))} (x : AreO vs os) : ∀ {i : Nat} {v : Value}, vs[i]? = some v → ∃ o t, v = oV o t ∧ os[i]? = some o := by
  induction x with
  | nil => intro i v h; simp at h
  | cons o t _ ih =>
    intro i v h
    cases i with
    | zero => simp at h; exact ⟨o, t, h.symm, by simp⟩
    | succ i => simp at h; obtain ⟨o', t', a, b⟩ := ih h; exact ⟨o', t', a, by simpa using b⟩
theorem AreO.len {vs : List Value} {os : List (Option (List UInt8))} (x : AreO vs os) : vs.length = os.length := by
  induction x with
  | nil => rfl
  | cons _ _ _ ih => simp [ih]
def pickF (f o : Option (List UInt8)) : Option (List UInt8) := if ltP (costF o) (costF f) then o else f
def cheapF (os : List (Option (List UInt8))) : Option (List UInt8) := os.foldl pickF none
theorem cheapF_take {os : List (Option (List UInt8))} {i : Nat} {o : Option (List UInt8)} (h : os[i]? = some o) : cheapF (os.take (i + 1)) = pickF (cheapF (os.take i)) o := by
  unfold cheapF
  rw [List.take_add_one, h]
  simp
theorem fits_cheap {n : Nat} : ∀ (os : List (Option (List UInt8))) (f : Option (List UInt8)), Fits f n → (∀ o ∈ os, Fits o n) → Fits (os.foldl pickF f) n
  | [], f, hf, _ => hf
  | o :: os, f, hf, ho => fits_cheap os _ (by unfold pickF; split; exact ho o (.head _); exact hf) fun p hp => ho p (.tail _ hp)
theorem fits_cheapF {n : Nat} {os : List (Option (List UInt8))} (ho : ∀ o ∈ os, Fits o n) : Fits (cheapF os) n := fits_cheap os none (by intro b h; cases h) ho

/-! PQC9 -/


local macro_rules | `(tactic| walk_at "compareOp Lt ref ref") => `(tactic| k_extra "m:compareOp Lt ref ref")
theorem regXmac16 : True := by
  k_with "m:call ref" => ((k_here; (with_reducible show wpAny _ _ (call (Value.ref 423) _) _ _ _); k_dflt (refine' Does.useM (does_cost _ _ _ ?zzho) ?zzB ?zzF ?zzX ?zzT ?zzN ?zzhs ?zzhm ?zzf ?zzk ?zzhd ?zzhu ?_; (walk_at "end use0"); (case zzho => assumption); k_whole; intro v' h' k' F' x' lt' P'; (((first | refine Exists.elim P' ?_ | refine And.elim ?_ P'); clear P'; intro a' P'); ((first | refine Exists.elim P' ?_ | refine And.elim ?_ P'); clear P'; intro t1' P'); ((first | refine Exists.elim P' ?_ | refine And.elim ?_ P'); clear P'; intro t2' P'); ((first | refine Exists.elim P' ?_ | refine And.elim ?_ P'); clear P'; intro e0' P'); subst e0'; (revert P'; intro n')); refine' led0 ?zzN x' ?_; (case zzN => k_asm); intro N1'; refine' ledN n' ?zzF ?zzN0 N1' ?_; (case zzF => k_asm); (case zzN0 => k_asm); intro l0' N2'; clear N1' x' lt' n'; (try k_sweep))))
  k_with "m:compareOp Lt ref ref" => ((k_here; k_dflt (refine' pair_lt ?zzN ?zzha ?zzhb ?zzhu ?_; (case zzN => k_asm); (case zzha => k_mem); (case zzhb => k_mem); (case zzhu => k_room))))
  trivial

abbrev chM (wl : Addr) (ov : Option Value) (f : Option (List UInt8)) (t : Tok) : Str → Option Value := fun y =>
  if y = Str.ofString "octets" then ov else if y = Str.ofString "found" then some (oV f t) else if y = Str.ofString "ways" then some (.ref wl) else none
theorem does_cheapest (w : World) (wl : Addr) (vs : List Value) (n : Nat) {os : List (Option (List UInt8))} (ho : AreO vs os) (hz : ∀ o ∈ os, Fits o 100000) :
    DoesG w 430 20 60 [.ref wl] [(wl, listOf vs.toArray n)] [] (fun _ v _ => ∃ t', v = oV (cheapF os) t') := by
  intro dp un gd env outer A₀ base h₀ L m mean mg mb s Q B F X T N hf hk hd hu hret
  refine' enter_G (binds := [(Str.ofString "ways", .ref wl)]) ?B ?F ?X ?T ?N ?f ?k ?room ?ho ?hcd ?hbind ?hloc ?_ ?c2 ?c3 ?c4 ?c5
  (case B => exact B); (case F => exact F); (case X => exact X); (case T => exact T); (case N => exact N); (case f => exact hf); (case k => exact hk)
  (case room => walk_at "lim")
  (case ho => k_is); (case hcd => k_is); (case hbind => (intro _; exact BindsTo.of_eq rfl)); (case hloc => exact locs rfl)
  (case c2 => exact rfl); (case c3 => exact rfl); (case c4 => exact rfl); (case c5 => decide)
  k_whole
  clear B F X T N hf hk
  intro g' L' h' F' N' B' X' T' hsub hlt hsz
  (try dsimp only)
  (try k_fold)
  k_steps
  rename Fr _ _ _ _ => F0
  rename News _ _ _ _ => N0
  refine' iter_listJ (vs := vs) (n := n) rfl (fun i m' n' => n' = [(wl, listOf vs.toArray n)] ∧ ∃ ov t, ∀ y, m' y = chM wl ov (cheapF (os.take i)) t y) F0 N0 ?_ ?_ ?_ ?_ ?_ ?_
  · refine' ⟨rfl, none, 0, fun y => ?_⟩
    simp only [chM, List.take_zero, List.lookup, List.reverse_cons, List.reverse_nil, List.nil_append]
    by_cases h1 : y = Str.ofString "octets"
    · subst h1; rfl
    · by_cases h2 : y = Str.ofString "found"
      · subst h2; rfl
      · by_cases h3 : y = Str.ofString "ways"
        · subst h3; rfl
        · have : (y == Str.ofString "ways") = false := by simpa using h3
          simp [h1, h2, h3, this]
  · rintro i m' n' ⟨rfl, -⟩; exact .head _
  · rintro i m' n' ⟨rfl, -⟩ p hp; rw [List.mem_singleton.mp hp]; rfl
  · rintro it ito i v m' n' h tk hv ⟨rfl, ov, t, hm⟩ hit F1 N1
    obtain ⟨o, to, rfl, hoi⟩ := ho.get hv
    have hz1 : Fits o 100000 := hz o (List.mem_of_getElem? hoi)
    have hz2 : Fits (cheapF (os.take i)) 100000 := fits_cheapF fun p hp => hz p (List.mem_of_mem_take hp)
    have hc := cheapF_take hoi
    replace F1 := frCongr F1 hm
    clear F0 N0 hm
    k_steps
    · rename ltP _ _ = true => hlp
      rename Fr _ _ _ _ => F2
      rename News _ _ _ _ => N2
      refine' EndL.intro _ _ _ _ rfl F2 (fun p hp => N2 p (.tail _ (.tail _ hp))) ⟨rfl, some (oV o to), to, fun y => ?_⟩
      rw [hc, pickF, if_pos hlp]
      simp only [chM]
      by_cases h1 : y = Str.ofString "octets"
      · subst h1; rfl
      · by_cases h2 : y = Str.ofString "found"
        · subst h2; rfl
        · simp only [h1, h2, if_false]
    · rename ltP _ _ = false => hlp
      rename Fr _ _ _ _ => F2
      rename News _ _ _ _ => N2
      refine' EndL.intro _ _ _ _ rfl F2 (fun p hp => N2 p (.tail _ (.tail _ hp))) ⟨rfl, some (oV o to), t, fun y => ?_⟩
      rw [hc, pickF, if_neg (by rw [hlp]; exact Bool.false_ne_true)]
      simp only [chM]
      by_cases h1 : y = Str.ofString "octets"
      · subst h1; rfl
      · simp only [h1, if_false]
  · rintro m' n' h tk ⟨rfl, ov, t, hm⟩ F1 N1
    replace F1 := frCongr F1 hm
    rw [ho.len, List.take_length] at F1
    clear F0 N0 hm
    k_steps
    exact hret _ _ _ (kE [] (by walk_at "end mods")) ⟨_, rfl⟩
  · intro _ _; rfl

/-! PQD1 -/
theorem keptOff {w : World} {l : Strs} {kd : Addr} {K₀ K : List (Addr × Obj)} {h : Heap} {a : Addr} {q : Obj} {h₀ : Heap} {L : Addr} {news : List (Addr × Obj)} (x : KC w l kd K₀ K) (N : News h₀ L h news) (hm : (a, q) ∈ news) (hs : ∀ p ∈ K, p ∈ news) (hc : isKept q.cls = false) : ∀ p ∈ K, p.1 ≠ a :=
  kept_off x.1 N hm hs hc
theorem kept_it {w : World} {l : Strs} {kd : Addr} {K : List (Addr × Obj)} (x : Kept w l kd K) : ∀ p ∈ K, isIt p.2.cls = false := fun p hp => by
  obtain ⟨o, es, ep, xs, x⟩ := x
  have := x.cls p hp
  unfold isKept at this
  split at this
  · rename_i heq
    simp only [Bool.or_eq_true, beq_iff_eq] at this
    rw [heq]
    rcases this with rfl | rfl <;> rfl
  · cases this
theorem isIt_kept {c : Value} (h : isIt c = true) : isKept c = false := by
  unfold isIt at h
  unfold isKept
  split at h
  · simp only [Bool.or_eq_true, beq_iff_eq] at h
    rcases h with rfl | rfl <;> rfl
  · cases h
theorem append_T {w : World} {A : Around} {E : Value → Shared → Prop} {s : Shared} {h₀ : Heap} {L D : Addr} {m : Str → Option Value} {news news' : List (Addr × Obj)} {vs : List Value} {n : Nat} {x : Value} {Q : Value → Shared → Prop} (F : Fr h₀ L s.heap m) (N : News h₀ L s.heap news) (U : Upd D (listOf vs.toArray n) (listOf (vs ++ [x]).toArray (n + 1)) news news')
    (h : ∀ h', Fr h₀ L h' m → News h₀ L h' news' → Q .none { s with heap := h' }) (hz : vs.length ≤ 1000) : wpAny (model pw w) A (call (.builtin "list.append") [.ref D, x]) Q E s :=
  append_K F N (by rw [List.push_toArray]; exact U) h (by simp only [List.size_toArray, sizeLine]; omega)
theorem it_off {h₀ h : Heap} {L it a : Addr} {ito q : Obj} {n' : List (Addr × Obj)} (N : News h₀ L h ((it, ito) :: n')) (hit : isIt ito.cls = true) (hm : (a, q) ∈ n') (hq : isIt q.cls = false) : Off it a := by
  rintro rfl
  have e1 := (N _ (.head _)).1
  rw [(N _ (.tail _ hm)).1] at e1
  have e2 : q = ito := Option.some.inj e1
  rw [e2, hit] at hq
  cases hq
theorem AreO.snoc {vs : List Value} {os : List (Option (List UInt8))} {o : Option (List UInt8)} {t : Tok} (x : AreO vs os) : AreO (vs ++ [oV o t]) (os ++ [o]) := by
  induction x with
  | nil => exact .cons _ _ .nil
  | cons o' t' _ ih => exact .cons _ _ ih
theorem fits_noneE {o : Option (List UInt8)} {m : Int} {n : Nat} (h : o = none) : Fits (repF o m) n := by subst h; intro b e; cases e
theorem cheapF_none {os : List (Option (List UInt8))} (h : ∀ o ∈ os, o = none) : cheapF os = none := by
  unfold cheapF
  suffices ∀ f : Option (List UInt8), f = none → os.foldl pickF f = none from this none rfl
  induction os with
  | nil => exact fun f hf => hf
  | cons o os ih =>
    intro f hf
    refine ih (fun p hp => h p (.tail _ hp)) _ ?_
    unfold pickF
    split
    · exact h o (.head _)
    · exact hf
theorem told_absent {l : Strs} (G : GoodS l) {k : List UInt8} (hk : k ∉ madeL.map (·.1)) (ns : List Int) : toldF l k ns = none := by
  unfold toldF
  cases e : l k with
  | none => rfl
  | some o => exact absurd (List.mem_map.mpr ⟨_, G _ _ e, rfl⟩) hk
theorem fits_none {n : Nat} : Fits none n := by intro b h; cases h
theorem good_plain {l : Strs} (G : GoodS l) {k : List UInt8} (hk : k ∈ plainW) {b : List UInt8} (e : l k = some b) : b ≠ [] ∧ b.length ≤ 16 ∧ (36 : UInt8) ∉ b := by
  have h := G _ _ e
  have : ∀ p ∈ madeL, p.2 ≠ [] ∧ p.2.length ≤ 16 ∧ (36 : UInt8) ∉ p.2 := by decide
  exact this _ h
theorem ok_plain {l : Strs} (G : GoodS l) {k : List UInt8} (hk : k ∈ plainW) : FillOk [] (l k) := fun b e => by
  have := good_plain G hk e
  exact ⟨by omega, this.2.2⟩
theorem made_param : ∀ p ∈ madeL, p.1 ∈ paramW → p.2 = oB ∨ p.2 = oA 88 ∨ p.2 = oA 67 ∨ p.2 = oA 68 := by decide
theorem ok_param {l : Strs} (G : GoodS l) {k : List UInt8} (hk : k ∈ paramW) (n : Int) : FillOk [n] (l k) := fun b e => by
  rcases made_param _ (G _ _ e) hk with h | h | h | h
  · exact .inl h
  · exact .inr ⟨88, h, by decide, by decide⟩
  · exact .inr ⟨67, h, by decide, by decide⟩
  · exact .inr ⟨68, h, by decide, by decide⟩
theorem asked_plain {k : List UInt8} (hk : k ∈ plainW) : (k, []) ∈ askedK := List.mem_append.mpr (.inl (List.mem_map.mpr ⟨k, hk, rfl⟩))
theorem asked_param {k : List UInt8} {n : Int} (hk : k ∈ paramW) (h0 : 0 ≤ n) (h1 : n < 98) : (k, [n]) ∈ askedK :=
  List.mem_append.mpr (.inr (List.mem_flatMap.mpr ⟨k, hk, List.mem_map.mpr ⟨n.toNat, List.mem_range.mpr (by omega), by simp; omega⟩⟩))
theorem fits_told {l : Strs} (G : GoodS l) (k : List UInt8) (ns : List Int) : Fits (toldF l k ns) 1000 := by
  intro b e
  unfold toldF at e
  cases el : l k with
  | none => rw [el] at e; cases e
  | some o =>
    rw [el] at e
    cases ns with
    | nil =>
      have h : o = b := Option.some.inj e
      subst h
      have : ∀ p ∈ madeL, p.2.length ≤ 1000 := by decide
      exact this _ (G _ _ el)
    | cons n r =>
      have h : fillF o n = b := Option.some.inj e
      subst h
      unfold fillF
      have h1 := figs_len n
      have h2 := figs_len (n + 1)
      split <;> simp <;> omega
theorem fits_rep {o : Option (List UInt8)} {n : Int} (ho : ∀ b, o = some b → b ≠ [] ∧ b.length ≤ 16) (h0 : 0 ≤ n) (h1 : n < 98) : Fits (repF o n) 2000 := by
  intro b e
  unfold repF at e
  obtain ⟨a, ha, rfl⟩ := Option.map_eq_some_iff.mp e
  have := (ho a ha).2
  have hn : n.toNat ≤ 98 := by omega
  have : ∀ m : Nat, ((List.replicate m a).flatten).length = m * a.length := by
    intro m; induction m with
    | zero => simp
    | succ m ih => rw [List.replicate_succ, List.flatten_cons, List.length_append, ih, Nat.succ_mul]; omega
  rw [this]
  exact Nat.le_trans (Nat.mul_le_mul hn ‹a.length ≤ 16›) (by decide)
theorem told_plain {l : Strs} (G : GoodS l) {k : List UInt8} (hk : k ∈ plainW) : ∀ b, toldF l k [] = some b → b ≠ [] ∧ b.length ≤ 16 := by
  intro b e
  unfold toldF at e
  cases el : l k with
  | none => rw [el] at e; cases e
  | some o =>
    rw [el] at e
    have h : o = b := Option.some.inj e
    subst h
    have := good_plain G hk el
    exact ⟨this.1, this.2.1⟩
theorem Fits.mono {o : Option (List UInt8)} {n m : Nat} (h : Fits o n) (hm : n ≤ m) : Fits o m := fun b e => Nat.le_trans (h b e) hm
def stepF (l : Strs) (many : Int) (k1 kn : List UInt8) : Option (List UInt8) := if many = 0 then some [] else cheapF [repF (toldF l k1 []) many, toldF l kn [many]]
theorem fits_step {l : Strs} (G : GoodS l) {k1 kn : List UInt8} (h1 : k1 ∈ plainW) {n : Int} (h0 : 0 ≤ n) (hn : n < 98) : Fits (stepF l n k1 kn) 2000 := by
  unfold stepF
  split
  · intro b e; cases e; simp
  · refine fits_cheapF fun o ho => ?_
    rcases List.mem_cons.mp ho with rfl | ho
    · exact fits_rep (told_plain G h1) h0 hn
    · rw [List.mem_singleton.mp ho]; exact (fits_told G _ _).mono (by decide)
def sideF (l : Strs) (b e : Int) : Option (List UInt8) := if e ≥ b then stepF l (e - b) sCuf1 sCuf else stepF l (b - e) sCub1 sCub
theorem fits_side {l : Strs} (G : GoodS l) {b e : Int} (hb0 : 0 ≤ b) (hb1 : b < 98) (he0 : 0 ≤ e) (he1 : e < 98) : Fits (sideF l b e) 100000 := by
  unfold sideF
  split
  · exact (fits_step G (by decide) (by omega) (by omega)).mono (by decide)
  · exact (fits_step G (by decide) (by omega) (by omega)).mono (by decide)

/-! PQD2 -/


theorem regXmac18 : True := by
  k_with "m:k_inst" => ((refine' InstAt.fr ?zzhI ?zzhF; (case zzhI => assumption); (case zzhF => k_asm)))
  k_with "end tail" => ((intro p hp; (repeat (first | exact hp | exact List.mem_append_right _ hp | refine List.Mem.tail _ ?_))))
  trivial


theorem regXmac17 : True := by
  k_with "end spl" => ((repeat (first | exact Spl.nil | apply Spl.cons3 | (apply Spl.app; (with_reducible assumption)) | (apply Spl.cons1; (first | exact rfl | assumption)) | (apply Spl.cons2; (k_ne)))))
  k_with "end fits" => (first | assumption | exact List.forall_mem_nil _ | (refine' List.forall_mem_cons.mpr ⟨?zza, ?zzb⟩; (case zza => first | assumption | exact fits_none); (case zzb => walk_at "end fits")))
  k_with "end are" => (first | assumption | ((try dsimp only [List.cons_append, List.nil_append]); (repeat (first | exact AreO.nil | apply AreO.cons | apply (AreO.cons none 0)))))
  k_with "noinline" => ((with_reducible show wG _ _ (call (Value.ref 388) _) _ _))
  k_with "wG" => (((with_reducible show wG _ _ (call (Value.ref 388) [_, _]) _ _); (rename KC _ _ _ _ _ => kh0); k_dflt (
  refine' DoesC.use (does_told0 _ _ _ _ _ _ ?zzha ?zzhl) ?zzKH ?zzCA ?zzB ?zzF ?zzX ?zzT ?zzN ?zzS ?zzhs ?zzf ?zzk ?zzhd ?zzhu ?_; (case zzKH => exact kh0); (case zzCA => assumption); (case zzB => k_asm); (case zzF => k_asm); (case zzX => k_asm); (case zzT => k_asm); (case zzN => k_asm); (case zzS => walk_at "end spl"); (case zzhs => (intro p hp; cases hp)); (case zzf => exact rfl); (case zzk => exact rfl); (case zzhd => walk_at "lim"); (case zzhu => walk_at "lim"); (case zzha => first | assumption | exact asked_plain (by decide)); (case zzhl => first | assumption | exact ok_plain (by assumption) (by decide)); k_whole; intro v' h' tk' K' F' KH' N' x' P'; (((first | refine Exists.elim P' ?_ | refine And.elim ?_ P'); clear P'; intro t' P'); subst P'); (try dsimp only at N'); clear x' kh0; (try k_sweep))))
  k_with "wG" => (((with_reducible show wG _ _ (call (Value.ref 388) [_, _, _]) _ _); (rename KC _ _ _ _ _ => kh0); k_dflt (
  refine' DoesC.use (does_told1 _ _ _ _ _ _ _ _ _ ?zzha ?zzh0 ?zzh1 ?zzhl) ?zzKH ?zzCA ?zzB ?zzF ?zzX ?zzT ?zzN ?zzS ?zzhs ?zzf ?zzk ?zzhd ?zzhu ?_; (case zzKH => exact kh0); (case zzCA => assumption); (case zzB => k_asm); (case zzF => k_asm); (case zzX => k_asm); (case zzT => k_asm); (case zzN => k_asm); (case zzS => walk_at "end spl"); (case zzhs => (intro p hp; rw [List.mem_singleton.mp hp]; k_mem)); (case zzf => exact rfl); (case zzk => exact rfl); (case zzhd => walk_at "lim"); (case zzhu => walk_at "lim"); (case zzha => first | assumption | exact asked_param (by decide) (by omega) (by omega)); (case zzh0 => omega); (case zzh1 => omega); (case zzhl => first | assumption | exact ok_param (by assumption) (by decide) _); k_whole; intro v' h' tk' K' F' KH' N' x' P'; (((first | refine Exists.elim P' ?_ | refine And.elim ?_ P'); clear P'; intro t' P'); subst P'); (try dsimp only at N'); clear x' kh0; (try k_sweep))))
  k_with "noinline" => ((with_reducible show wG _ _ (call (Value.ref 444) _) _ _))
  k_with "wG" => (((with_reducible show wG _ _ (call (Value.ref 444) _) _ _); k_dflt (
  refine' DoesG.useM (Does.toG (does_repeated _ _ _ _ _ ?zzho ?zzh0 ?zzh1)) ?zzB ?zzF ?zzX ?zzT ?zzN ?zzhs ?zzhm ?zzf ?zzk ?zzhd ?zzhu ?_; (walk_at "end use0"); (case zzho => first | assumption | exact told_plain (by assumption) (by decide)); (case zzh0 => omega); (case zzh1 => omega); k_whole; intro v' h' k' F' x' lt' P'; (((first | refine Exists.elim P' ?_ | refine And.elim ?_ P'); clear P'; intro t' P'); subst P'); refine' led0 ?zzN x' ?_; (case zzN => k_asm); intro N'; clear x' lt'; (try k_sweep))))
  k_with "noinline" => ((with_reducible show wG _ _ (call (Value.ref 430) _) _ _))
  k_with "wG" => (((with_reducible show wG _ _ (call (Value.ref 430) _) _ _); k_dflt (
  refine' DoesG.useM (does_cheapest _ _ _ _ ?zzho ?zzhz) ?zzB ?zzF ?zzX ?zzT ?zzN ?zzhs ?zzhm ?zzf ?zzk ?zzhd ?zzhu ?_; (case zzB => k_asm); (case zzF => k_asm); (case zzX => k_asm); (case zzT => k_asm); (case zzN => k_asm); (case zzhs => (intro p hp; rw [List.mem_singleton.mp hp]; k_mem)); (case zzhm => (intro a ha; cases ha)); (case zzf => exact rfl); (case zzk => exact rfl); (case zzhd => walk_at "lim"); (case zzhu => walk_at "lim"); (case zzho => walk_at "end are"); (case zzhz => walk_at "end fits"); k_whole; intro v' h' k' F' x' lt' P'; (((first | refine Exists.elim P' ?_ | refine And.elim ?_ P'); clear P'; intro t' P'); subst P'); refine' led0 ?zzN x' ?_; (case zzN => k_asm); intro N'; clear x' lt'; (try k_sweep))))
  trivial

theorem does_step (w : World) (l : Strs) (c kd : Addr) (n : Int) (k1 kn : List UInt8) (tn t1 t2 : Tok) (G : GoodS l) (hk1 : k1 ∈ plainW) (hkn : kn ∈ paramW) (h0 : 0 ≤ n) (h1 : n < 98) :
    DoesC w l c kd 451 300 900 [.ref c, .int n tn, .bytes k1.toArray t1, .bytes kn.toArray t2] [] (fun _ v _ => ∃ t', v = oV (stepF l n k1 kn) t') := by
  have ha1 := asked_plain hk1
  have hl1 := ok_plain G hk1
  have ha2 := asked_param hkn h0 h1
  have hl2 := ok_param G hkn n
  have hr := told_plain G hk1
  have hf1 : Fits (repF (toldF l k1 []) n) 100000 := (fits_rep hr h0 h1).mono (by decide)
  have hf2 : Fits (toldF l kn [n]) 100000 := (fits_told G _ _).mono (by decide)
  rcases (by omega : n = 0 ∨ n ≠ 0) with hz | hz
  · subst hz
    intro K dp un gd env outer A₀ base h₀ L m mean mg mb s Q hK CA B F X T N hf hk hd hu hret
    refine' enter_G (binds := [(Str.ofString "caps", .ref c), (Str.ofString "many", .int 0 tn), (Str.ofString "by_one", .bytes k1.toArray t1), (Str.ofString "by_many", .bytes kn.toArray t2)]) ?B ?F ?X ?T ?N ?f ?k ?room ?ho ?hcd ?hbind ?hloc ?_ ?c2 ?c3 ?c4 ?c5
    (case B => exact B); (case F => exact F); (case X => exact X); (case T => exact T); (case N => exact N); (case f => exact hf); (case k => exact hk)
    (case room => walk_at "lim")
    (case ho => k_is); (case hcd => k_is); (case hbind => (intro _; exact BindsTo.of_eq rfl)); (case hloc => exact locs rfl)
    (case c2 => exact rfl); (case c3 => exact rfl); (case c4 => exact rfl); (case c5 => decide)
    k_whole
    clear B F X T N hf hk
    intro g' L' h' F' N' B' X' T' hsub hlt hsz
    (try dsimp only)
    (try k_fold)
    have CG := caps_in CA hsub
    have KH := KC.refl hK
    clear CA
    dsimp only [List.nil_append, List.cons_append] at N' hlt hsub
    k_steps
    exact endC (pre := []) (hret _ _ _) kE (by assumption) hsub (by k_asm) (by walk_at "end tail") (by intro p hp; cases hp) ⟨_, rfl⟩
  · have hz2 : (n == 0) = false := by simpa using hz
    intro K dp un gd env outer A₀ base h₀ L m mean mg mb s Q hK CA B F X T N hf hk hd hu hret
    refine' enter_G (binds := [(Str.ofString "caps", .ref c), (Str.ofString "many", .int n tn), (Str.ofString "by_one", .bytes k1.toArray t1), (Str.ofString "by_many", .bytes kn.toArray t2)]) ?B ?F ?X ?T ?N ?f ?k ?room ?ho ?hcd ?hbind ?hloc ?_ ?c2 ?c3 ?c4 ?c5
    (case B => exact B); (case F => exact F); (case X => exact X); (case T => exact T); (case N => exact N); (case f => exact hf); (case k => exact hk)
    (case room => walk_at "lim")
    (case ho => k_is); (case hcd => k_is); (case hbind => (intro _; exact BindsTo.of_eq rfl)); (case hloc => exact locs rfl)
    (case c2 => exact rfl); (case c3 => exact rfl); (case c4 => exact rfl); (case c5 => decide)
    k_whole
    clear B F X T N hf hk
    intro g' L' h' F' N' B' X' T' hsub hlt hsz
    (try dsimp only)
    (try k_fold)
    have CG := caps_in CA hsub
    have KH := KC.refl hK
    clear CA
    dsimp only [List.nil_append, List.cons_append] at N' hlt hsub
    have CG2 := CG
    obtain ⟨cd, i, id, q1, q2, q3, q4, q5, q6, q7, q8, na, bo, nu, sd, mo, us, CG3⟩ := CG2
    have a1 := CG3.caps
    have a2 := CG3.capsd
    clear CG3
    have I1 := inst_of a1 a2
    clear a1 a2
    k_steps
    exact endC (pre := []) (hret _ _ _) kE (by assumption) hsub (by k_asm) (by walk_at "end tail") (by intro p hp; cases hp) ⟨_, by rw [stepF, if_neg hz]⟩

/-! PQD3 -/





theorem regXmac19 : True := by
  k_with "noinline" => ((with_reducible show wG _ _ (call (Value.ref 451) _) _ _))
  k_with "wG" => (((with_reducible show wG _ _ (call (Value.ref 451) _) _ _); (rename KC _ _ _ _ _ => kh0); k_dflt (
  refine' DoesC.use (does_step _ _ _ _ _ _ _ _ _ _ ?zzG ?zzg1 ?zzgn ?zzh0 ?zzh1) ?zzKH ?zzCA ?zzB ?zzF ?zzX ?zzT ?zzN ?zzS ?zzhs ?zzf ?zzk ?zzhd ?zzhu ?_; (case zzKH => exact kh0); (case zzCA => assumption); (case zzB => k_asm); (case zzF => k_asm); (case zzX => k_asm); (case zzT => k_asm); (case zzN => k_asm); (case zzS => walk_at "end spl"); (case zzhs => (intro p hp; cases hp)); (case zzf => exact rfl); (case zzk => exact rfl); (case zzhd => walk_at "lim"); (case zzhu => walk_at "lim"); (case zzG => assumption); (case zzg1 => decide); (case zzgn => decide); (case zzh0 => omega); (case zzh1 => omega); k_whole; intro v' h' tk' K' F' KH' N' x' P'; (((first | refine Exists.elim P' ?_ | refine And.elim ?_ P'); clear P'; intro t' P'); subst P'); (try dsimp only at N'); clear x' kh0; (try k_sweep))))
  trivial

theorem does_right (w : World) (l : Strs) (c kd : Addr) (n : Int) (tn : Tok) (G : GoodS l) (h0 : 0 ≤ n) (h1 : n < 98) :
    DoesC w l c kd 458 310 920 [.ref c, .int n tn] [] (fun _ v _ => ∃ t', v = oV (stepF l n sCuf1 sCuf) t') := by
  intro K dp un gd env outer A₀ base h₀ L m mean mg mb s Q hK CA B F X T N hf hk hd hu hret
  refine' enter_G (binds := [(Str.ofString "caps", .ref c), (Str.ofString "many", .int n tn)]) ?B ?F ?X ?T ?N ?f ?k ?room ?ho ?hcd ?hbind ?hloc ?_ ?c2 ?c3 ?c4 ?c5
  (case B => exact B); (case F => exact F); (case X => exact X); (case T => exact T); (case N => exact N); (case f => exact hf); (case k => exact hk)
  (case room => walk_at "lim")
  (case ho => k_is); (case hcd => k_is); (case hbind => (intro _; exact BindsTo.of_eq rfl)); (case hloc => exact locs rfl)
  (case c2 => exact rfl); (case c3 => exact rfl); (case c4 => exact rfl); (case c5 => decide)
  k_whole
  clear B F X T N hf hk
  intro g' L' h' F' N' B' X' T' hsub hlt hsz
  (try dsimp only)
  (try k_fold)
  have CG := caps_in CA hsub
  have KH := KC.refl hK
  clear CA
  dsimp only [List.nil_append, List.cons_append] at N' hlt hsub
  k_steps
  exact endC (pre := []) (hret _ _ _) kE (by assumption) hsub (by k_asm) (by walk_at "end tail") (by intro p hp; cases hp) ⟨_, rfl⟩
theorem does_left (w : World) (l : Strs) (c kd : Addr) (n : Int) (tn : Tok) (G : GoodS l) (h0 : 0 ≤ n) (h1 : n < 98) :
    DoesC w l c kd 465 310 920 [.ref c, .int n tn] [] (fun _ v _ => ∃ t', v = oV (stepF l n sCub1 sCub) t') := by
  intro K dp un gd env outer A₀ base h₀ L m mean mg mb s Q hK CA B F X T N hf hk hd hu hret
  refine' enter_G (binds := [(Str.ofString "caps", .ref c), (Str.ofString "many", .int n tn)]) ?B ?F ?X ?T ?N ?f ?k ?room ?ho ?hcd ?hbind ?hloc ?_ ?c2 ?c3 ?c4 ?c5
  (case B => exact B); (case F => exact F); (case X => exact X); (case T => exact T); (case N => exact N); (case f => exact hf); (case k => exact hk)
  (case room => walk_at "lim")
  (case ho => k_is); (case hcd => k_is); (case hbind => (intro _; exact BindsTo.of_eq rfl)); (case hloc => exact locs rfl)
  (case c2 => exact rfl); (case c3 => exact rfl); (case c4 => exact rfl); (case c5 => decide)
  k_whole
  clear B F X T N hf hk
  intro g' L' h' F' N' B' X' T' hsub hlt hsz
  (try dsimp only)
  (try k_fold)
  have CG := caps_in CA hsub
  have KH := KC.refl hK
  clear CA
  dsimp only [List.nil_append, List.cons_append] at N' hlt hsub
  k_steps
  exact endC (pre := []) (hret _ _ _) kE (by assumption) hsub (by k_asm) (by walk_at "end tail") (by intro p hp; cases hp) ⟨_, rfl⟩

/-! PQD4 -/





theorem regXmac20 : True := by
  k_with "noinline" => (first | (with_reducible show wG _ _ (call (Value.ref 458) _) _ _) | (with_reducible show wG _ _ (call (Value.ref 465) _) _ _))
  k_with "wG" => (((rename KC _ _ _ _ _ => kh0); k_dflt (
  first
  | ((with_reducible show wG _ _ (call (Value.ref 458) _) _ _); refine' DoesC.use (does_right _ _ _ _ _ _ ?zzG ?zzh0 ?zzh1) ?zzKH ?zzCA ?zzB ?zzF ?zzX ?zzT ?zzN ?zzS ?zzhs ?zzf ?zzk ?zzhd ?zzhu ?_)
  | ((with_reducible show wG _ _ (call (Value.ref 465) _) _ _); refine' DoesC.use (does_left _ _ _ _ _ _ ?zzG ?zzh0 ?zzh1) ?zzKH ?zzCA ?zzB ?zzF ?zzX ?zzT ?zzN ?zzS ?zzhs ?zzf ?zzk ?zzhd ?zzhu ?_)); (case zzKH => exact kh0); (case zzCA => assumption); (case zzB => k_asm); (case zzF => k_asm); (case zzX => k_asm); (case zzT => k_asm); (case zzN => k_asm); (case zzS => walk_at "end spl"); (case zzhs => (intro p hp; cases hp)); (case zzf => exact rfl); (case zzk => exact rfl); (case zzhd => walk_at "lim"); (case zzhu => walk_at "lim"); (case zzG => assumption); (case zzh0 => omega); (case zzh1 => omega); k_whole; intro v' h' tk' K' F' KH' N' x' P'; (((first | refine Exists.elim P' ?_ | refine And.elim ?_ P'); clear P'; intro t' P'); subst P'); (try dsimp only at N'); clear x' kh0; (try k_sweep)))
  trivial

theorem does_side (w : World) (l : Strs) (c kd : Addr) (b e : Int) (tb te : Tok) (G : GoodS l) (hb0 : 0 ≤ b) (hb1 : b < 98) (he0 : 0 ≤ e) (he1 : e < 98) :
    DoesC w l c kd 472 330 950 [.ref c, .int b tb, .int e te] [] (fun _ v _ => ∃ t', v = oV (sideF l b e) t') := by
  rcases (by omega : e ≥ b ∨ ¬ e ≥ b) with hz | hz
  · intro K dp un gd env outer A₀ base h₀ L m mean mg mb s Q hK CA B F X T N hf hk hd hu hret
    refine' enter_G (binds := [(Str.ofString "caps", .ref c), (Str.ofString "begin", .int b tb), (Str.ofString "end", .int e te)]) ?B ?F ?X ?T ?N ?f ?k ?room ?ho ?hcd ?hbind ?hloc ?_ ?c2 ?c3 ?c4 ?c5
    (case B => exact B); (case F => exact F); (case X => exact X); (case T => exact T); (case N => exact N); (case f => exact hf); (case k => exact hk)
    (case room => walk_at "lim")
    (case ho => k_is); (case hcd => k_is); (case hbind => (intro _; exact BindsTo.of_eq rfl)); (case hloc => exact locs rfl)
    (case c2 => exact rfl); (case c3 => exact rfl); (case c4 => exact rfl); (case c5 => decide)
    k_whole
    clear B F X T N hf hk
    intro g' L' h' F' N' B' X' T' hsub hlt hsz
    (try dsimp only)
    (try k_fold)
    have CG := caps_in CA hsub
    have KH := KC.refl hK
    clear CA
    dsimp only [List.nil_append, List.cons_append] at N' hlt hsub
    k_steps
    exact endC (pre := []) (hret _ _ _) kE (by assumption) hsub (by k_asm) (by walk_at "end tail") (by intro p hp; cases hp) ⟨_, by rw [sideF, if_pos hz]⟩
  · intro K dp un gd env outer A₀ base h₀ L m mean mg mb s Q hK CA B F X T N hf hk hd hu hret
    refine' enter_G (binds := [(Str.ofString "caps", .ref c), (Str.ofString "begin", .int b tb), (Str.ofString "end", .int e te)]) ?B ?F ?X ?T ?N ?f ?k ?room ?ho ?hcd ?hbind ?hloc ?_ ?c2 ?c3 ?c4 ?c5
    (case B => exact B); (case F => exact F); (case X => exact X); (case T => exact T); (case N => exact N); (case f => exact hf); (case k => exact hk)
    (case room => walk_at "lim")
    (case ho => k_is); (case hcd => k_is); (case hbind => (intro _; exact BindsTo.of_eq rfl)); (case hloc => exact locs rfl)
    (case c2 => exact rfl); (case c3 => exact rfl); (case c4 => exact rfl); (case c5 => decide)
    k_whole
    clear B F X T N hf hk
    intro g' L' h' F' N' B' X' T' hsub hlt hsz
    (try dsimp only)
    (try k_fold)
    have CG := caps_in CA hsub
    have KH := KC.refl hK
    clear CA
    dsimp only [List.nil_append, List.cons_append] at N' hlt hsub
    k_steps
    exact endC (pre := []) (hret _ _ _) kE (by assumption) hsub (by k_asm) (by walk_at "end tail") (by intro p hp; cases hp) ⟨_, by rw [sideF, if_neg hz]⟩

/-! PQD5 -/


theorem does_number (w : World) (l : Strs) (c kd : Addr) (k : List UInt8) (t : Tok) (d : Int) (td : Tok) : DoesH w l c kd 395 10 60 [.ref c, .bytes k.toArray t, .int d td] (fun _ v _ => v = .int d td) := by
  intro dp un gd env outer A₀ base h₀ L m mean mg mb s Q CA B F X T N hf hk hd hu hret
  replace CA := CapsIn.keep CA F.keep
  refine' enter_G (binds := [(Str.ofString "self", .ref c), (Str.ofString "word", .bytes k.toArray t), (Str.ofString "default", .int d td)]) ?B ?F ?X ?T ?N ?f ?k ?room ?ho ?hcd ?hbind ?hloc ?_ ?c2 ?c3 ?c4 ?c5
  (case B => exact B); (case F => exact F); (case X => exact X); (case T => exact T); (case N => exact N); (case f => exact hf); (case k => exact hk)
  (case room => walk_at "lim")
  (case ho => k_is); (case hcd => k_is); (case hbind => (intro _; exact BindsTo.of_eq rfl)); (case hloc => exact locs rfl)
  (case c2 => exact rfl); (case c3 => exact rfl); (case c4 => exact rfl); (case c5 => decide)
  k_whole
  clear B F X T N hf hk
  intro g' L' h' F' N' B' X' T' hsub hlt hsz
  (try dsimp only)
  (try k_fold)
  have CG := CapsIn.keep CA (fun b o e => hsub b o e (by intro q; cases q))
  clear CA
  obtain ⟨cd, i, id, k1, k2, k3, k4, k5, k6, k7, k8, na, bo, nu, sd, mo, us, CG3⟩ := CG
  have a1 := CG3.caps
  have a2 := CG3.capsd
  have a3 := CG3.info
  have a4 := CG3.infod
  have a6 := CG3.nums
  have lo3 := CG3.lo.2.2
  clear CG3
  have I1 := inst_of a1 a2
  have I2 := inst_of a3 a4
  clear a1 a2 a3 a4
  k_steps
  exact hret _ _ _ (kE [] (by intro p hp; cases hp)) rfl
theorem max18 {w : World} {A : Around} {E : Value → Shared → Prop} {s : Shared} {h₀ : Heap} {L : Addr} {m : Str → Option Value} {news : List (Addr × Obj)} {t u : Tok} {Q : Value → Shared → Prop} (hh : A.handled = none) (X : (hd.heap_1 w.params).In h₀) (F : Fr h₀ L s.heap m) (N : News h₀ L s.heap news)
    (h : ∀ t' h' tk', Fr h₀ L h' m → News h₀ L h' news → Q (.int 8 t') ⟨h', s.gens, s.drawn, tk', s.os⟩) : wpAny (model pw w) A (call (.builtin "max") [.int 1 t, .int 8 u]) Q E s := by
  apply max_two_N hh F N
  intro h' tk' F' N'
  rw [if_pos (by decide), if_pos (by decide)]
  exact h _ _ _ F' N'

/-! PQD6 -/




local macro_rules | `(tactic| walk_at "call builtin:max") => `(tactic| k_extra "m:call builtin:max")
theorem regXmac21 : True := by
  k_with "noinline" => ((with_reducible show wG _ _ (call (Value.ref 395) _) _ _))
  k_with "wG" => (((with_reducible show wG _ _ (call (Value.ref 395) _) _ _); k_dflt (
  refine' DoesH.use (does_number _ _ _ _ _ _ _ _) ?zzCA ?zzB ?zzF ?zzX ?zzT ?zzN ?zzf ?zzk ?zzhd ?zzhu ?_; (case zzCA => assumption); (case zzB => k_asm); (case zzF => k_asm); (case zzX => k_asm); (case zzT => k_asm); (case zzN => k_asm); (case zzf => exact rfl); (case zzk => exact rfl); (case zzhd => walk_at "lim"); (case zzhu => walk_at "lim"); k_whole; intro v' h' k' F' N' x' P'; subst P'; clear x'; (try k_sweep))))
  k_with "m:call builtin:max" => ((k_here; k_dflt (refine' max18 ?zzhh ?zzX ?zzF ?zzN ?_; (case zzhh => exact rfl); (case zzX => k_asm); (case zzF => k_asm); (case zzN => k_asm); intro t' h' tk' F' N'; (try k_sweep))))
  trivial

local macro_rules | `(tactic| walk_at "call builtin:list.append") => `(tactic| k_extra "m:call builtin:list.append")
theorem regXmac22 : True := by
  k_with "end fit1" => (first | assumption | exact fits_none | (refine fits_noneE ?_; assumption) | exact fits_side (by assumption) (by omega) (by omega) (by omega) (by omega))
  k_with "noinline" => ((with_reducible show wG _ _ (call (Value.ref 472) _) _ _))
  k_with "wG" => (((with_reducible show wG _ _ (call (Value.ref 472) _) _ _); (rename KC _ _ _ _ _ => kh0); k_dflt (
  refine' DoesC.use (does_side _ _ _ _ _ _ _ _ ?zzG ?zzb0 ?zzb1 ?zze0 ?zze1) ?zzKH ?zzCA ?zzB ?zzF ?zzX ?zzT ?zzN ?zzS ?zzhs ?zzf ?zzk ?zzhd ?zzhu ?_; (case zzKH => exact kh0); (case zzCA => assumption); (case zzB => k_asm); (case zzF => k_asm); (case zzX => k_asm); (case zzT => k_asm); (case zzN => k_asm); (case zzS => walk_at "end spl"); (case zzhs => (intro p hp; cases hp)); (case zzf => exact rfl); (case zzk => exact rfl); (case zzhd => walk_at "lim"); (case zzhu => walk_at "lim"); (case zzG => assumption); (case zzb0 => omega); (case zzb1 => omega); (case zze0 => omega); (case zze1 => omega); k_whole; intro v' h' tk' K' F' KH' N' x' P'; (((first | refine Exists.elim P' ?_ | refine And.elim ?_ P'); clear P'; intro t' P'); subst P'); (try dsimp only at N'); clear x' kh0; (try k_sweep))))
  k_with "noinline" => ((with_reducible show wG _ _ (call (Value.ref 437) _) _ _))
  k_with "wG" => (((with_reducible show wG _ _ (call (Value.ref 437) _) _ _); k_dflt (
  refine' DoesG.useM (Does.toG (does_joined _ _ _ _ _ ?zzho ?zzhp)) ?zzB ?zzF ?zzX ?zzT ?zzN ?zzhs ?zzhm ?zzf ?zzk ?zzhd ?zzhu ?_; (walk_at "end use0"); (case zzho => walk_at "end fit1"); (case zzhp => walk_at "end fit1"); k_whole; intro v' h' k' F' x' lt' P'; (((first | refine Exists.elim P' ?_ | refine And.elim ?_ P'); clear P'; intro t' P'); subst P'); refine' led0 ?zzN x' ?_; (case zzN => k_asm); intro N'; clear x' lt'; (try k_sweep))))
  k_with "m:call builtin:list.append" => ((k_here; k_dflt (refine' append_T ?zzF ?zzN ?zzU ?_ ?zzz; (case zzF => k_asm); (case zzN => k_asm); (case zzU => k_upd); (case zzz => ((try simp only [List.length_append, List.length_cons, List.length_nil]); omega)); intro h' F' N'; (try dsimp only [List.cons_append, List.nil_append] at N'); (try k_sweep))))
  trivial

theorem open_tup {h₀ h : Heap} {L a : Addr} {v1 v2 : Value} {rest : List (Addr × Obj)} (N : News h₀ L h ((a, tupOf [v1, v2]) :: rest)) : ∃ vs, vs = [v1, v2] ∧ News h₀ L h ((a, tupOf vs) :: rest) := ⟨_, rfl, N⟩
theorem two_get {x y : Int} {t1 t2 : Tok} {vs : List Value} {i : Nat} {v : Value} (h : vs = [.int x t1, .int y t2]) (e : vs[i]? = some v) : ∃ z tz, v = .int z tz ∧ (z = x ∨ z = y) := by
  subst h
  match i, e with
  | 0, e => simp at e; exact ⟨x, t1, e.symm, .inl rfl⟩
  | 1, e => simp at e; exact ⟨y, t2, e.symm, .inr rfl⟩
  | n + 2, e => simp at e
theorem none_snoc {os : List (Option (List UInt8))} {o : Option (List UInt8)} (h : ∀ p ∈ os, p = none) (ho : o = none) : ∀ p ∈ os ++ [o], p = none := fun p hp => by
  rcases List.mem_append.mp hp with hp | hp
  · exact h p hp
  · rw [List.mem_singleton.mp hp]; exact ho
theorem join_none {o p : Option (List UInt8)} {n : Int} (h : o = none) : joinF (repF o n) p = none := by subst h; rfl
abbrev tbM (c : Addr) (b : Int) (tb : Tok) (e : Int) (te : Tok) (cn : Int) (tc : Tok) (wl : Addr) (ta : Tok) (ov1 ov2 : Option Value) : Str → Option Value := fun y =>
  if y = Str.ofString "many" then ov1 else if y = Str.ofString "stop" then ov2 else if y = Str.ofString "ways" then some (.ref wl) else if y = Str.ofString "apart" then some (.int 8 ta) else
  List.lookup y [(Str.ofString "caps", Value.ref c), (Str.ofString "begin", Value.int b tb), (Str.ofString "end", Value.int e te), (Str.ofString "columns", Value.int cn tc)].reverse
theorem tbM0 {c : Addr} {b : Int} {tb : Tok} {e : Int} {te : Tok} {cn : Int} {tc : Tok} {wl : Addr} {ta : Tok} (y : Str) : (if y = Str.ofString "ways" then some (.ref wl) else if y = Str.ofString "apart" then some (.int 8 ta) else
    List.lookup y [(Str.ofString "caps", Value.ref c), (Str.ofString "begin", Value.int b tb), (Str.ofString "end", Value.int e te), (Str.ofString "columns", Value.int cn tc)].reverse) = tbM c b tb e te cn tc wl ta none none y := by
  simp only [tbM]
  by_cases h1 : y = Str.ofString "many"
  · subst h1; rfl
  · by_cases h2 : y = Str.ofString "stop"
    · subst h2; rfl
    · simp only [h1, h2, if_false]
theorem tbM1 {c : Addr} {b : Int} {tb : Tok} {e : Int} {te : Tok} {cn : Int} {tc : Tok} {wl : Addr} {ta : Tok} {ov1 ov2 : Option Value} {v1 v2 : Value} (y : Str) : (if y = Str.ofString "many" then some v1 else if y = Str.ofString "stop" then some v2 else tbM c b tb e te cn tc wl ta ov1 ov2 y) = tbM c b tb e te cn tc wl ta (some v1) (some v2) y := by
  simp only [tbM]
  by_cases h1 : y = Str.ofString "many"
  · simp only [h1, if_true]
  · by_cases h2 : y = Str.ofString "stop"
    · simp only [h1, h2, if_false, if_true]
    · simp only [h1, h2, if_false]
inductive TbJ (w : World) (l : Strs) (kd : Addr) (K : List (Addr × Obj)) (c : Addr) (b : Int) (tb : Tok) (e : Int) (te : Tok) (cn : Int) (tc : Tok) (wl tp : Addr) (vs : List Value) (i : Nat) (m' : Str → Option Value) (n' : List (Addr × Obj)) : Prop
  | intro (K' : _) (vs2 : _) (os : _) (n2 : _) (ta : _) (ov1 : _) (ov2 : _) : n' = (tp, tupOf vs) :: (wl, listOf vs2.toArray n2) :: K' → AreO vs2 os → (∀ o ∈ os, o = none) → vs2.length ≤ i → KC w l kd K K' → (∀ y, m' y = tbM c b tb e te cn tc wl ta ov1 ov2 y) → TbJ w l kd K c b tb e te cn tc wl tp vs i m' n'
theorem TbJ.cls {w : World} {l : Strs} {kd : Addr} {K : List (Addr × Obj)} {c : Addr} {b : Int} {tb : Tok} {e : Int} {te : Tok} {cn : Int} {tc : Tok} {wl tp : Addr} {vs : List Value} {i : Nat} {m' : Str → Option Value} {n' : List (Addr × Obj)} (J : TbJ w l kd K c b tb e te cn tc wl tp vs i m' n') : ∀ p ∈ n', isIt p.2.cls = false := by
  obtain ⟨K', vs2, os, n2, ta, ov1, ov2, rfl, -, -, -, hK, -⟩ := J
  intro p hp
  rcases List.mem_cons.mp hp with rfl | hp
  · rfl
  · rcases List.mem_cons.mp hp with rfl | hp
    · rfl
    · exact kept_it hK.1 p hp
theorem does_tabs (w : World) (l : Strs) (c kd : Addr) (b e cn : Int) (tb te tc : Tok) (G : GoodS l) (hb0 : 0 ≤ b) (hb1 : b < 98) (he0 : 0 ≤ e) (he1 : e < 98) (hc : cn < 98) :
    DoesC w l c kd 479 350 1000 [.ref c, .int b tb, .int e te, .int cn tc] [] (fun _ v _ => ∃ t', v = oV none t') := by
  have hht : toldF l [104, 116] [] = none := told_absent G (by decide) _
  have hcbt : toldF l [99, 98, 116] [] = none := told_absent G (by decide) _
  rcases (by omega : e > b ∨ ¬ e > b) with hz | hz
  · intro K dp un gd env outer A₀ base h₀ L m mean mg mb s Q hK CA B F X T N hf hk hd hu hret
    refine' enter_G (binds := [(Str.ofString "caps", .ref c), (Str.ofString "begin", .int b tb), (Str.ofString "end", .int e te), (Str.ofString "columns", .int cn tc)]) ?B ?F ?X ?T ?N ?f ?k ?room ?ho ?hcd ?hbind ?hloc ?_ ?c2 ?c3 ?c4 ?c5
    (case B => exact B); (case F => exact F); (case X => exact X); (case T => exact T); (case N => exact N); (case f => exact hf); (case k => exact hk)
    (case room => walk_at "lim")
    (case ho => k_is); (case hcd => k_is); (case hbind => (intro _; exact BindsTo.of_eq rfl)); (case hloc => exact locs rfl)
    (case c2 => exact rfl); (case c3 => exact rfl); (case c4 => exact rfl); (case c5 => decide)
    k_whole
    clear B F X T N hf hk
    intro g' L' h' F' N' B' X' T' hsub hlt hsz
    (try dsimp only)
    (try k_fold)
    have CG := caps_in CA hsub
    have KH := KC.refl hK
    clear CA
    dsimp only [List.nil_append, List.cons_append] at N' hlt hsub
    have CG2 := CG
    obtain ⟨cd, i, id, q1, q2, q3, q4, q5, q6, q7, q8, na, bo, nu, sd, mo, us, CG3⟩ := CG2
    have a1 := CG3.caps
    have a2 := CG3.capsd
    clear CG3
    have I1 := inst_of a1 a2
    clear a1 a2
    k_steps
    rename_i wl x2 l1 x1 tp x0 F0 N0 lt0
    obtain ⟨vs, hvs, N0⟩ := open_tup N0
    refine' iter_tupJ (vs := vs) rfl (TbJ w l kd K c b tb e te cn tc wl tp vs) F0 N0 ⟨K, [], [], 0, _, none, none, rfl, .nil, (by intro o ho; cases ho), Nat.le_refl _, KH, tbM0⟩ ?_ (fun i m' n' J => J.cls) ?_ ?_ ?_
    · rintro i m' n' ⟨K', vs2, os, n2, ta, ov1, ov2, rfl, -⟩; exact .head _
    · rintro it ito i v m' n' h tk hv ⟨K', vs2, os, n2, ta, ov1, ov2, rfl, ho, hn, hlen, kh, hm⟩ hit F1 N1
      obtain ⟨z, tz, rfl, hzz⟩ := two_get hvs hv
      have hik := isIt_kept hit
      have of1 := it_off N1 hit (List.Mem.tail _ (List.Mem.head _)) rfl
      have of2 : Off tp wl := Nat.ne_of_gt lt0.1
      have hi2 : i < 2 := by have := (List.getElem?_eq_some_iff.mp hv).1; rw [hvs] at this; exact this
      clear hv hvs
      have e1 : e.fmod 8 = e % 8 := Int.fmod_eq_emod_of_nonneg _ (by omega)
      have hs0 : 0 ≤ z ∧ z ≤ e + 8 := by omega
      have hd1 : z.fdiv 8 ≤ 20 := by rw [Int.fdiv_eq_ediv_of_nonneg _ (by omega)]; omega
      have hd2 : 0 ≤ b.fdiv 8 := by rw [Int.fdiv_eq_ediv_of_nonneg _ (by omega)]; omega
      replace F1 := frCongr F1 hm
      clear F0 N0 hm lt0 e1 hzz KH
      k_steps
      rotate_left
      all_goals (rename Fr _ _ _ _ => F2; rename News _ _ _ _ => N2; rename KC _ _ _ _ _ => kh2)
      · exact EndL.intro _ _ _ _ rfl F2 N2 ⟨K', vs2, os, n2, ta, _, _, rfl, ho, hn, by omega, kh2, tbM1⟩
      · exact EndL.intro _ _ _ _ rfl F2 N2 ⟨K', vs2, os, n2, ta, _, _, rfl, ho, hn, by omega, kh2, tbM1⟩
      · exact EndL.intro _ _ _ _ rfl F2 N2 ⟨_, _, _, _, ta, _, _, rfl, ho.snoc, none_snoc hn (join_none hht), by simp only [List.length_append, List.length_cons, List.length_nil]; omega, kh2, tbM1⟩
    · rintro m' n' h tk ⟨K', vs2, os, n2, ta, ov1, ov2, rfl, ho, hn, hlen, kh, hm⟩ F1 N1
      replace F1 := frCongr F1 hm
      have hnf : ∀ o ∈ os, Fits o 100000 := fun o ho => by rw [hn o ho]; exact fits_none
      clear F0 N0 hm lt0 KH
      k_steps
      exact endC (pre := []) (hret _ _ _) kE (by assumption) hsub (by k_asm) (by walk_at "end tail") (by intro p hp; cases hp) ⟨_, by rw [cheapF_none hn]⟩
    · intro _ _; rfl
  · intro K dp un gd env outer A₀ base h₀ L m mean mg mb s Q hK CA B F X T N hf hk hd hu hret
    refine' enter_G (binds := [(Str.ofString "caps", .ref c), (Str.ofString "begin", .int b tb), (Str.ofString "end", .int e te), (Str.ofString "columns", .int cn tc)]) ?B ?F ?X ?T ?N ?f ?k ?room ?ho ?hcd ?hbind ?hloc ?_ ?c2 ?c3 ?c4 ?c5
    (case B => exact B); (case F => exact F); (case X => exact X); (case T => exact T); (case N => exact N); (case f => exact hf); (case k => exact hk)
    (case room => walk_at "lim")
    (case ho => k_is); (case hcd => k_is); (case hbind => (intro _; exact BindsTo.of_eq rfl)); (case hloc => exact locs rfl)
    (case c2 => exact rfl); (case c3 => exact rfl); (case c4 => exact rfl); (case c5 => decide)
    k_whole
    clear B F X T N hf hk
    intro g' L' h' F' N' B' X' T' hsub hlt hsz
    (try dsimp only)
    (try k_fold)
    have CG := caps_in CA hsub
    have KH := KC.refl hK
    clear CA
    dsimp only [List.nil_append, List.cons_append] at N' hlt hsub
    have CG2 := CG
    obtain ⟨cd, i, id, q1, q2, q3, q4, q5, q6, q7, q8, na, bo, nu, sd, mo, us, CG3⟩ := CG2
    have a1 := CG3.caps
    have a2 := CG3.capsd
    clear CG3
    have I1 := inst_of a1 a2
    clear a1 a2
    k_steps
    rename_i wl x2 l1 x1 tp x0 F0 N0 lt0
    obtain ⟨vs, hvs, N0⟩ := open_tup N0
    refine' iter_tupJ (vs := vs) rfl (TbJ w l kd K c b tb e te cn tc wl tp vs) F0 N0 ⟨K, [], [], 0, _, none, none, rfl, .nil, (by intro o ho; cases ho), Nat.le_refl _, KH, tbM0⟩ ?_ (fun i m' n' J => J.cls) ?_ ?_ ?_
    · rintro i m' n' ⟨K', vs2, os, n2, ta, ov1, ov2, rfl, -⟩; exact .head _
    · rintro it ito i v m' n' h tk hv ⟨K', vs2, os, n2, ta, ov1, ov2, rfl, ho, hn, hlen, kh, hm⟩ hit F1 N1
      obtain ⟨z, tz, rfl, hzz⟩ := two_get hvs hv
      have hik := isIt_kept hit
      have of1 := it_off N1 hit (List.Mem.tail _ (List.Mem.head _)) rfl
      have of2 : Off tp wl := Nat.ne_of_gt lt0.1
      have hi2 : i < 2 := by have := (List.getElem?_eq_some_iff.mp hv).1; rw [hvs] at this; exact this
      clear hv hvs
      have e1 : e.fmod 8 = e % 8 := Int.fmod_eq_emod_of_nonneg _ (by omega)
      have hs0 : 0 ≤ z ∧ z ≤ e + 8 := by omega
      have hd1 : 0 ≤ z.fdiv 8 := by rw [Int.fdiv_eq_ediv_of_nonneg _ (by omega)]; omega
      have hd2 : -20 ≤ (-b).fdiv 8 := by rw [Int.fdiv_eq_ediv_of_nonneg _ (by omega)]; omega
      replace F1 := frCongr F1 hm
      clear F0 N0 hm lt0 e1 hzz KH
      k_steps
      rotate_left
      all_goals (rename Fr _ _ _ _ => F2; rename News _ _ _ _ => N2; rename KC _ _ _ _ _ => kh2)
      · exact EndL.intro _ _ _ _ rfl F2 N2 ⟨K', vs2, os, n2, ta, _, _, rfl, ho, hn, by omega, kh2, tbM1⟩
      · exact EndL.intro _ _ _ _ rfl F2 N2 ⟨K', vs2, os, n2, ta, _, _, rfl, ho, hn, by omega, kh2, tbM1⟩
      · exact EndL.intro _ _ _ _ rfl F2 N2 ⟨_, _, _, _, ta, _, _, rfl, ho.snoc, none_snoc hn (join_none hcbt), by simp only [List.length_append, List.length_cons, List.length_nil]; omega, kh2, tbM1⟩
    · rintro m' n' h tk ⟨K', vs2, os, n2, ta, ov1, ov2, rfl, ho, hn, hlen, kh, hm⟩ F1 N1
      replace F1 := frCongr F1 hm
      have hnf : ∀ o ∈ os, Fits o 100000 := fun o ho => by rw [hn o ho]; exact fits_none
      clear F0 N0 hm lt0 KH
      k_steps
      exact endC (pre := []) (hret _ _ _) kE (by assumption) hsub (by k_asm) (by walk_at "end tail") (by intro p hp; cases hp) ⟨_, by rw [cheapF_none hn]⟩
    · intro _ _; rfl

/-! PQD7 -/






theorem regXmac23 : True := by
  k_with "noinline" => ((with_reducible show wG _ _ (call (Value.ref 479) _) _ _))
  k_with "wG" => (((with_reducible show wG _ _ (call (Value.ref 479) _) _ _); (rename KC _ _ _ _ _ => kh0); k_dflt (
  refine' DoesC.use (does_tabs _ _ _ _ _ _ _ _ _ _ ?zzG ?zzb0 ?zzb1 ?zze0 ?zze1 ?zzc1) ?zzKH ?zzCA ?zzB ?zzF ?zzX ?zzT ?zzN ?zzS ?zzhs ?zzf ?zzk ?zzhd ?zzhu ?_; (case zzKH => exact kh0); (case zzCA => assumption); (case zzB => k_asm); (case zzF => k_asm); (case zzX => k_asm); (case zzT => k_asm); (case zzN => k_asm); (case zzS => walk_at "end spl"); (case zzhs => (intro p hp; cases hp)); (case zzf => exact rfl); (case zzk => exact rfl); (case zzhd => walk_at "lim"); (case zzhu => walk_at "lim"); (case zzG => assumption); (case zzb0 => omega); (case zzb1 => omega); (case zze0 => omega); (case zze1 => omega); (case zzc1 => omega); k_whole; intro v' h' tk' K' F' KH' N' x' P'; (((first | refine Exists.elim P' ?_ | refine And.elim ?_ P'); clear P'; intro t' P'); subst P'); (try dsimp only at N'); clear x' kh0; (try k_sweep))))
  trivial

theorem fits_join {o p : Option (List UInt8)} {n m : Nat} (ho : Fits o n) (hp : Fits p m) : Fits (joinF o p) (n + m) := by
  intro b e
  cases o with
  | none => cases e
  | some x => cases p with
    | none => cases e
    | some y =>
      have h : x ++ y = b := Option.some.inj e
      subst h
      have h1 := ho x rfl
      have h2 := hp y rfl
      simp only [List.length_append]; omega
def acrossF (l : Strs) (b e : Int) : Option (List UInt8) :=
  if b = e then some [] else cheapF ([sideF l b e, toldF l sHpa [e], joinF (toldF l sCr []) (sideF l 0 e), none] ++ if e > 0 then [joinF (toldF l sCr []) none] else [])
theorem fits_side2 {l : Strs} (G : GoodS l) {b e : Int} (hb0 : 0 ≤ b) (hb1 : b < 98) (he0 : 0 ≤ e) (he1 : e < 98) : Fits (sideF l b e) 2000 := by
  unfold sideF
  split
  · exact fits_step G (by decide) (by omega) (by omega)
  · exact fits_step G (by decide) (by omega) (by omega)
theorem fits_across {l : Strs} (G : GoodS l) {b e : Int} (hb0 : 0 ≤ b) (hb1 : b < 98) (he0 : 0 ≤ e) (he1 : e < 98) : Fits (acrossF l b e) 5000 := by
  unfold acrossF
  split
  · intro x h; cases h; simp
  · refine fits_cheapF fun o ho => ?_
    have f1 := (fits_side2 G hb0 hb1 he0 he1).mono (show 2000 ≤ 5000 by decide)
    have f2 := (fits_told G sHpa [e]).mono (show 1000 ≤ 5000 by decide)
    have f3 := (fits_join (fits_told G sCr []) (fits_side2 G (by omega : (0 : Int) ≤ 0) (by omega) he0 he1)).mono (show 1000 + 2000 ≤ 5000 by decide)
    have f4 := (fits_join (fits_told G sCr []) (fits_none (n := 0))).mono (show 1000 + 0 ≤ 5000 by decide)
    split at ho
    · simp only [List.cons_append, List.nil_append, List.mem_cons, List.not_mem_nil, or_false] at ho
      rcases ho with rfl | rfl | rfl | rfl | rfl
      · exact f1
      · exact f2
      · exact f3
      · exact fits_none
      · exact f4
    · simp only [List.cons_append, List.nil_append, List.mem_cons, List.not_mem_nil, or_false] at ho
      rcases ho with rfl | rfl | rfl | rfl
      · exact f1
      · exact f2
      · exact f3
      · exact fits_none
theorem does_across (w : World) (l : Strs) (c kd : Addr) (b e cn : Int) (tb te tc : Tok) (G : GoodS l) (hb0 : 0 ≤ b) (hb1 : b < 98) (he0 : 0 ≤ e) (he1 : e < 98) (hc : cn < 98) :
    DoesC w l c kd 494 370 1100 [.ref c, .int b tb, .int e te, .int cn tc] [] (fun _ v _ => ∃ t', v = oV (acrossF l b e) t') := by
  have hf1 : Fits (sideF l b e) 100000 := fits_side G hb0 hb1 he0 he1
  have hf2 : Fits (toldF l sHpa [e]) 100000 := (fits_told G _ _).mono (by decide)
  have hf3 : Fits (joinF (toldF l sCr []) (sideF l 0 e)) 100000 := (fits_join (fits_told G sCr []) (fits_side2 G (by omega : (0 : Int) ≤ 0) (by omega) he0 he1)).mono (by decide)
  have hf4 : Fits (joinF (toldF l sCr []) none) 100000 := (fits_join (fits_told G sCr []) (fits_none (n := 0))).mono (by decide)
  have hf5 : Fits (toldF l sCr []) 100000 := (fits_told G _ _).mono (by decide)
  rcases (by omega : b = e ∨ b ≠ e) with hz | hz
  · subst hz
    have hz2 : (b == b) = true := by simp
    intro K dp un gd env outer A₀ base h₀ L m mean mg mb s Q hK CA B F X T N hf hk hd hu hret
    refine' enter_G (binds := [(Str.ofString "caps", .ref c), (Str.ofString "begin", .int b tb), (Str.ofString "end", .int b te), (Str.ofString "columns", .int cn tc), (Str.ofString "row", .none), (Str.ofString "pen", .none)]) ?B ?F ?X ?T ?N ?f ?k ?room ?ho ?hcd ?hbind ?hloc ?_ ?c2 ?c3 ?c4 ?c5
    (case B => exact B); (case F => exact F); (case X => exact X); (case T => exact T); (case N => exact N); (case f => exact hf); (case k => exact hk)
    (case room => walk_at "lim")
    (case ho => k_is); (case hcd => k_is); (case hbind => (intro XS; exact binds_K XS rfl (by k_is) rfl rfl rfl)); (case hloc => exact locs rfl)
    (case c2 => exact rfl); (case c3 => exact rfl); (case c4 => exact rfl); (case c5 => decide)
    k_whole
    clear B F X T N hf hk
    intro g' L' h' F' N' B' X' T' hsub hlt hsz
    (try dsimp only)
    (try k_fold)
    have CG := caps_in CA hsub
    have KH := KC.refl hK
    clear CA
    dsimp only [List.nil_append, List.cons_append] at N' hlt hsub
    k_steps
    exact endC (pre := []) (hret _ _ _) kE (by assumption) hsub (by k_asm) (by walk_at "end tail") (by intro p hp; cases hp) ⟨_, by rw [acrossF, if_pos rfl]; rfl⟩
  · have hz2 : (b == e) = false := by simpa using hz
    intro K dp un gd env outer A₀ base h₀ L m mean mg mb s Q hK CA B F X T N hf hk hd hu hret
    refine' enter_G (binds := [(Str.ofString "caps", .ref c), (Str.ofString "begin", .int b tb), (Str.ofString "end", .int e te), (Str.ofString "columns", .int cn tc), (Str.ofString "row", .none), (Str.ofString "pen", .none)]) ?B ?F ?X ?T ?N ?f ?k ?room ?ho ?hcd ?hbind ?hloc ?_ ?c2 ?c3 ?c4 ?c5
    (case B => exact B); (case F => exact F); (case X => exact X); (case T => exact T); (case N => exact N); (case f => exact hf); (case k => exact hk)
    (case room => walk_at "lim")
    (case ho => k_is); (case hcd => k_is); (case hbind => (intro XS; exact binds_K XS rfl (by k_is) rfl rfl rfl)); (case hloc => exact locs rfl)
    (case c2 => exact rfl); (case c3 => exact rfl); (case c4 => exact rfl); (case c5 => decide)
    k_whole
    clear B F X T N hf hk
    intro g' L' h' F' N' B' X' T' hsub hlt hsz
    (try dsimp only)
    (try k_fold)
    have CG := caps_in CA hsub
    have KH := KC.refl hK
    clear CA
    dsimp only [List.nil_append, List.cons_append] at N' hlt hsub
    have CG2 := CG
    obtain ⟨cd, i, id, q1, q2, q3, q4, q5, q6, q7, q8, na, bo, nu, sd, mo, us, CG3⟩ := CG2
    have a1 := CG3.caps
    have a2 := CG3.capsd
    clear CG3
    have I1 := inst_of a1 a2
    clear a1 a2
    rcases (by omega : e > 0 ∨ ¬ e > 0) with hz3 | hz3
    · k_steps
      exact endC (pre := []) (hret _ _ _) kE (by assumption) hsub (by k_asm) (by walk_at "end tail") (by intro p hp; cases hp) ⟨_, by rw [acrossF, if_neg hz, if_pos hz3]; rfl⟩
    · k_steps
      exact endC (pre := []) (hret _ _ _) kE (by assumption) hsub (by k_asm) (by walk_at "end tail") (by intro p hp; cases hp) ⟨_, by rw [acrossF, if_neg hz, if_neg hz3]; rfl⟩

/-! PQE1 -/
/-! the names of a frame, in another order -/
def lk : List Str → List (Option Value) → (Str → Option Value) → Str → Option Value
  | n :: ns, v :: vs, R, y => if y = n then v else lk ns vs R y
  | _, _, R, y => R y
theorem lk_out {R : Str → Option Value} {y : Str} : ∀ {ns : List Str} {vs : List (Option Value)}, y ∉ ns → lk ns vs R y = R y
  | [], _, _ => by unfold lk; rfl
  | _ :: _, [], _ => by unfold lk; rfl
  | n :: ns, v :: vs, h => by
    unfold lk
    rw [if_neg (show ¬ y = n from fun q => h (by rw [q]; exact .head _))]
    exact lk_out fun q => h (.tail _ q)
theorem lk_eq {ns ns' : List Str} {vs vs' : List (Option Value)} {R : Str → Option Value} (h1 : ns'.map (lk ns vs R) = ns'.map (lk ns' vs' R)) (h2 : ns.all (fun n => ns'.contains n) = true) (y : Str) : lk ns vs R y = lk ns' vs' R y := by
  by_cases h : y ∈ ns'
  · exact List.map_inj_left.mp h1 y h
  · rw [lk_out h, lk_out fun q => h (List.contains_iff_mem.mp (List.all_eq_true.mp h2 y q))]
theorem ch3 {n0 n1 n2 : Str} {v0 v1 v2 : Option Value} {R : Str → Option Value} {y : Str} : (if y = n0 then v0 else if y = n1 then v1 else if y = n2 then v2 else R y) = lk [n0, n1, n2] [v0, v1, v2] R y := rfl
theorem ch4 {n0 n1 n2 n3 : Str} {v0 v1 v2 v3 : Option Value} {R : Str → Option Value} {y : Str} : (if y = n0 then v0 else if y = n1 then v1 else if y = n2 then v2 else if y = n3 then v3 else R y) = lk [n0, n1, n2, n3] [v0, v1, v2, v3] R y := rfl
theorem ch5 {n0 n1 n2 n3 n4 : Str} {v0 v1 v2 v3 v4 : Option Value} {R : Str → Option Value} {y : Str} : (if y = n0 then v0 else if y = n1 then v1 else if y = n2 then v2 else if y = n3 then v3 else if y = n4 then v4 else R y) = lk [n0, n1, n2, n3, n4] [v0, v1, v2, v3, v4] R y := rfl
theorem ch6 {n0 n1 n2 n3 n4 n5 : Str} {v0 v1 v2 v3 v4 v5 : Option Value} {R : Str → Option Value} {y : Str} : (if y = n0 then v0 else if y = n1 then v1 else if y = n2 then v2 else if y = n3 then v3 else if y = n4 then v4 else if y = n5 then v5 else R y) = lk [n0, n1, n2, n3, n4, n5] [v0, v1, v2, v3, v4, v5] R y := rfl
theorem ch7 {n0 n1 n2 n3 n4 n5 n6 : Str} {v0 v1 v2 v3 v4 v5 v6 : Option Value} {R : Str → Option Value} {y : Str} : (if y = n0 then v0 else if y = n1 then v1 else if y = n2 then v2 else if y = n3 then v3 else if y = n4 then v4 else if y = n5 then v5 else if y = n6 then v6 else R y) = lk [n0, n1, n2, n3, n4, n5, n6] [v0, v1, v2, v3, v4, v5, v6] R y := rfl
theorem ch8 {n0 n1 n2 n3 n4 n5 n6 n7 : Str} {v0 v1 v2 v3 v4 v5 v6 v7 : Option Value} {R : Str → Option Value} {y : Str} : (if y = n0 then v0 else if y = n1 then v1 else if y = n2 then v2 else if y = n3 then v3 else if y = n4 then v4 else if y = n5 then v5 else if y = n6 then v6 else if y = n7 then v7 else R y) = lk [n0, n1, n2, n3, n4, n5, n6, n7] [v0, v1, v2, v3, v4, v5, v6, v7] R y := rfl
theorem ch9 {n0 n1 n2 n3 n4 n5 n6 n7 n8 : Str} {v0 v1 v2 v3 v4 v5 v6 v7 v8 : Option Value} {R : Str → Option Value} {y : Str} : (if y = n0 then v0 else if y = n1 then v1 else if y = n2 then v2 else if y = n3 then v3 else if y = n4 then v4 else if y = n5 then v5 else if y = n6 then v6 else if y = n7 then v7 else if y = n8 then v8 else R y) = lk [n0, n1, n2, n3, n4, n5, n6, n7, n8] [v0, v1, v2, v3, v4, v5, v6, v7, v8] R y := rfl
theorem ch10 {n0 n1 n2 n3 n4 n5 n6 n7 n8 n9 : Str} {v0 v1 v2 v3 v4 v5 v6 v7 v8 v9 : Option Value} {R : Str → Option Value} {y : Str} : (if y = n0 then v0 else if y = n1 then v1 else if y = n2 then v2 else if y = n3 then v3 else if y = n4 then v4 else if y = n5 then v5 else if y = n6 then v6 else if y = n7 then v7 else if y = n8 then v8 else if y = n9 then v9 else R y) = lk [n0, n1, n2, n3, n4, n5, n6, n7, n8, n9] [v0, v1, v2, v3, v4, v5, v6, v7, v8, v9] R y := rfl
/-- a statement, by what holds behind it -/
theorem wG_join {w : World} {A : Around} {s : Shared} {env : Env} {st : Stmt} {rest : List Stmt} {Q : Flow → Shared → Prop} (I : Shared → Prop)
    (h1 : wG w A (exec st env) (fun f s' => f = .next ∧ I s') s) (h2 : ∀ s', I s' → wG w A (execs rest env) Q s') : wG w A (execs (st :: rest) env) Q s :=
  gx_cons (wG_mono h1 fun f s' h => by obtain ⟨rfl, h⟩ := h; exact h2 s' h)
theorem Spl.app {kd : Addr} {K W n : List (Addr × Obj)} {f : List (Addr × Obj) → List (Addr × Obj)} (hW : ∀ p ∈ W, p.2.cls = .type "tuple") (S : Spl kd K n f) : Spl kd K (W ++ n) (fun K' => W ++ f K') := by
  induction W with
  | nil => exact S
  | cons p W ih =>
    obtain ⟨a, o⟩ := p
    exact .cons4 (hW _ (.head _)) (ih fun q hq => hW q (.tail _ hq))
theorem pair_lt2 {w : World} {A : Around} {E : Value → Shared → Prop} {s : Shared} {a b : Addr} {a1 a2 b1 b2 : Int} {t u t' u' : Tok} {Q : Value → Shared → Prop} {h₀ : Heap} {L : Addr} {news : List (Addr × Obj)} (N : News h₀ L s.heap news) (ha : (a, tupOf [.int a1 t, .int a2 u]) ∈ news) (hb : (b, tupOf [.int b1 t', .int b2 u']) ∈ news) (hu : A.units < cLine)
    (h : Q (.bool (ltP (a1, a2) (b1, b2))) s) : wpAny (model pw w) A (compareOp .Lt (.ref a) (.ref b)) Q E s := pair_lt (x := (a1, a2)) (y := (b1, b2)) N ha hb hu h
/-! the ways to make a stretch blank -/
abbrev Way := Option (List UInt8) × Int
inductive AreW (W : List (Addr × Obj)) : List Value → List Way → Prop
  | nil : AreW W [] []
  | cons {a vs ws} (o : Option (List UInt8)) (t : Tok) (col : Int) (tc : Tok) : (a, tupOf [oV o t, .int col tc]) ∈ W → AreW W vs ws → AreW W (.ref a :: vs) ((o, col) :: ws)
theorem AreW.mono {W W' : List (Addr × Obj)} {vs : List Value} {ws : List Way} (x : AreW W vs ws) (h : ∀ p ∈ W, p ∈ W') : AreW W' vs ws := by
  induction x with
  | nil => exact .nil
  | cons o t col tc hm _ ih => exact .cons o t col tc (h _ hm) ih
theorem AreW.snoc {W : List (Addr × Obj)} {vs : List Value} {ws : List Way} {a : Addr} {o : Option (List UInt8)} {t : Tok} {col : Int} {tc : Tok} (x : AreW W vs ws) (h : (a, tupOf [oV o t, .int col tc]) ∈ W) : AreW W (vs ++ [.ref a]) (ws ++ [(o, col)]) := by
  induction x with
  | nil => exact .cons _ _ _ _ h .nil
  | cons o' t' col' tc' hm _ ih => exact .cons _ _ _ _ hm ih
theorem AreW.get {W : List (Addr × Obj)} {vs : List Value} {ws : List Way} (x : AreW W vs ws) : ∀ {i : Nat} {v : Value}, vs[i]? = some v → ∃ a o t col tc, v = .ref a ∧ (a, tupOf [oV o t, .int col tc]) ∈ W ∧ ws[i]? = some (o, col) := by
  induction x with
  | nil => intro i v h; simp at h
  | @cons a vs ws o t col tc hm _ ih =>
    intro i v h
    cases i with
    | zero => simp at h; exact ⟨a, o, t, col, tc, h.symm, hm, by simp⟩
    | succ i => simp at h; obtain ⟨a', o', t', c', tc', x, y, z⟩ := ih h; exact ⟨a', o', t', c', tc', x, y, by simpa using z⟩
theorem AreW.len {W : List (Addr × Obj)} {vs : List Value} {ws : List Way} (x : AreW W vs ws) : vs.length = ws.length := by
  induction x with
  | nil => rfl
  | cons _ _ _ _ _ _ ih => simp [ih]
def farF (l : Strs) (at' : Option Int) (col : Int) : Int × Int := match at' with
  | some a => costF (acrossF l a col)
  | none => (0, 0)
abbrev Best := (Int × Int) × List UInt8 × Int
def stepB (l : Strs) (at' : Option Int) (st : Option Best) (x : Way) : Option Best := match x.1 with
  | none => st
  | some b =>
    let key : Int × Int := ((farF l at' x.2).1, (farF l at' x.2).2 + b.length)
    match st with
    | none => some (key, b, x.2)
    | some f => if ltP key f.1 then some (key, b, x.2) else some f
def bestF (l : Strs) (at' : Option Int) (ws : List Way) : Option Best := ws.foldl (stepB l at') none
theorem bestF_take {l : Strs} {at' : Option Int} {ws : List Way} {i : Nat} {x : Way} (h : ws[i]? = some x) : bestF l at' (ws.take (i + 1)) = stepB l at' (bestF l at' (ws.take i)) x := by
  unfold bestF
  rw [List.take_add_one, h]
  simp
def wayF (l : Strs) (left right cn : Int) : List Way :=
  [(toldF l sEch [right - left + 1], left)] ++ (if right = cn - 1 then [(toldF l sEl [], left)] else []) ++ (if left = 0 then [(toldF l sEl1 [], right)] else [])
def eraseF (l : Strs) (left right cn : Int) (at' : Option Int) : Option (List UInt8 × Int) := (bestF l at' (wayF l left right cn)).map fun x => x.2
/-- what found stands for -/
inductive Fnd : Option Best → Value → List (Addr × Obj) → Prop
  | none : Fnd none .none []
  | some (fa ka : Addr) (key : Int × Int) (b : List UInt8) (col : Int) (t1 t2 t3 t4 : Tok) : Fnd (some (key, b, col)) (.ref fa) [(fa, tupOf [.ref ka, .bytes b.toArray t1, .int col t2]), (ka, tupOf [.int key.1 t3, .int key.2 t4])]
theorem Fnd.cls {st : Option Best} {v : Value} {FW : List (Addr × Obj)} (x : Fnd st v FW) : ∀ p ∈ FW, p.2.cls = .type "tuple" := by
  cases x with
  | none => intro p hp; cases hp
  | some fa ka key b col t1 t2 t3 t4 =>
    intro p hp
    rcases List.mem_cons.mp hp with rfl | hp
    · rfl
    · rw [List.mem_singleton.mp hp]
def NextI (I : Shared → Prop) (f : Flow) (s' : Shared) : Prop := f = .next ∧ I s'
theorem wG_joinN {w : World} {A : Around} {s : Shared} {env : Env} {st : Stmt} {rest : List Stmt} {Q : Flow → Shared → Prop} (I : Shared → Prop)
    (h1 : wG w A (exec st env) (NextI I) s) (h2 : ∀ s', I s' → wG w A (execs rest env) Q s') : wG w A (execs (st :: rest) env) Q s := wG_join I h1 h2
theorem wG_cut {w : World} {α : Type} {A : Around} {s : Shared} {t : Sem α} {Q : α → Shared → Prop} (I : Shared → Prop) (h0 : I s) (h : ∀ s', I s' → wG w A t Q s') : wG w A t Q s := h s h0
theorem tailOff {w : World} {l : Strs} {kd : Addr} {W K₀ K : List (Addr × Obj)} {h : Heap} {a : Addr} {q : Obj} {h₀ : Heap} {L : Addr} {news : List (Addr × Obj)} (hW : ∀ p ∈ W, p.2.cls = .type "tuple") (x : KC w l kd K₀ K) (N : News h₀ L h news) (hm : (a, q) ∈ news) (hs : ∀ p ∈ W ++ K, p ∈ news) (hc : isKept q.cls = false) : ∀ p ∈ W ++ K, p.1 ≠ a := fun p hp => by
  rcases List.mem_append.mp hp with h1 | h1
  · rintro rfl
    have e1 := (N _ (hs p hp)).1
    rw [(N _ hm).1] at e1
    have e2 : q = p.2 := Option.some.inj e1
    rw [e2, hW p h1] at hc
    cases hc
  · exact keptOff x N hm (fun r hr => hs r (List.mem_append_right _ hr)) hc p h1
theorem allLt_app {a : Addr} {W K : List (Addr × Obj)} (h : AllLt a (W ++ K)) : AllLt a K := by
  induction W with
  | nil => exact h
  | cons p W ih => exact ih h.2
theorem allLt_mem {a : Addr} {K : List (Addr × Obj)} (h : AllLt a K) : ∀ p ∈ K, p.1 < a := by
  induction K with
  | nil => intro p hp; cases hp
  | cons q K ih =>
    intro p hp
    rcases List.mem_cons.mp hp with rfl | hp
    · exact h.1
    · exact ih h.2 p hp
/-- a later object stands apart from the first kept part -/
theorem newC {w : World} {l : Strs} {kd a : Addr} {K₀ K : List (Addr × Obj)} (x : KC w l kd K₀ K) (h : AllLt a K) : ∀ p ∈ K₀, p.1 ≠ a := fun p hp => by
  obtain ⟨o, hm, -⟩ := kept_dict x.1
  rcases x.2 p hp with e | e
  · rw [e]; exact Nat.ne_of_lt (allLt_mem h _ hm)
  · exact Nat.ne_of_lt (allLt_mem h _ e)
theorem own_list {w : World} {A : Around} {E : Value → Shared → Prop} {s : Shared} {elts : List Expr} {x1 : Nat} {pos : Pos} {I l : Addr} {i : Nat} {v : Value} {Q : Unit → Shared → Prop} (hit : s.heap.IsListIter I l i) (hQ : Q () s) :
    wpAny (model pw w) A (letOwnedTupleGo (.Tuple elts x1 pos) (.ref I) v) Q E s := by
  cases v with
  | ref T => exact wpAny_letOwnedTupleGo_listiter hit hQ
  | _ => exact wpAny_pure hQ

/-! PQE2 -/





theorem regXmac24 : True := by
  k_with "noinline" => ((with_reducible show wG _ _ (call (Value.ref 494) _) _ _))
  k_with "wG" => (((with_reducible show wG _ _ (call (Value.ref 494) _) _ _); (rename KC _ _ _ _ _ => kh0); k_dflt (
  refine' DoesC.use (does_across _ _ _ _ _ _ _ _ _ _ ?zzG ?zzb0 ?zzb1 ?zze0 ?zze1 ?zzc1) ?zzKH ?zzCA ?zzB ?zzF ?zzX ?zzT ?zzN ?zzS ?zzhs ?zzf ?zzk ?zzhd ?zzhu ?_; (case zzKH => exact kh0); (case zzCA => assumption); (case zzB => k_asm); (case zzF => k_asm); (case zzX => k_asm); (case zzT => k_asm); (case zzN => k_asm); (case zzS => walk_at "end spl"); (case zzhs => (intro p hp; cases hp)); (case zzf => exact rfl); (case zzk => exact rfl); (case zzhd => walk_at "lim"); (case zzhu => walk_at "lim"); (case zzG => assumption); (case zzb0 => omega); (case zzb1 => omega); (case zze0 => omega); (case zze1 => omega); (case zzc1 => omega); k_whole; intro v' h' tk' K' F' KH' N' x' P'; (((first | refine Exists.elim P' ?_ | refine And.elim ?_ P'); clear P'; intro t' P'); subst P'); (try dsimp only at N'); clear x' kh0; (try k_sweep))))
  k_with "noinline" => ((with_reducible show wG _ _ (call (Value.ref 423) _) _ _))
  k_with "wG" => (((with_reducible show wG _ _ (call (Value.ref 423) _) _ _); k_dflt (refine' DoesG.useM (Does.toG (does_cost _ _ _ ?zzho)) ?zzB ?zzF ?zzX ?zzT ?zzN ?zzhs ?zzhm ?zzf ?zzk ?zzhd ?zzhu ?_; (walk_at "end use0"); (case zzho => first | assumption | exact fits_none); k_whole; intro v' h' k' F' x' lt' P'; (((first | refine Exists.elim P' ?_ | refine And.elim ?_ P'); clear P'; intro a' P'); ((first | refine Exists.elim P' ?_ | refine And.elim ?_ P'); clear P'; intro t1' P'); ((first | refine Exists.elim P' ?_ | refine And.elim ?_ P'); clear P'; intro t2' P'); ((first | refine Exists.elim P' ?_ | refine And.elim ?_ P'); clear P'; intro e0' P'); subst e0'; (revert P'; intro n')); refine' led0 ?zzN x' ?_; (case zzN => k_asm); intro N1'; refine' ledN n' ?zzF ?zzN0 N1' ?_; (case zzF => k_asm); (case zzN0 => k_asm); intro l0' N2'; clear N1' x' lt' n'; (try k_sweep))))
  k_with "m:compareOp Lt ref ref" => ((k_here; k_dflt (refine' pair_lt2 ?zzN ?zzha ?zzhb ?zzhu ?_; (case zzN => k_asm); (case zzha => k_mem); (case zzhb => k_mem); (case zzhu => k_room))))
  k_with "end er" => ((intro y; (dsimp only [erM]); first | ((refine' Eq.trans ?zzh1 (Eq.trans (lk_eq ?zza ?zzb y) (Eq.symm ?zzh2))); (case zzh2 => apply ch7 (y := y)); (case zzh1 => first | apply ch9 (y := y) | apply ch8 (y := y) | apply ch10 (y := y) | apply ch11 (y := y) | apply ch12 (y := y) | apply ch7 (y := y)); (case zza => kernel_rfl); (case zzb => kernel_rfl)) | ((by_cases h1 : y = Str.ofString "key"); (subst h1; exact rfl); (by_cases h2 : y = Str.ofString "far"); (subst h2; exact rfl); (by_cases h3 : y = Str.ofString "column"); (subst h3; exact rfl); (by_cases h4 : y = Str.ofString "octets"); (subst h4; exact rfl); (by_cases h5 : y = Str.ofString "found"); (subst h5; exact rfl); (simp only [h1, h2, h3, h4, h5, if_false]))))
  trivial

abbrev oI (at' : Option Int) (t : Tok) : Value := match at' with | none => .none | some a => .int a t
abbrev erM (c : Addr) (left : Int) (tl : Tok) (right : Int) (tr : Tok) (cn : Int) (tc : Tok) (atv : Value) (many : Int) (tm : Tok) (wl : Addr) (fv ov oc of ok : Option Value) : Str → Option Value := fun y =>
  if y = Str.ofString "key" then ok else if y = Str.ofString "far" then of else if y = Str.ofString "column" then oc else if y = Str.ofString "octets" then ov else if y = Str.ofString "found" then fv else if y = Str.ofString "ways" then some (.ref wl) else if y = Str.ofString "many" then some (.int many tm) else
  List.lookup y [(Str.ofString "caps", Value.ref c), (Str.ofString "left", Value.int left tl), (Str.ofString "right", Value.int right tr), (Str.ofString "columns", Value.int cn tc), (Str.ofString "at", atv)].reverse
def ErPost (r : Option (List UInt8 × Int)) (h : Heap) (v : Value) (h' : Heap) : Prop := match r with
  | none => v = .none
  | some (b, col) => ∃ a t1 t2, v = .ref a ∧ New h a (tupOf [.bytes b.toArray t1, .int col t2]) h'
inductive ErI (w : World) (l : Strs) (kd : Addr) (K : List (Addr × Obj)) (c : Addr) (left : Int) (tl : Tok) (right : Int) (tr : Tok) (cn : Int) (tc : Tok) (atv : Value) (wl : Addr) (g : Heap) (L : Addr) (s : Shared) (ws : List Way) (s' : Shared) : Prop
  | intro (h : _) (tk : _) (vs : _) (n : _) (W : _) (K' : _) (tm : _) : s' = ⟨h, s.gens, s.drawn, tk, s.os⟩ → Fr g L h (erM c left tl right tr cn tc atv (right - left + 1) tm wl none none none none none) → News g L h ((wl, listOf vs.toArray n) :: (W ++ K')) → AreW W vs ws → (∀ p ∈ W, p.2.cls = .type "tuple") → KC w l kd K K' → ErI w l kd K c left tl right tr cn tc atv wl g L s ws s'
theorem erM0 {c : Addr} {left : Int} {tl : Tok} {right : Int} {tr : Tok} {cn : Int} {tc : Tok} {atv : Value} {many : Int} {tm : Tok} {wl : Addr} (y : Str) :
    (if y = Str.ofString "ways" then some (Value.ref wl) else if y = Str.ofString "many" then some (.int many tm) else List.lookup y [(Str.ofString "caps", Value.ref c), (Str.ofString "left", Value.int left tl), (Str.ofString "right", Value.int right tr), (Str.ofString "columns", Value.int cn tc), (Str.ofString "at", atv)].reverse)
      = erM c left tl right tr cn tc atv many tm wl none none none none none y := by
  simp only [erM]
  by_cases h1 : y = Str.ofString "key"
  · subst h1; rfl
  by_cases h2 : y = Str.ofString "far"
  · subst h2; rfl
  by_cases h3 : y = Str.ofString "column"
  · subst h3; rfl
  by_cases h4 : y = Str.ofString "octets"
  · subst h4; rfl
  by_cases h5 : y = Str.ofString "found"
  · subst h5; rfl
  simp only [h1, h2, h3, h4, h5, if_false]
inductive ErJ (w : World) (l : Strs) (kd : Addr) (K : List (Addr × Obj)) (c : Addr) (left : Int) (tl : Tok) (right : Int) (tr : Tok) (cn : Int) (tc : Tok) (atv : Value) (wl : Addr) (vs : List Value) (n : Nat) (W : List (Addr × Obj)) (at' : Option Int) (i : Nat) (m' : Str → Option Value) (n' : List (Addr × Obj)) : Prop
  | intro (K' : _) (st : _) (fv : _) (FW : _) (tm : _) (ov : _) (oc : _) (of : _) (ok : _) : n' = FW ++ (wl, listOf vs.toArray n) :: (W ++ K') → Fnd st fv FW → st = bestF l at' ((wayF l left right cn).take i) → KC w l kd K K' → (∀ y, m' y = erM c left tl right tr cn tc atv (right - left + 1) tm wl (some fv) ov oc of ok y) → ErJ w l kd K c left tl right tr cn tc atv wl vs n W at' i m' n'
theorem tup_it {W : List (Addr × Obj)} (hW : ∀ p ∈ W, p.2.cls = .type "tuple") : ∀ p ∈ W, isIt p.2.cls = false := fun p hp => by rw [hW p hp]; rfl
theorem ErJ.cls {w : World} {l : Strs} {kd : Addr} {K : List (Addr × Obj)} {c : Addr} {left : Int} {tl : Tok} {right : Int} {tr : Tok} {cn : Int} {tc : Tok} {atv : Value} {wl : Addr} {vs : List Value} {n : Nat} {W : List (Addr × Obj)} {at' : Option Int} {i : Nat} {m' : Str → Option Value} {n' : List (Addr × Obj)} (hW : ∀ p ∈ W, p.2.cls = .type "tuple")
    (J : ErJ w l kd K c left tl right tr cn tc atv wl vs n W at' i m' n') : ∀ p ∈ n', isIt p.2.cls = false := by
  obtain ⟨K', st, fv, FW, tm, ov, oc, of, ok, rfl, hF, -, kh, -⟩ := J
  intro p hp
  rcases List.mem_append.mp hp with hp | hp
  · exact tup_it hF.cls p hp
  · rcases List.mem_cons.mp hp with rfl | hp
    · rfl
    · rcases List.mem_append.mp hp with hp | hp
      · exact tup_it hW p hp
      · exact kept_it kh.1 p hp
inductive ErF (w : World) (l : Strs) (kd : Addr) (K : List (Addr × Obj)) (g : Heap) (L : Addr) (s : Shared) (m1 : Addr → Str → Option Value) (far : Int × Int) (X : List (Addr × Obj) → List (Addr × Obj)) (s' : Shared) : Prop
  | intro (h : _) (tk : _) (K' : _) (x : _) (t1 : _) (t2 : _) : s' = ⟨h, s.gens, s.drawn, tk, s.os⟩ → Fr g L h (m1 x) → News g L h ((x, tupOf [.int far.1 t1, .int far.2 t2]) :: X K') → KC w l kd K K' → ErF w l kd K g L s m1 far X s'
theorem way_mem {l : Strs} {left right cn : Int} {x : Way} (h : x ∈ wayF l left right cn) : x.2 = left ∨ x.2 = right := by
  unfold wayF at h
  rcases List.mem_append.mp h with h | h
  · rcases List.mem_append.mp h with h | h
    · rw [List.mem_singleton.mp h]; exact .inl rfl
    · split at h
      · rw [List.mem_singleton.mp h]; exact .inl rfl
      · cases h
  · split at h
    · rw [List.mem_singleton.mp h]; exact .inr rfl
    · cases h
theorem way_fits {l : Strs} (G : GoodS l) {left right cn : Int} {x : Way} (h : x ∈ wayF l left right cn) : Fits x.1 1000 := by
  unfold wayF at h
  rcases List.mem_append.mp h with h | h
  · rcases List.mem_append.mp h with h | h
    · rw [List.mem_singleton.mp h]; exact fits_told G _ _
    · split at h
      · rw [List.mem_singleton.mp h]; exact fits_told G _ _
      · cases h
  · split at h
    · rw [List.mem_singleton.mp h]; exact fits_told G _ _
    · cases h
theorem endN1 {h₀ h : Heap} {L fa ka x a it wl : Addr} {o1 o2 ito ol : Obj} {b : List UInt8} {col k1 k2 : Int} {t1 t2 t3 t4 : Tok} {Y : List (Addr × Obj)}
    (N : News h₀ L h ((fa, tupOf [.ref ka, .bytes b.toArray t1, .int col t2]) :: (ka, tupOf [.int k1 t3, .int k2 t4]) :: (x, o1) :: (a, o2) :: (it, ito) :: (wl, ol) :: Y)) :
    News h₀ L h ((it, ito) :: ([(fa, tupOf [.ref ka, .bytes b.toArray t1, .int col t2]), (ka, tupOf [.int k1 t3, .int k2 t4])] ++ (wl, ol) :: Y)) := fun p hp => N p (by
  rcases List.mem_cons.mp hp with rfl | hp
  · exact .tail _ (.tail _ (.tail _ (.tail _ (.head _))))
  · rcases List.mem_append.mp hp with hp | hp
    · rcases List.mem_cons.mp hp with rfl | hp
      · exact .head _
      · rw [List.mem_singleton.mp hp]; exact .tail _ (.head _)
    · exact .tail _ (.tail _ (.tail _ (.tail _ (.tail _ hp)))))
theorem endN2 {h₀ h : Heap} {L fa ka x a it wl : Addr} {o1 o2 ito ol : Obj} {b : List UInt8} {col k1 k2 : Int} {t1 t2 t3 t4 : Tok} {p1 p2 : Addr × Obj} {Y : List (Addr × Obj)}
    (N : News h₀ L h ((fa, tupOf [.ref ka, .bytes b.toArray t1, .int col t2]) :: (ka, tupOf [.int k1 t3, .int k2 t4]) :: (x, o1) :: (a, o2) :: (it, ito) :: p1 :: p2 :: (wl, ol) :: Y)) :
    News h₀ L h ((it, ito) :: ([(fa, tupOf [.ref ka, .bytes b.toArray t1, .int col t2]), (ka, tupOf [.int k1 t3, .int k2 t4])] ++ (wl, ol) :: Y)) := fun p hp => N p (by
  rcases List.mem_cons.mp hp with rfl | hp
  · exact .tail _ (.tail _ (.tail _ (.tail _ (.head _))))
  · rcases List.mem_append.mp hp with hp | hp
    · rcases List.mem_cons.mp hp with rfl | hp
      · exact .head _
      · rw [List.mem_singleton.mp hp]; exact .tail _ (.head _)
    · exact .tail _ (.tail _ (.tail _ (.tail _ (.tail _ (.tail _ (.tail _ hp)))))))
theorem swap2 {p q : Addr × Obj} {X : List (Addr × Obj)} {h₀ h : Heap} {L : Addr} (N : News h₀ L h (p :: q :: X)) : News h₀ L h (q :: p :: X) := fun r hr => N r (by
  rcases List.mem_cons.mp hr with rfl | hr
  · exact .tail _ (.head _)
  · rcases List.mem_cons.mp hr with rfl | hr
    · exact .head _
    · exact .tail _ (.tail _ hr))
theorem does_erase (w : World) (l : Strs) (c kd : Addr) (left right cn : Int) (at' : Option Int) (tl tr tc ta : Tok) (G : GoodS l) (hl0 : 0 ≤ left) (hl1 : left ≤ right) (hr : right < cn) (hc : cn < 98) (hat : ∀ a, at' = some a → 0 ≤ a ∧ a < 98) :
    DoesC w l c kd 501 400 1300 [.ref c, .int left tl, .int right tr, .int cn tc, oI at' ta] [] (ErPost (eraseF l left right cn at')) := by
  k_with "nocons" => (with_reducible show wG _ _ (execs (Stmt.If (Expr.Compare (Expr.Name (Str.ofString "right") _) _ _ _) _ _ _ :: _) _) _ _)
  k_with "nocons" => (with_reducible show wG _ _ (execs (Stmt.Assign [Expr.Name (Str.ofString "far") _] _ _ :: _) _) _ _)
  k_with "nocons" => (with_reducible show wG _ _ (execs (Stmt.If (Expr.Compare (Expr.Name (Str.ofString "left") _) _ _ _) _ _ _ :: _) _) _ _)
  intro K dp un gd env outer A₀ base h₀ L m mean mg mb s Q hK CA B F X T N hf hk hd hu hret
  refine' enter_G (binds := [(Str.ofString "caps", .ref c), (Str.ofString "left", .int left tl), (Str.ofString "right", .int right tr), (Str.ofString "columns", .int cn tc), (Str.ofString "at", oI at' ta)]) ?B ?F ?X ?T ?N ?f ?k ?room ?ho ?hcd ?hbind ?hloc ?_ ?c2 ?c3 ?c4 ?c5
  (case B => exact B); (case F => exact F); (case X => exact X); (case T => exact T); (case N => exact N); (case f => exact hf); (case k => exact hk)
  (case room => walk_at "lim")
  (case ho => k_is); (case hcd => k_is); (case hbind => (intro _; exact BindsTo.of_eq rfl)); (case hloc => exact locs rfl)
  (case c2 => exact rfl); (case c3 => exact rfl); (case c4 => exact rfl); (case c5 => decide)
  k_whole
  clear B F X T N hf hk
  intro g' L' h' F' N' B' X' T' hsub hlt hsz
  (try dsimp only)
  (try k_fold)
  have CG := caps_in CA hsub
  have KH := KC.refl hK
  clear CA
  dsimp only [List.nil_append, List.cons_append] at N' hlt hsub
  have CG2 := CG
  obtain ⟨cd, i, id, q1, q2, q3, q4, q5, q6, q7, q8, na, bo, nu, sd, mo, us, CG3⟩ := CG2
  have a1 := CG3.caps
  have a2 := CG3.capsd
  clear CG3
  have I1 := inst_of a1 a2
  clear a1 a2
  k_steps
  rename_i wl x2 l1 x1 F0 N0
  rename KC _ _ _ _ _ => kh
  refine' wG_cut (ErI w l kd K c left tl right tr cn tc (oI at' ta) wl g' L' s [(toldF l sEch [right - left + 1], left)]) ?e0 ?_
  (case e0 => exact ⟨_, _, [_], _, [_], _, _, rfl, frCongr F0 erM0, (fun p hp => N0 p (by
      rcases List.mem_cons.mp hp with rfl | hp
      · exact .head _
      · rcases List.mem_cons.mp hp with rfl | hp
        · exact .tail _ (.head _)
        · exact .tail _ (.tail _ (.tail _ hp)))), .cons _ _ _ _ (.head _) .nil, (by intro p hp; rw [List.mem_singleton.mp hp]), kh⟩)
  clear N0 F0 kh l1
  rintro s' ⟨h1, tk1, vs, n, W, K1, tm, rfl, F1, N1, AW, hW, kh⟩
  have hvl : vs.length = 1 := AW.len
  refine' wG_joinN (ErI w l kd K c left tl right tr cn tc (oI at' ta) wl g' L' s ([(toldF l sEch [right - left + 1], left)] ++ (if right = cn - 1 then [(toldF l sEl [], left)] else []))) ?_ ?_
  · rcases (by omega : right = cn - 1 ∨ right ≠ cn - 1) with hz | hz
    · have hz2 : (right == cn - 1) = true := by simpa using hz
      k_steps
      (rename Fr _ _ _ _ => F2; rename News _ _ _ _ => N2; rename KC _ _ _ _ _ => kh2)
      exact ⟨rfl, _, _, _, _, _ :: W, _, _, rfl, F2, swap2 N2, (by rw [if_pos hz]; exact (AW.mono fun p hp => .tail _ hp).snoc (.head _)), cls_cons rfl hW, kh2⟩
    · have hz2 : (right == cn - 1) = false := by simpa using hz
      k_steps
      exact ⟨rfl, _, _, _, _, W, _, _, rfl, F1, N1, (by rw [if_neg hz]; exact AW), hW, kh⟩
  clear AW hW kh F1 N1 hvl
  rintro s' ⟨h1, tk1, vs, n, W, K1, tm, rfl, F1, N1, AW, hW, kh⟩
  have hvl : vs.length ≤ 2 := by have := AW.len; rw [this]; split <;> simp
  refine' wG_joinN (ErI w l kd K c left tl right tr cn tc (oI at' ta) wl g' L' s (wayF l left right cn)) ?_ ?_
  · rcases (by omega : left = 0 ∨ left ≠ 0) with hz | hz
    · have hz2 : (left == 0) = true := by simpa using hz
      k_steps
      (rename Fr _ _ _ _ => F2; rename News _ _ _ _ => N2; rename KC _ _ _ _ _ => kh2)
      exact ⟨rfl, _, _, _, _, _ :: W, _, _, rfl, F2, swap2 N2, (by rw [wayF, if_pos hz]; exact (AW.mono fun p hp => .tail _ hp).snoc (.head _)), cls_cons rfl hW, kh2⟩
    · have hz2 : (left == 0) = false := by simpa using hz
      k_steps
      exact ⟨rfl, _, _, _, _, W, _, _, rfl, F1, N1, (by rw [wayF, if_neg hz, List.append_nil]; exact AW), hW, kh⟩
  clear AW hW kh F1 N1 hvl
  rintro s' ⟨h1, tk1, vs, n, W, K1, tm, rfl, F1, N1, AW, hW, kh⟩
  k_steps
  rename Fr _ _ _ _ => F0
  rename News _ _ _ _ => N0
  refine' iter_listP (vs := vs) (n := n) rfl (ErJ w l kd K c left tl right tr cn tc (oI at' ta) wl vs n W at') F0 N0 ⟨K1, none, .none, [], tm, none, none, none, none, rfl, .none, rfl, kh, (by walk_at "end er")⟩ ?_ (fun i m' n' J => J.cls hW) ?_ ?_ ?_
  · rintro i m' n' ⟨K', st, fv, FW, tm, ov, oc, of, ok, rfl, -⟩; exact List.mem_append_right _ (.head _)
  · rintro it ito i v m' n' h tk hv ⟨K2, st, fv, FW, tm2, ov, oc, of, ok, rfl, hF, hst, kh2, hm⟩ hit F1 N1
    obtain ⟨a, o, t, col, tcol, rfl, hmW, hoi⟩ := AW.get hv
    have hik := isIt_kept hit
    have hFW := hF.cls
    have hbest := bestF_take (l := l) (at' := at') hoi
    have hcol := way_mem (List.mem_of_getElem? hoi)
    have hfit := way_fits G (List.mem_of_getElem? hoi)
    dsimp only at hcol hfit
    have hcol2 : 0 ≤ col ∧ col < 98 := by omega
    replace F1 := frCongr F1 hm
    have N2 : News g' L' h ((a, tupOf [oV o t, .int col tcol]) :: (it, ito) :: (FW ++ (wl, listOf vs.toArray n) :: (W ++ K2))) := fun p hp => by
      rcases List.mem_cons.mp hp with rfl | hp
      · exact N1 _ (.tail _ (List.mem_append_right _ (.tail _ (List.mem_append_left _ hmW))))
      · exact N1 p hp
    clear N1 hm F0 N0 hv kh hcol
    cases o with
    | none =>
      dsimp only [oV] at N2
      k_steps
      (rename Fr _ _ _ _ => F2; rename News _ _ _ _ => N3)
      exact EndL.intro _ _ _ _ rfl F2 (fun p hp => N3 p (.tail _ hp)) ⟨K2, st, fv, FW, tm2, some .none, some (.int col tcol), of, ok, rfl, hF, (by rw [hbest, ← hst]; rfl), kh2, (by walk_at "end er")⟩
    | some b =>
      dsimp only [oV] at N2
      k_steps
      (rename Fr _ _ _ _ => F2; rename News _ _ _ _ => N3)
      refine' wG_joinN (ErF w l kd K g' L' s (fun x => erM c left tl right tr cn tc (oI at' ta) (right - left + 1) tm2 wl (some fv) (some (.bytes b.toArray t)) (some (.int col tcol)) (some (.ref x)) ok) (farF l at' col) (fun K' => (a, tupOf [.bytes b.toArray t, .int col tcol]) :: (it, ito) :: (FW ++ (wl, listOf vs.toArray n) :: (W ++ K')))) ?_ ?_
      · clear hbest hst hoi
        cases at' with
        | none =>
          dsimp only [oI] at F2
          k_steps
          (rename Fr _ _ _ _ => F3; rename News _ _ _ _ => N4; rename KC _ _ _ _ _ => kh3)
          exact ⟨rfl, _, _, _, _, _, _, rfl, frCongr F3 (by walk_at "end er"), N4, kh3⟩
        | some av =>
          dsimp only [oI] at F2
          obtain ⟨ha0, ha1⟩ := hat av rfl
          have hfa : Fits (acrossF l av col) 100000 := (fits_across G ha0 ha1 hcol2.1 hcol2.2).mono (by decide)
          k_steps
          (rename Fr _ _ _ _ => F3; rename News _ _ _ _ => N4; rename KC _ _ _ _ _ => kh3)
          exact ⟨rfl, _, _, _, _, _, _, rfl, frCongr F3 (by walk_at "end er"), N4, kh3⟩
      · clear F2 N3 kh2
        rintro s' ⟨h2, tk2, K3, x, u1, u2, rfl, F3, N4, kh3⟩
        have hb := hfit b rfl
        generalize hfar : farF l at' col = far at N4
        obtain ⟨f1, f2⟩ := far
        dsimp only at N4
        cases hF with
        | none =>
          dsimp only [List.nil_append] at N4
          k_steps
          (rename Fr _ _ _ _ => F5; rename News _ _ _ _ => N5)
          exact EndL.intro _ _ _ _ rfl F5 (endN1 N5) ⟨K3, _, _, _, tm2, _, _, _, _, rfl, Fnd.some _ _ (f1, f2 + (b.length : Int)) b col _ _ _ _, (by rw [hbest, ← hst]; simp only [stepB, hfar]), kh3, (by walk_at "end er")⟩
        | some fa ka key b0 col0 v1 v2 v3 v4 =>
          dsimp only [List.nil_append, List.cons_append] at N4
          k_steps
          · rename ltP _ _ = true => hlp
            (rename Fr _ _ _ _ => F5; rename News _ _ _ _ => N5)
            exact EndL.intro _ _ _ _ rfl F5 (endN2 N5) ⟨K3, _, _, _, tm2, _, _, _, _, rfl, Fnd.some _ _ (f1, f2 + (b.length : Int)) b col _ _ _ _, (by rw [hbest, ← hst]; simp only [stepB, hfar]; exact (if_pos hlp).symm), kh3, (by walk_at "end er")⟩
          · rename ltP _ _ = false => hlp
            (rename Fr _ _ _ _ => F5; rename News _ _ _ _ => N5)
            exact EndL.intro _ _ _ _ rfl F5 (fun p hp => N5 p (.tail _ (.tail _ (.tail _ hp)))) ⟨K3, _, _, _, tm2, _, _, _, _, rfl, Fnd.some fa ka key b0 col0 v1 v2 v3 v4, (by rw [hbest, ← hst]; simp only [stepB, hfar]; exact (if_neg (by rw [show ltP (f1, f2 + (b.length : Int)) key = false from hlp]; exact Bool.false_ne_true)).symm), kh3, (by walk_at "end er")⟩
  · rintro m' n' h tk ⟨K2, st, fv, FW, tm2, ov, oc, of, ok, rfl, hF, hst, kh2, hm⟩ F1 N1
    replace F1 := frCongr F1 hm
    rw [AW.len, List.take_length] at hst
    clear F0 N0 hm kh
    cases hF with
    | none =>
      dsimp only [List.nil_append] at N1
      k_steps
      exact endC (pre := []) (hret _ _ _) kE (by assumption) hsub (by k_asm) (by walk_at "end tail") (by intro p hp; cases hp) (by rw [eraseF, ← hst]; rfl)
    | some fa ka key b0 col0 v1 v2 v3 v4 =>
      dsimp only [List.nil_append, List.cons_append] at N1
      k_steps
      rename _ ∧ _ ∧ _ ∧ AllLt _ _ => lX
      exact endC (pre := []) (hret _ _ _) kE (by assumption) hsub (by k_asm) (by walk_at "end tail") (by intro p hp; cases hp) (by rw [eraseF, ← hst]; exact ⟨_, _, _, rfl, New.of' hsub (by k_asm) (.head _) (newC kh2 (allLt_app lX.2.2.2))⟩)
  · intro it i v s' Q hit q
    exact own_list hit q

/-! PQL0 -/
theorem figs_cps_fin : ∀ m : Fin 100, (Str.ofString (toString (m.val : Int))).cps.toList = (figs (m.val : Int)).map (·.toNat) := by decide +kernel
theorem figs_cps {n : Int} (h0 : 0 ≤ n) (h1 : n < 100) : (Str.ofString (toString n)).cps.toList = (figs n).map (·.toNat) := by
  have := figs_cps_fin ⟨n.toNat, by omega⟩
  have e : ((n.toNat : Nat) : Int) = n := by omega
  simp only [e] at this
  exact this
def OrdF (v y : Value) : Prop := ∀ c u, v = .str ⟨#[c]⟩ u → ∃ t, y = .int (c : Nat) t
theorem ord_ints : ∀ (vs ys : List Value) (cs : List Nat), Paired OrdF vs ys → vs.length = cs.length → (∀ (j : Nat) (v : Value), vs[j]? = some v → ∃ (c : Nat) (u : Tok), cs[j]? = some c ∧ v = Value.str ⟨#[c]⟩ u) → IntsAre ys (cs.map fun (c : Nat) => (c : Int))
  | [], _, cs, .nil, hl, _ => by
    cases cs with
    | nil => exact .nil
    | cons _ _ => simp at hl
  | v :: vs, y :: ys, cs, .cons hv ht, hl, h => by
    cases cs with
    | nil => simp at hl
    | cons c cs =>
      obtain ⟨c', u, e1, e2⟩ := h 0 v (by simp)
      simp at e1
      subst e1
      obtain ⟨t, rfl⟩ := hv _ _ e2
      exact .cons _ _ (ord_ints vs ys cs ht (by simpa using hl) fun j x hx => by
        have := h (j + 1) x (by simpa using hx)
        simpa using this)
section
variable {w : World} {A : Around} {s : Shared} {E : Value → Shared → Prop} {h₀ : Heap} {L : Addr} {m : Str → Option Value} {news : List (Addr × Obj)} {mean : ExcName → Option Value} {mg mb : Str → Option Value}
end

/-! PQL1 -/


theorem spliced_one {M : Model} {A : Around} {E : Value → Shared → Prop} {s : Shared} {pos : Pos} {e : Expr} {env : Env} {Q : List Value → Shared → Prop} (h : wpAny M A (eval e env) (fun v s₁ => Q [v] s₁) E s)
    (he : starEach [e] env = [(false, eval e env)] := by rfl) : wpAny M A (spliced (backTo pos (starEach [e] env))) Q E s := by
  rw [he]
  exact PySem.Calls.spliced_cons (wpAny_mono h (fun v s₁ h₁ => PySem.Calls.spliced_nil h₁) fun _ _ x => x)
theorem elt_ord {w : World} {A : Around} {s : Shared} {E : Value → Shared → Prop} {h₀ : Heap} {L : Addr} {m : Str → Option Value} {mean : ExcName → Option Value} {mg mb : Str → Option Value} {cenv : Env} {c : Nat} {u : Tok} {m₃ : Str → Option Value} {p1 p2 p3 : Pos} {Q : Value → Shared → Prop} (F : Fr h₀ L s.heap m) (X : (hd.heap_1 w.params).In h₀) (T : TopM mean mg mb h₀) (hns : s.heap.Ns cenv.locals m₃) (hv : m₃ (Str.ofString "sign") = some (.str ⟨#[c]⟩ u))
    (hk : cenv.scope.kind = .function) (hs : cenv.kindOf (Str.ofString "sign") = some .local) (ho : cenv.kindOf (Str.ofString "ord") = some .globalImplicit) (hg : cenv.globals = mainGlobals) (hb : cenv.builtins = builtinsNs)
    (h : ∀ t tk, Q (.int (c : Nat) t) ⟨s.heap, s.gens, s.drawn, tk, s.os⟩) : wpAny (model pw w) A (eval (.Call (.Name (Str.ofString "ord") p1) [.Name (Str.ofString "sign") p2] [] p3) cenv) Q E s := by
  refine call_any ?_
  have TR := topRead_of T
  have e1 : mg (Str.ofString "ord") = none := mg_none_of X TR.g (by k_is)
  have e2 : mb (Str.ofString "ord") = some (.builtin "ord") := (TR.builtins _ (by decide)).trans PyProof.Rows.Boot.«ord»
  have e3 := TR.g.keeps F.keep
  have e4 := TR.b.keeps F.keep
  rw [← hg] at e3
  rw [← hb] at e4
  refine Name_function_global hk ho (loadGlobal_builtin e3 e1 e4 e2 ?_) (by decide)
  have hname : ∀ (Q : Value → Shared → Prop), Q (.str ⟨#[c]⟩ u) s → wpAny (model pw w) A (eval (.Name (Str.ofString "sign") p2) cenv) Q E s := by
    intro Q q
    refine wpAny_Name ?_ (by decide)
    refine wpAny_loadName_local (env := cenv) (m := m₃) hk hs hns hv ?_
    with_reducible exact q
  refine PyProof.Rows.callWith_builtin1 ?_
  refine spliced_one (hname _ ?_)
  exact ord_of_one rfl (h _ _)
theorem figs_iter {w : World} {A : Around} {s : Shared} {E : Value → Shared → Prop} {h₀ : Heap} {L : Addr} {m : Str → Option Value} {news : List (Addr × Obj)} {mean : ExcName → Option Value} {mg mb : Str → Option Value} {env : Env} {scope : Scope} {x : Str} {t : Tok} {cs : List Nat} {p1 p2 p3 : Pos} {G : Shared → Addr → Heap → Nat → Prop}
    (hh : A.handled = none) (F : Fr h₀ L s.heap m) (N : News h₀ L s.heap news) (X : (hd.heap_1 w.params).In h₀) (T : TopM mean mg mb h₀) (hx : x.cps.toList = cs) (hc : cs.length ≤ 10)
    (hk : scope.kind = .function) (hs : ∀ C, (compEnvC scope [] C env).kindOf (Str.ofString "sign") = some .local) (ho : ∀ C, (compEnvC scope [] C env).kindOf (Str.ofString "ord") = some .globalImplicit) (hg : env.globals = mainGlobals) (hb : env.builtins = builtinsNs)
    (h : ∀ D ys h' tk, Fr h₀ L h' m → News h₀ L h' news → h'.IsList D ys.toArray → IntsAre ys (cs.map fun (c : Nat) => (c : Int)) → ∀ hx, G ⟨hx, s.gens, s.drawn, s.toks, s.os⟩ D h' tk) :
    wpAny (model pw w) A (pyIter (.str x t)) (fun it s₂ => ∃ I fp wr n P St, it = .ref I ∧ Walks pw w A I fp wr n P St ∧ n ≤ sizeLine ∧ St 0 s₂.heap ∧ (∀ b ∈ fp, b < s₂.heap.objs.size) ∧
      QuietOnC pw w A env scope [] (Str.ofString "sign") [] (.Call (.Name (Str.ofString "ord") p1) [.Name (Str.ofString "sign") p2] [] p3) wr P (fun _ => true) OrdF s₂ ∧
      (∀ D h' tk ys (vs : List Value), s₂.heap.get? D = none → h'.IsList D ys → h'.PlainList D ys → vs.length = n → (∀ j v, vs[j]? = some v → P j v) → Paired OrdF (vs.filter fun _ => true) ys.toList →
        (∀ b o, b ∉ wr → s₂.heap.get? b = some o → h'.get? b = some o) → G s₂ D h' tk)) E s := by
  refine wpAny_pyIter_str fun o St W hst => ?_
  have old : ∀ (h' : Heap), (∀ b o', b ∉ [s.heap.objs.size] → (s.heap.push o).get? b = some o' → h'.get? b = some o') → ∀ b o', s.heap.get? b = some o' → h'.get? b = some o' := fun h' k b o' e =>
    k b o' (by intro q; have := Heap.lt_size e; rw [List.mem_singleton.mp q] at this; exact Nat.lt_irrefl _ this) (Heap.get?_push_of_some _ e)
  refine ⟨_, _, _, _, _, _, rfl, W A hh, ?_, hst, ?_, ⟨?_, ?_⟩, ?_⟩
  · rw [← Array.length_toList, hx]; simp only [sizeLine]; omega
  · intro b hb'
    rw [List.mem_singleton.mp hb', Heap.size_push]; exact Nat.lt_succ_self _
  · intro C i v s₃ m₃ E' _ _ hns hv k htk
    exact wpAny_tests_nil ⟨rfl, s₃.heap, s₃.toks, rfl, fun b o e => e⟩
  · intro C i v s₃ m₃ E' _ hP _ hns hv k htk
    obtain ⟨c, u, hcx, rfl⟩ := hP
    refine elt_ord (m₃ := m₃) (F.keeps (old s₃.heap k)) X T hns hv hk (hs C) (ho C) hg hb fun t' tk => ⟨?_, s₃.heap, tk, rfl, fun b o e => e⟩
    intro c' u' e
    have : c = c' := by
      have := congrArg (fun v => match v with | Value.str x _ => x.cps.toList | _ => []) e
      simpa using this
    exact ⟨t', by rw [this]⟩
  · intro D h' tk ys vs hD hl _ hlen hP hF k
    have hk' := old h' k
    have hfil : vs.filter (fun _ => true) = vs := List.filter_eq_self.mpr (fun _ _ => rfl)
    rw [hfil] at hF
    refine h D ys.toList h' tk (F.keeps hk') (N.grown hk') (by rw [Array.toArray_toList]; exact hl) ?_ _
    refine ord_ints vs ys.toList cs hF (by rw [hlen, ← hx, Array.length_toList]) fun j v hv => ?_
    obtain ⟨c, u, hcx, e⟩ := hP j v hv
    exact ⟨c, u, by rw [← hx, Array.getElem?_toList]; exact hcx, e⟩
theorem figs_len10 (n : Int) : ((figs n).map (·.toNat)).length ≤ 10 := by
  have := figs_len n
  rw [List.length_map]; omega
theorem bytes_figs {w : World} {A : Around} {s : Shared} {E : Value → Shared → Prop} {h₀ : Heap} {L D : Addr} {m : Str → Option Value} {news : List (Addr × Obj)} {ys : List Value} {n : Int} {Q : Value → Shared → Prop} (F : Fr h₀ L s.heap m) (N : News h₀ L s.heap news) (hl : s.heap.IsList D ys.toArray) (hi : IntsAre ys (((figs n).map (·.toNat)).map fun (c : Nat) => (c : Int))) (hh : A.handled = none)
    (h : ∀ h' t k, Fr h₀ L h' m → News h₀ L h' news → Q (.bytes (figs n).toArray t) ⟨h', s.gens, s.drawn, k, s.os⟩) : wpAny (model pw w) A (call (.type "bytes") [.ref D]) Q E s := by
  refine call_bytes_ints hl hi (fun x hx => ?_) ?_ hh fun h' t k hk => ?_
  · rw [List.map_map] at hx
    obtain ⟨b, _, rfl⟩ := List.mem_map.mp hx
    have := b.toNat_lt
    simp only [Function.comp]; omega
  · have := figs_len10 n
    rw [hi.length, List.length_map]; simp only [sizeLine]; omega
  · have e : byteArr (((figs n).map (·.toNat)).map fun (c : Nat) => (c : Int)) = (figs n).toArray := by
      unfold byteArr
      simp [List.map_map, Function.comp_def]
    rw [e]
    exact h h' t k (F.keeps hk) (N.grown hk)

/-! PQL2 -/


local macro_rules | `(tactic| walk_at "eval ListComp") => `(tactic| k_extra "m:eval ListComp")
local macro_rules | `(tactic| walk_at "pyIter str") => `(tactic| k_extra "m:pyIter str")
theorem regXmac25 : True := by
  k_with "m:eval ListComp" => ((k_here; (with_reducible show wpAny _ _ (eval _ (envOf (Str.ofString "_law_figures") _ _ _ _)) _ _ _); k_dflt (refine' wpAny_ListComp_free (cl := []) (fun _ => true) OrdF ?zzhclos ?zzhcell ?zzhkind ?zzhnames ?zzhx ?_ ?zzhs; (case zzhclos => exact rfl); (case zzhcell => decide); (case zzhkind => exact rfl); (case zzhnames => decide); (case zzhx => exact rfl); (case zzhs => (intro _; exact rfl)))))
  k_with "m:pyIter str" => ((k_here; k_dflt (refine' figs_iter ?zzhh ?zzF ?zzN ?zzX ?zzT ?zzhx ?zzhc ?zzhk ?zzhs ?zzho ?zzhg ?zzhb ?_; (case zzhh => exact rfl); (case zzF => k_asm); (case zzN => k_asm); (case zzX => k_asm); (case zzT => k_asm); (case zzhx => exact figs_cps (by omega) (by omega)); (case zzhc => exact figs_len10 _); (case zzhk => exact rfl); (case zzhs => (intro _; exact rfl)); (case zzho => (intro _; exact rfl)); (case zzhg => exact rfl); (case zzhb => exact rfl); intro D' ys' h' tk' F' N' hl' hi' hx'; (try dsimp only))))
  k_with "m:call type:bytes" => ((k_here; (with_reducible show wpAny _ _ (call (Value.type "bytes") [Value.ref _]) _ _ _); k_dflt (refine' bytes_figs ?zzF ?zzN ?zzhl ?zzhi ?zzhh ?_; (case zzhl => assumption); (case zzhi => assumption); (case zzF => k_asm); (case zzN => k_asm); (case zzhh => exact rfl); intro h' t' k' F' N')))
  trivial

theorem does_lawfigs (w : World) (n : Int) (t : Tok) (h0 : 0 ≤ n) (h1 : n < 100) : Does w 548 20 100 [.int n t] [] [] (fun _ v _ => IsB v (figs n)) := by
  intro dp un gd env outer A₀ base h₀ L m mean mg mb s Q E B F X T N hf hk hd hu hret
  refine' enter_def (binds := [(Str.ofString "number", .int n t)]) ?B ?F ?X ?T ?N ?f ?k ?room ?ho ?hcd ?hbind ?hloc ?_ ?c2 ?c3 ?c4 ?c5
  (case B => exact B); (case F => exact F); (case X => exact X); (case T => exact T); (case N => exact N); (case f => exact hf); (case k => exact hk)
  (case room => walk_at "lim")
  (case ho => k_is); (case hcd => k_is); (case hbind => (intro _; exact BindsTo.of_eq rfl)); (case hloc => exact locs rfl)
  (case c2 => exact rfl); (case c3 => exact rfl); (case c4 => exact rfl); (case c5 => decide)
  k_whole
  clear B F X T N hf hk
  intro g' L' h' F' N' B' X' T' hsub hlt hsz
  (try dsimp only)
  (try k_fold)
  k_steps
  exact hret _ _ _ (kE [] (by intro p hp; cases hp)) ⟨_, rfl⟩

/-! PQL3 -/




theorem regXmac26 : True := by
  k_with "m:call ref" => ((k_here; (with_reducible show wpAny _ _ (call (Value.ref 548) _) _ _ _); k_dflt (refine' Does.useM (does_lawfigs _ _ _ ?zzh0 ?zzh1) ?zzB ?zzF ?zzX ?zzT ?zzN ?zzhs ?zzhm ?zzf ?zzk ?zzhd ?zzhu ?_; (walk_at "end use0"); (case zzh0 => omega); (case zzh1 => omega); k_whole; intro v' h' k' F' x' lt' P'; (((first | refine Exists.elim P' ?_ | refine And.elim ?_ P'); clear P'; intro t' P'); subst P'); refine' led0 ?zzN x' ?_; (case zzN => k_asm); intro N'; clear x' lt'; (try k_sweep))))
  k_with "m:binaryOp Add bytes bytes" => ((k_here; k_dflt (refine' add_bytesL ?zzhz ?_; (case zzhz => ((try simp only [List.length_append, List.length_cons, List.length_nil]); omega)); intro t' k')))
  k_with "end all" => (exact tupOff (by with_reducible assumption) (by k_asm) (by k_mem) (by walk_at "end tail") (by exact rfl))
  k_with "end tail" => ((intro p hp; (repeat (first | exact hp | exact List.mem_append_right _ hp | refine List.Mem.tail _ ?_))))
  trivial

def TextAt (w : World) (h : Heap) (l : Strs) (st : Addr) : Prop := ∃ f, h.MapOf (bytesKind pw w) st f ∧ MapIs f l ∧ (st == sysModules) = false
theorem TextAt.keep {w : World} {h h' : Heap} {l : Strs} {st : Addr} (x : TextAt w h l st) (k : ∀ b o, h.get? b = some o → h'.get? b = some o) : TextAt w h' l st := let ⟨f, a, b, c⟩ := x; ⟨f, mapOf_keep a k, b, c⟩
def DoesS (w : World) (l : Strs) (st : Addr) (f : Addr) (d u : Nat) (vs : List Value) (Post : Heap → Value → Heap → Prop) : Prop :=
  ∀ (dp un : Nat) (gd : Option (List Code)) (env : Env) (outer : List Env) (A₀ : Around) (base h₀ : Heap) (L : Addr) (m : Str → Option Value) (mean : ExcName → Option Value) (mg mb : Str → Option Value) (s : Shared) (Q : Value → Shared → Prop),
    TextAt w h₀ l st → Below A₀ base outer h₀ → Fr h₀ L s.heap m → (hd.heap_1 w.params).In h₀ → TopM mean mg mb h₀ → News h₀ L s.heap [] → env.frame = some L → env.scope.kind = .function → dp + d < recursionLimit → un + u < cLine →
    (∀ v h' tk', Ext [] s.heap h' → Post s.heap v h' → Q v { s with heap := h', toks := tk' }) →
    wG w { handled := none, depth := dp, frames := some (env :: outer), guards := gd, units := un } (call (.ref f) vs) Q s
def lawW (l : Strs) (left right cn : Int) : List Way :=
  (if (l sEch).isSome then [(some ([27, 91] ++ figs (right - left + 1) ++ [88]), left)] else []) ++ (if (l sEl).isSome ∧ right = cn - 1 then [(some [27, 91, 75], left)] else []) ++ (if (l sEl1).isSome ∧ left = 0 then [(some [27, 91, 49, 75], right)] else [])
def LwPost (l : Strs) (left right cn : Int) (h : Heap) (v : Value) (h' : Heap) : Prop :=
  ∃ fl n vs W, v = .ref fl ∧ (∀ p ∈ (fl, listOf vs.toArray n) :: W, New h p.1 p.2 h') ∧ (∀ p ∈ W, p.2.cls = .type "tuple") ∧ AreW W vs (lawW l left right cn)
theorem add_bytesL {w : World} {A : Around} {E : Value → Shared → Prop} {s : Shared} {a b : List UInt8} {t u : Tok} {Q : Value → Shared → Prop} (hz : a.length + b.length < 100000) (h : ∀ t' k, Q (.bytes (a ++ b).toArray t') { s with toks := k }) :
    wpAny (model pw w) A (binaryOp Operator.Add (.bytes a.toArray t) (.bytes b.toArray u)) Q E s := by
  refine KBy.add_bytes (by simp only [List.size_toArray]; omega) ?_
  intro t' k
  rw [List.append_toArray]
  exact h t' k
inductive LwI (g : Heap) (L : Addr) (s : Shared) (m : Str → Option Value) (fl : Addr) (ws : List Way) (s' : Shared) : Prop
  | intro (h : _) (tk : _) (vs : _) (n : _) (W : _) : s' = ⟨h, s.gens, s.drawn, tk, s.os⟩ → Fr g L h m → News g L h ((fl, listOf vs.toArray n) :: W) → AreW W vs ws → (∀ p ∈ W, p.2.cls = .type "tuple") → LwI g L s m fl ws s'
theorem tupOff {h₀ h : Heap} {L a : Addr} {q : Obj} {W news : List (Addr × Obj)} (hW : ∀ p ∈ W, p.2.cls = .type "tuple") (N : News h₀ L h news) (hm : (a, q) ∈ news) (hs : ∀ p ∈ W, p ∈ news) (hc : isKept q.cls = false) : ∀ p ∈ W, p.1 ≠ a := by
  rintro p hp rfl
  have e1 := (N _ (hs p hp)).1
  rw [(N _ hm).1] at e1
  have e2 : q = p.2 := Option.some.inj e1
  rw [e2, hW p hp] at hc
  cases hc
theorem AreW.ifP {W : List (Addr × Obj)} {vs : List Value} {a b : List Way} {c : Prop} [Decidable c] (hc : c) (h : AreW W vs (a ++ b)) : AreW W vs (a ++ if c then b else []) := by rw [if_pos hc]; exact h
theorem AreW.ifN {W : List (Addr × Obj)} {vs : List Value} {a b : List Way} {c : Prop} [Decidable c] (hc : ¬ c) (h : AreW W vs a) : AreW W vs (a ++ if c then b else []) := by rw [if_neg hc, List.append_nil]; exact h
theorem does_lawways (w : World) (l : Strs) (st : Addr) (left right cn : Int) (tl tr tc : Tok) (G : GoodS l) (hl0 : 0 ≤ left) (hl1 : left ≤ right) (hr : right < cn) (hc : cn < 98) :
    DoesS w l st 555 60 300 [.ref st, .int left tl, .int right tr, .int cn tc] (LwPost l left right cn) := by
  k_with "nocons" => (with_reducible show wG _ _ (execs (Stmt.If _ _ _ _ :: _) (envOf (Str.ofString "_law_ways") _ _ _ _)) _ _)
  intro dp un gd env outer A₀ base h₀ L m mean mg mb s Q CA B F X T N hf hk hd hu hret
  replace CA := TextAt.keep CA F.keep
  have hfl := figs_len (right - left + 1)
  refine' enter_G (binds := [(Str.ofString "strings", .ref st), (Str.ofString "left", .int left tl), (Str.ofString "right", .int right tr), (Str.ofString "columns", .int cn tc)]) ?B ?F ?X ?T ?N ?f ?k ?room ?ho ?hcd ?hbind ?hloc ?_ ?c2 ?c3 ?c4 ?c5
  (case B => exact B); (case F => exact F); (case X => exact X); (case T => exact T); (case N => exact N); (case f => exact hf); (case k => exact hk)
  (case room => walk_at "lim")
  (case ho => k_is); (case hcd => k_is); (case hbind => (intro _; exact BindsTo.of_eq rfl)); (case hloc => exact locs rfl)
  (case c2 => exact rfl); (case c3 => exact rfl); (case c4 => exact rfl); (case c5 => decide)
  k_whole
  clear B F X T N hf hk
  intro g' L' h' F' N' B' X' T' hsub hlt hsz
  (try dsimp only)
  (try k_fold)
  obtain ⟨f, a5, a5', lo1⟩ := TextAt.keep CA (fun b o e => hsub b o e (by intro q; cases q))
  clear CA
  k_steps
  rename_i fl x1 l1 x0 F0 N0
  obtain ⟨m0, hm0, F0⟩ : ∃ m0, m0 = _ ∧ Fr g' L' x0 m0 := ⟨_, rfl, F0⟩
  refine' wG_cut (LwI g' L' s m0 fl []) ⟨_, _, [], _, [], rfl, F0, N0, .nil, (by intro p hp; cases hp)⟩ ?_
  clear N0 F0 l1
  rintro s' ⟨h1, tk1, vs, n, W, rfl, F1, N1, AW, hW⟩
  have hvl : vs.length = 0 := AW.len
  refine' wG_joinN (LwI g' L' s m0 fl (if (l sEch).isSome then [(some ([27, 91] ++ figs (right - left + 1) ++ [88]), left)] else [])) ?_ ?_
  · subst hm0
    obtain ⟨ty, hy⟩ := a5' sEch
    cases e : l sEch with
    | none =>
      rw [e] at hy; dsimp only [Option.map] at hy
      k_steps
      exact ⟨rfl, _, _, _, _, W, rfl, F1, N1, AW, hW⟩
    | some o =>
      rw [e] at hy; dsimp only [Option.map] at hy
      k_steps
      (rename Fr _ _ _ _ => F2; rename News _ _ _ _ => N2)
      exact ⟨rfl, _, _, _, _, _ :: W, rfl, F2, swap2 N2, (AW.mono fun p hp => .tail _ hp).snoc (.head _), cls_cons rfl hW⟩
  clear AW hW F1 N1 hvl
  rintro s' ⟨h1, tk1, vs, n, W, rfl, F1, N1, AW, hW⟩
  have hvl : vs.length ≤ 1 := by have := AW.len; rw [this]; split <;> simp
  refine' wG_joinN (LwI g' L' s m0 fl ((if (l sEch).isSome then [(some ([27, 91] ++ figs (right - left + 1) ++ [88]), left)] else []) ++ (if (l sEl).isSome ∧ right = cn - 1 then [(some [27, 91, 75], left)] else []))) ?_ ?_
  · subst hm0
    obtain ⟨ty, hy⟩ := a5' sEl
    cases e : l sEl with
    | none =>
      rw [e] at hy; dsimp only [Option.map] at hy
      k_steps
      exact ⟨rfl, _, _, _, _, W, rfl, F1, N1, AW.ifN (fun q => nomatch q.1), hW⟩
    | some o =>
      rw [e] at hy; dsimp only [Option.map] at hy
      rcases (by omega : right = cn - 1 ∨ right ≠ cn - 1) with hz | hz
      · have hz2 : (right == cn - 1) = true := by simpa using hz
        k_steps
        (rename Fr _ _ _ _ => F2; rename News _ _ _ _ => N2)
        exact ⟨rfl, _, _, _, _, _ :: W, rfl, F2, swap2 N2, AreW.ifP ⟨rfl, hz⟩ ((AW.mono fun p hp => .tail _ hp).snoc (o := some [27, 91, 75]) (.head _)), cls_cons rfl hW⟩
      · have hz2 : (right == cn - 1) = false := by simpa using hz
        k_steps
        exact ⟨rfl, _, _, _, _, W, rfl, F1, N1, AW.ifN (fun q => hz q.2), hW⟩
  clear AW hW F1 N1 hvl
  rintro s' ⟨h1, tk1, vs, n, W, rfl, F1, N1, AW, hW⟩
  have hvl : vs.length ≤ 2 := by have := AW.len; rw [this, List.length_append]; split <;> split <;> simp
  refine' wG_joinN (LwI g' L' s m0 fl (lawW l left right cn)) ?_ ?_
  · subst hm0
    obtain ⟨ty, hy⟩ := a5' sEl1
    cases e : l sEl1 with
    | none =>
      rw [e] at hy; dsimp only [Option.map] at hy
      k_steps
      exact ⟨rfl, _, _, _, _, W, rfl, F1, N1, (by rw [lawW, e]; exact AW.ifN (fun q => nomatch q.1)), hW⟩
    | some o =>
      rw [e] at hy; dsimp only [Option.map] at hy
      rcases (by omega : left = 0 ∨ left ≠ 0) with hz | hz
      · have hz2 : (left == 0) = true := by simpa using hz
        k_steps
        (rename Fr _ _ _ _ => F2; rename News _ _ _ _ => N2)
        exact ⟨rfl, _, _, _, _, _ :: W, rfl, F2, swap2 N2, (by rw [lawW, e]; exact AreW.ifP ⟨rfl, hz⟩ ((AW.mono fun p hp => .tail _ hp).snoc (o := some [27, 91, 49, 75]) (.head _))), cls_cons rfl hW⟩
      · have hz2 : (left == 0) = false := by simpa using hz
        k_steps
        exact ⟨rfl, _, _, _, _, W, rfl, F1, N1, (by rw [lawW, e]; exact AW.ifN (fun q => hz q.2)), hW⟩
  clear AW hW F1 N1 hvl
  rintro s' ⟨h1, tk1, vs, n, W, rfl, F1, N1, AW, hW⟩
  subst hm0
  k_steps
  refine' hret _ _ _ (kE [] (by intro p hp; cases hp)) ⟨fl, n, vs, W, rfl, ?_, hW, AW⟩
  intro p hp
  exact New.of' hsub (by k_asm) hp (by intro q hq; cases hq)

/-! PQL4 -/







theorem regXmac27 : True := by
  k_with "noinline" => ((with_reducible show wG _ _ (call (Value.ref 555) _) _ _))
  k_with "wG" => (((with_reducible show wG _ _ (call (Value.ref 555) _) _ _); k_dflt (
  refine' DoesS.use (does_lawways _ _ _ _ _ _ _ _ _ ?zzG ?zzl0 ?zzl1 ?zzr1 ?zzc1) ?zzCA ?zzB ?zzF ?zzX ?zzT ?zzN ?zzf ?zzk ?zzhd ?zzhu ?_; (case zzCA => assumption); (case zzB => k_asm); (case zzF => k_asm); (case zzX => k_asm); (case zzT => k_asm); (case zzN => k_asm); (case zzf => exact rfl); (case zzk => exact rfl); (case zzhd => walk_at "lim"); (case zzhu => walk_at "lim"); (case zzG => assumption); (case zzl0 => omega); (case zzl1 => omega); (case zzr1 => omega); (case zzc1 => omega); k_whole; intro v' h' k' F' N' P'; (((first | refine Exists.elim P' ?_ | refine And.elim ?_ P'); clear P'; intro fl' P'); ((first | refine Exists.elim P' ?_ | refine And.elim ?_ P'); clear P'; intro n' P'); ((first | refine Exists.elim P' ?_ | refine And.elim ?_ P'); clear P'; intro vs' P'); ((first | refine Exists.elim P' ?_ | refine And.elim ?_ P'); clear P'; intro W' P'); ((first | refine Exists.elim P' ?_ | refine And.elim ?_ P'); clear P'; intro e0' P'); subst e0'; ((first | refine Exists.elim P' ?_ | refine And.elim ?_ P'); clear P'; intro hn' P'); ((first | refine Exists.elim P' ?_ | refine And.elim ?_ P'); clear P'; intro hW' P'); ((first | refine Exists.elim P' ?_ | refine And.elim ?_ P'); clear P'; intro AW' P'); (revert P'; intro ho')); (replace N' := newsAdd hn' N'); clear hn'; (try k_sweep))))
  k_with "end du" => ((intro y; (dsimp only [duM]); first | ((refine' Eq.trans ?zzh1 (Eq.trans (lk_eq ?zza ?zzb y) (Eq.symm ?zzh2))); (case zzh2 => apply ch5 (y := y)); (case zzh1 => first | apply ch7 (y := y) | apply ch6 (y := y) | apply ch8 (y := y) | apply ch9 (y := y) | apply ch10 (y := y) | apply ch5 (y := y) | apply ch11 (y := y)); (case zza => kernel_rfl); (case zzb => kernel_rfl)) | ((by_cases h1 : y = Str.ofString "own"); (subst h1; exact rfl); (by_cases h2 : y = Str.ofString "move"); (subst h2; exact rfl); (by_cases h3 : y = Str.ofString "way"); (subst h3; exact rfl); (by_cases h4 : y = Str.ofString "least"); (subst h4; exact rfl); (by_cases h5 : y = Str.ofString "best"); (subst h5; exact rfl); (simp only [h1, h2, h3, h4, h5, if_false]))))
  k_with "wG" => (((with_reducible show wG _ _ (exec (Stmt.Assign [Expr.Tuple [Expr.Name _ _, Expr.Name _ _] _ _] (Expr.Tuple _ _ _) _) _) _ _); (with_reducible refine gx_assign_swap2 ?_ ?_ ?_); rotate_left; (with_unfolding_all rfl); (with_unfolding_all rfl)))
  trivial

theorem gx_assign_swap2 {w : World} {A : Around} {s : Shared} {env : Env} {x y : Str} {p1 p2 : Pos} {k : Nat} {tpos : Pos} {value : Expr} {pos : Pos} {Q : Flow → Shared → Prop}
    (h : wG w A (eval value env) (fun v s₁ => wpAny (model pw w) A (unpackItems v 2 none) (fun items s₂ =>
      wpAny (model pw w) A (assignInOrder [bindName env y, bindName env x] items.reverse) (fun _ => Q .next) noE s₂) noE s₁) s)
    (hs : swapsWithSole [.Tuple [.Name x p1, .Name y p2] k tpos] value pos.line env = pure false)
    (hw : swappedStores [.Tuple [.Name x p1, .Name y p2] k tpos] value env = pure (some [x, y])) :
    wG w A (exec (.Assign [.Tuple [.Name x p1, .Name y p2] k tpos] value pos) env) Q s := gx_assign_swap (names := [x, y]) h hs hw
theorem newsAdd {h₀ h h' : Heap} {L : Addr} {X news : List (Addr × Obj)} (hn : (∀ p ∈ X, New h p.1 p.2 h') ∧ ∃ m, Fr h₀ L h m) (N : News h₀ L h' news) : News h₀ L h' (X ++ news) := fun p hp => by
  obtain ⟨hn, m, F⟩ := hn
  rcases List.mem_append.mp hp with hp | hp
  · exact (New.news (hn p hp) F N) p (.head _)
  · exact N p hp
section
variable {w : World} {l : Strs} {st f : Addr} {d u : Nat} {vs : List Value} {news : List (Addr × Obj)} {left right cn : Int} {dp un : Nat} {gd : Option (List Code)} {env : Env} {outer : List Env} {A₀ : Around} {base h₀ : Heap} {L : Addr} {m : Str → Option Value} {mean : ExcName → Option Value} {mg mb : Str → Option Value} {s : Shared} {Q : Value → Shared → Prop}
theorem DoesS.use (C : DoesS w l st f d u vs (LwPost l left right cn)) (CA : TextAt w h₀ l st) (B : Below A₀ base outer h₀) (F : Fr h₀ L s.heap m) (X : (hd.heap_1 w.params).In h₀) (T : TopM mean mg mb h₀) (N : News h₀ L s.heap news) (hf : env.frame = some L) (hk : env.scope.kind = .function) (hd : dp + d < recursionLimit) (hu : un + u < cLine)
    (h : ∀ v h' tk', Fr h₀ L h' m → News h₀ L h' news → (∃ fl n vs W, v = .ref fl ∧ ((∀ p ∈ (fl, listOf vs.toArray n) :: W, New s.heap p.1 p.2 h') ∧ ∃ m, Fr h₀ L s.heap m) ∧ (∀ p ∈ W, p.2.cls = .type "tuple") ∧ AreW W vs (lawW l left right cn) ∧ ∀ p ∈ W, ∀ q ∈ news, q.1 ≠ p.1) → Q v ⟨h', s.gens, s.drawn, tk', s.os⟩) :
    wG w (atA dp un gd env outer) (call (.ref f) vs) Q s :=
  C dp un gd env outer A₀ base h₀ L m mean mg mb s Q CA B F X T (fun p hp => nomatch hp) hf hk hd hu fun v h' tk' x hp =>
    h v h' tk' (x.fr F fun _ q => nomatch q) (x.news0 N) (by obtain ⟨fl, n, vs, W, a, b, c, e⟩ := hp; exact ⟨fl, n, vs, W, a, ⟨b, m, F⟩, c, e, fun p hp q hq z => by have := (b p (.tail _ hp)).1; rw [← z, (N q hq).1] at this; cases this⟩)
end
/-- as DoesC, where the strings are there too -/
def DoesD (w : World) (l : Strs) (c kd st : Addr) (f : Addr) (d u : Nat) (vs : List Value) (Post : Heap → Value → Heap → Prop) : Prop :=
  ∀ (K : List (Addr × Obj)) (dp un : Nat) (gd : Option (List Code)) (env : Env) (outer : List Env) (A₀ : Around) (base h₀ : Heap) (L : Addr) (m : Str → Option Value) (mean : ExcName → Option Value) (mg mb : Str → Option Value) (s : Shared) (Q : Value → Shared → Prop),
    Kept w l kd K → CapsIn w (hideAll s.heap (K.map (·.1))) l c kd → TextAt w (hideAll s.heap (K.map (·.1))) l st →
    Below A₀ base outer h₀ → Fr h₀ L s.heap m → (hd.heap_1 w.params).In h₀ → TopM mean mg mb h₀ → News h₀ L s.heap K → env.frame = some L → env.scope.kind = .function → dp + d < recursionLimit → un + u < cLine →
    (∀ v h' tk' K', Ext [kd] s.heap h' → KC w l kd K K' → KStep K s.heap K' h' → Post s.heap v h' → Q v { s with heap := h', toks := tk' }) →
    wG w { handled := none, depth := dp, frames := some (env :: outer), guards := gd, units := un } (call (.ref f) vs) Q s
theorem text_in {w : World} {l : Strs} {st : Addr} {h h₀ : Heap} {objs : List (Addr × Obj)} (x : TextAt w (hideAll h (objs.map (·.1))) l st) (hs : ∀ b o, h.get? b = some o → b ∉ objs.map (·.1) → h₀.get? b = some o) : TextAt w h₀ l st :=
  x.keep fun b o e => hs b o (of_hideAll _ e) fun q => by rw [hideAll_none _ q] at e; cases e
abbrev duM (c st : Addr) (left : Int) (tl : Tok) (right : Int) (tr : Tok) (cn : Int) (tc : Tok) (atv : Value) (bv lv wv mv ov : Option Value) : Str → Option Value := fun y =>
  if y = Str.ofString "own" then ov else if y = Str.ofString "move" then mv else if y = Str.ofString "way" then wv else if y = Str.ofString "least" then lv else if y = Str.ofString "best" then bv else
  List.lookup y [(Str.ofString "caps", Value.ref c), (Str.ofString "strings", Value.ref st), (Str.ofString "left", Value.int left tl), (Str.ofString "right", Value.int right tr), (Str.ofString "columns", Value.int cn tc), (Str.ofString "at", atv)].reverse
inductive DuS (W : List (Addr × Obj)) : Option Best → Value → Value → List (Addr × Obj) → Prop
  | none : DuS W none .none .none []
  | some (a la : Addr) (own : Int × Int) (b : List UInt8) (col : Int) (t1 t2 t3 t4 : Tok) : (a, tupOf [.bytes b.toArray t1, .int col t2]) ∈ W → DuS W (some (own, b, col)) (.ref a) (.ref la) [(la, tupOf [.int own.1 t3, .int own.2 t4])]
theorem DuS.cls {W LW : List (Addr × Obj)} {st : Option Best} {bv lv : Value} (x : DuS W st bv lv LW) : ∀ p ∈ LW, p.2.cls = .type "tuple" := by
  cases x with
  | none => intro p hp; cases hp
  | some a la own b col t1 t2 t3 t4 hm => intro p hp; rw [List.mem_singleton.mp hp]
inductive DuJ (w : World) (l : Strs) (kd : Addr) (K : List (Addr × Obj)) (c st : Addr) (left : Int) (tl : Tok) (right : Int) (tr : Tok) (cn : Int) (tc : Tok) (atv : Value) (fl : Addr) (vs : List Value) (n : Nat) (W : List (Addr × Obj)) (at' : Option Int) (i : Nat) (m' : Str → Option Value) (n' : List (Addr × Obj)) : Prop
  | intro (K' : _) (S : _) (bv : _) (lv : _) (LW : _) (wv : _) (mv : _) (ov : _) : n' = LW ++ (fl, listOf vs.toArray n) :: (W ++ K') → DuS W S bv lv LW → S = bestF l at' ((lawW l left right cn).take i) → KC w l kd K K' → (∀ y, m' y = duM c st left tl right tr cn tc atv (some bv) (some lv) wv mv ov y) → DuJ w l kd K c st left tl right tr cn tc atv fl vs n W at' i m' n'
theorem DuJ.cls {w : World} {l : Strs} {kd : Addr} {K : List (Addr × Obj)} {c st : Addr} {left : Int} {tl : Tok} {right : Int} {tr : Tok} {cn : Int} {tc : Tok} {atv : Value} {fl : Addr} {vs : List Value} {n : Nat} {W : List (Addr × Obj)} {at' : Option Int} {i : Nat} {m' : Str → Option Value} {n' : List (Addr × Obj)} (hW : ∀ p ∈ W, p.2.cls = .type "tuple")
    (J : DuJ w l kd K c st left tl right tr cn tc atv fl vs n W at' i m' n') : ∀ p ∈ n', isIt p.2.cls = false := by
  obtain ⟨K', S, bv, lv, LW, wv, mv, ov, rfl, hD, -, kh, -⟩ := J
  intro p hp
  rcases List.mem_append.mp hp with hp | hp
  · exact tup_it hD.cls p hp
  · rcases List.mem_cons.mp hp with rfl | hp
    · rfl
    · rcases List.mem_append.mp hp with hp | hp
      · exact tup_it hW p hp
      · exact kept_it kh.1 p hp
def moveF (l : Strs) (at' : Option Int) (col : Int) : Option (List UInt8) := match at' with
  | none => some []
  | some a => acrossF l a col
theorem far_none {l : Strs} {at' : Option Int} {col : Int} (h : moveF l at' col = none) : farF l at' col = (1, 0) := by
  cases at' with
  | none => cases h
  | some a => simp only [moveF] at h; simp only [farF, h, costF]
theorem far_some {l : Strs} {at' : Option Int} {col : Int} {b : List UInt8} (h : moveF l at' col = some b) : farF l at' col = (0, (b.length : Int)) := by
  cases at' with
  | none => simp only [moveF, Option.some.injEq] at h; subst h; rfl
  | some a => simp only [moveF] at h; simp only [farF, h, costF]
inductive DuF (w : World) (l : Strs) (kd : Addr) (K : List (Addr × Obj)) (g : Heap) (L : Addr) (s : Shared) (m1 : Value → Str → Option Value) (mv : Option (List UInt8)) (X : List (Addr × Obj) → List (Addr × Obj)) (s' : Shared) : Prop
  | intro (h : _) (tk : _) (K' : _) (t : _) : s' = ⟨h, s.gens, s.drawn, tk, s.os⟩ → Fr g L h (m1 (oV mv t)) → News g L h (X K') → KC w l kd K K' → DuF w l kd K g L s m1 mv X s'
theorem lawW_mem {l : Strs} {left right cn : Int} {x : Way} (h : x ∈ lawW l left right cn) : (x.2 = left ∨ x.2 = right) ∧ ∃ b, x.1 = some b ∧ b.length ≤ 1000 := by
  have hf := figs_len (right - left + 1)
  unfold lawW at h
  rcases List.mem_append.mp h with h | h
  · rcases List.mem_append.mp h with h | h
    · split at h
      · rw [List.mem_singleton.mp h]; exact ⟨.inl rfl, _, rfl, by simp; omega⟩
      · cases h
    · split at h
      · rw [List.mem_singleton.mp h]; exact ⟨.inl rfl, _, rfl, by simp⟩
      · cases h
  · split at h
    · rw [List.mem_singleton.mp h]; exact ⟨.inr rfl, _, rfl, by simp⟩
    · cases h
theorem duEnd {h₀ h : Heap} {L it : Addr} {ito : Obj} {p1 p2 p3 : Addr × Obj} {LW Y : List (Addr × Obj)} (N : News h₀ L h (p1 :: p2 :: p3 :: (it, ito) :: (LW ++ Y))) : News h₀ L h ((it, ito) :: ([p2] ++ Y)) := fun p hp => N p (by
  rcases List.mem_cons.mp hp with rfl | hp
  · exact .tail _ (.tail _ (.tail _ (.head _)))
  · rcases List.mem_cons.mp hp with rfl | hp
    · exact .tail _ (.head _)
    · exact .tail _ (.tail _ (.tail _ (.tail _ (List.mem_append_right _ hp)))))
theorem does_due (w : World) (l : Strs) (c kd st : Addr) (left right cn : Int) (at' : Option Int) (tl tr tc ta : Tok) (G : GoodS l) (hl0 : 0 ≤ left) (hl1 : left ≤ right) (hr : right < cn) (hc : cn < 98) (hat : ∀ a, at' = some a → 0 ≤ a ∧ a < 98) :
    DoesD w l c kd st 562 400 1300 [.ref c, .ref st, .int left tl, .int right tr, .int cn tc, oI at' ta] (ErPost ((bestF l at' (lawW l left right cn)).map fun x => x.2)) := by
  k_with "nocons" => (with_reducible show wG _ _ (execs (Stmt.Assign [Expr.Name (Str.ofString "move") _] _ _ :: _) _) _ _)
  k_with "nocons" => (with_reducible show wG _ _ (execs (Stmt.Assign [Expr.Name (Str.ofString "own") _] _ _ :: _) _) _ _)
  k_with "nocons" => (with_reducible show wG _ _ (execs (Stmt.If _ _ _ _ :: _) (envOf (Str.ofString "_law_due") _ _ _ _)) _ _)
  intro K dp un gd env outer A₀ base h₀ L m mean mg mb s Q hK CA TA B F X T N hf hk hd hu hret
  refine' enter_G (binds := [(Str.ofString "caps", .ref c), (Str.ofString "strings", .ref st), (Str.ofString "left", .int left tl), (Str.ofString "right", .int right tr), (Str.ofString "columns", .int cn tc), (Str.ofString "at", oI at' ta)]) ?B ?F ?X ?T ?N ?f ?k ?room ?ho ?hcd ?hbind ?hloc ?_ ?c2 ?c3 ?c4 ?c5
  (case B => exact B); (case F => exact F); (case X => exact X); (case T => exact T); (case N => exact N); (case f => exact hf); (case k => exact hk)
  (case room => walk_at "lim")
  (case ho => k_is); (case hcd => k_is); (case hbind => (intro _; exact BindsTo.of_eq rfl)); (case hloc => exact locs rfl)
  (case c2 => exact rfl); (case c3 => exact rfl); (case c4 => exact rfl); (case c5 => decide)
  k_whole
  clear B F X T N hf hk
  intro g' L' h' F' N' B' X' T' hsub hlt hsz
  (try dsimp only)
  (try k_fold)
  have CG := caps_in CA hsub
  have TG := text_in TA hsub
  have KH := KC.refl hK
  clear CA TA
  k_steps
  rename Fr _ _ _ _ => F0
  have N0 : News g' L' h' ((fl', listOf vs'.toArray n') :: (W' ++ K)) := fun p hp => N' p (by
    rcases List.mem_cons.mp hp with rfl | hp
    · exact List.mem_append_left _ (.head _)
    · rcases List.mem_append.mp hp with hp | hp
      · exact List.mem_append_left _ (.tail _ hp)
      · exact List.mem_append_right _ (.tail _ hp))
  have hoff : ∀ p ∈ W', ∀ q ∈ K, q.1 ≠ p.1 := fun p hp q hq => ho' p hp q (.tail _ hq)
  clear N' ho'
  refine' iter_listJ (vs := vs') (n := n') rfl (DuJ w l kd K c st left tl right tr cn tc (oI at' ta) fl' vs' n' W' at') F0 N0 ⟨K, none, .none, .none, [], none, none, none, rfl, .none, rfl, KH, (by walk_at "end du")⟩ ?_ (fun i m' n' J => J.cls hW') ?_ ?_ ?_
  · rintro i m' n' ⟨K', S, bv, lv, LW, wv, mv, ov, rfl, -⟩; exact List.mem_append_right _ (.head _)
  · rintro it ito i v m' nn h tk hv ⟨K2, S, bv, lv, LW, wv, mv, ov, rfl, hD, hst, kh2, hm⟩ hit F1 N1
    obtain ⟨a, o, t, col, tcol, rfl, hmW, hoi⟩ := AW'.get hv
    have hik := isIt_kept hit
    have hLW := hD.cls
    have hbest := bestF_take (l := l) (at' := at') hoi
    obtain ⟨hcol, b, hob, hbl⟩ := lawW_mem (List.mem_of_getElem? hoi)
    dsimp only at hcol hob
    subst hob
    have hcol2 : 0 ≤ col ∧ col < 98 := by omega
    replace F1 := frCongr F1 hm
    have N2 : News g' L' h ((a, tupOf [.bytes b.toArray t, .int col tcol]) :: (it, ito) :: (LW ++ (fl', listOf vs'.toArray n') :: (W' ++ K2))) := fun p hp => by
      rcases List.mem_cons.mp hp with rfl | hp
      · exact N1 _ (.tail _ (List.mem_append_right _ (.tail _ (List.mem_append_left _ hmW))))
      · exact N1 p hp
    clear N1 hm F0 N0 hv KH hcol hoi
    k_steps
    (rename Fr _ _ _ _ => F2; rename News _ _ _ _ => N3)
    refine' wG_joinN (DuF w l kd K g' L' s (fun x => duM c st left tl right tr cn tc (oI at' ta) (some bv) (some lv) (some (.ref a)) (some x) ov) (moveF l at' col) (fun K' => (a, tupOf [.bytes b.toArray t, .int col tcol]) :: (it, ito) :: (LW ++ (fl', listOf vs'.toArray n') :: (W' ++ K')))) ?_ ?_
    · clear hbest hst
      cases at' with
      | none =>
        dsimp only [oI] at F2
        k_steps
        (rename Fr _ _ _ _ => F3; rename News _ _ _ _ => N4)
        exact ⟨rfl, _, _, _, _, rfl, frCongr F3 (by walk_at "end du"), N4, kh2⟩
      | some av =>
        dsimp only [oI] at F2
        obtain ⟨ha0, ha1⟩ := hat av rfl
        k_steps
        (rename Fr _ _ _ _ => F3; rename News _ _ _ _ => N4; rename KC _ _ _ _ _ => kh3)
        exact ⟨rfl, _, _, _, _, rfl, frCongr F3 (by walk_at "end du"), N4, kh3⟩
    · clear F2 N3 kh2
      rintro s' ⟨h2, tk2, K3, t2, rfl, F3, N4, kh3⟩
      have hmv : Fits (moveF l at' col) 5000 := by
        cases at' with
        | none => intro x hx; cases hx; simp
        | some av => obtain ⟨ha0, ha1⟩ := hat av rfl; exact fits_across G ha0 ha1 hcol2.1 hcol2.2
      refine' wG_joinN (ErF w l kd K g' L' s (fun x => duM c st left tl right tr cn tc (oI at' ta) (some bv) (some lv) (some (.ref a)) (some (oV (moveF l at' col) t2)) (some (.ref x))) ((farF l at' col).1, (farF l at' col).2 + (b.length : Int)) (fun K' => (a, tupOf [.bytes b.toArray t, .int col tcol]) :: (it, ito) :: (LW ++ (fl', listOf vs'.toArray n') :: (W' ++ K')))) ?_ ?_
      · clear hbest hst
        cases hc3 : moveF l at' col with
        | none =>
          have hkey : ((farF l at' col).1, (farF l at' col).2 + (b.length : Int)) = (1, (b.length : Int)) := by rw [far_none hc3]; simp
          rw [hkey]
          rw [hc3] at F3
          dsimp only [oV] at F3
          k_steps
          (rename Fr _ _ _ _ => F5; rename News _ _ _ _ => N5)
          exact ⟨rfl, _, _, _, _, _, _, rfl, frCongr F5 (by walk_at "end du"), N5, kh3⟩
        | some mb =>
          have hkey : ((farF l at' col).1, (farF l at' col).2 + (b.length : Int)) = (0, (b.length : Int) + (mb.length : Int)) := by rw [far_some hc3]; simp [Int.add_comm]
          have hmb : mb.length ≤ 5000 := hmv mb hc3
          rw [hkey]
          rw [hc3] at F3
          dsimp only [oV] at F3
          k_steps
          (rename Fr _ _ _ _ => F5; rename News _ _ _ _ => N5)
          exact ⟨rfl, _, _, _, _, _, _, rfl, frCongr F5 (by walk_at "end du"), N5, kh3⟩
      · clear F3 N4 kh3
        rintro s' ⟨h3, tk3, K4, x, u1, u2, rfl, F4, N5, kh4⟩
        generalize hfar : farF l at' col = far at N5
        obtain ⟨f1, f2⟩ := far
        dsimp only at N5
        refine gx_cons ?_
        cases hD with
        | none =>
          dsimp only [List.nil_append] at N5
          k_steps
          (rename Fr _ _ _ _ => F5; rename News _ _ _ _ => N6)
          exact EndL.intro _ _ _ _ rfl F5 (duEnd (LW := []) N6) ⟨K4, _, _, _, _, _, _, _, rfl, DuS.some a x (f1, f2 + (b.length : Int)) b col _ _ _ _ hmW, (by rw [hbest, ← hst]; simp only [stepB, hfar]), kh4, (by walk_at "end du")⟩
        | some a0 la key b0 col0 v1 v2 v3 v4 hm0 =>
          dsimp only [List.nil_append, List.cons_append] at N5
          k_steps
          · rename ltP _ _ = true => hlp
            (rename Fr _ _ _ _ => F5; rename News _ _ _ _ => N6)
            exact EndL.intro _ _ _ _ rfl F5 (duEnd (LW := [(la, tupOf [.int key.1 v3, .int key.2 v4])]) N6) ⟨K4, _, _, _, _, _, _, _, rfl, DuS.some a x (f1, f2 + (b.length : Int)) b col _ _ _ _ hmW, (by rw [hbest, ← hst]; simp only [stepB, hfar]; exact (if_pos hlp).symm), kh4, (by walk_at "end du")⟩
          · rename ltP _ _ = false => hlp
            (rename Fr _ _ _ _ => F5; rename News _ _ _ _ => N6)
            exact EndL.intro _ _ _ _ rfl F5 (fun p hp => N6 p (.tail _ (.tail _ hp))) ⟨K4, _, _, _, _, _, _, _, rfl, DuS.some a0 la key b0 col0 v1 v2 v3 v4 hm0, (by rw [hbest, ← hst]; simp only [stepB, hfar]; exact (if_neg (by rw [show ltP (f1, f2 + (b.length : Int)) key = false from hlp]; exact Bool.false_ne_true)).symm), kh4, (by intro y; exact rfl)⟩
  · rintro m' nn h tk ⟨K2, S, bv, lv, LW, wv, mv, ov, rfl, hD, hst, kh2, hm⟩ F1 N1
    replace F1 := frCongr F1 hm
    rw [AW'.len, List.take_length] at hst
    clear F0 N0 hm KH
    cases hD with
    | none =>
      dsimp only [List.nil_append] at N1
      k_steps
      exact endC (pre := []) (hret _ _ _) kE (by assumption) hsub (by k_asm) (by walk_at "end tail") (by intro p hp; cases hp) (by rw [← hst]; rfl)
    | some a0 la key b0 col0 v1 v2 v3 v4 hm0 =>
      dsimp only [List.nil_append, List.cons_append] at N1
      k_steps
      exact endC (pre := []) (hret _ _ _) kE (by assumption) hsub (by k_asm) (by walk_at "end tail") (by intro p hp; cases hp) (by rw [← hst]; exact ⟨_, _, _, rfl, New.of' hsub N1 (.tail _ (.tail _ (List.mem_append_left _ hm0))) (fun q hq => hoff _ hm0 q hq)⟩)
  · intro _ _; rfl

/-! PQM1 -/


def DoesL (w : World) (sl : Addr) (vs0 : List Value) (f : Addr) (d u : Nat) (vs : List Value) (Post : Heap → Value → Heap → Prop) : Prop :=
  ∀ (dp un : Nat) (gd : Option (List Code)) (env : Env) (outer : List Env) (A₀ : Around) (base h₀ : Heap) (L : Addr) (m : Str → Option Value) (mean : ExcName → Option Value) (mg mb : Str → Option Value) (s : Shared) (Q E : Value → Shared → Prop),
    h₀.IsList sl vs0.toArray → Below A₀ base outer h₀ → Fr h₀ L s.heap m → (hd.heap_1 w.params).In h₀ → TopM mean mg mb h₀ → News h₀ L s.heap [] → env.frame = some L → env.scope.kind = .function → dp + d < recursionLimit → un + u < cLine →
    (∀ v h' tk', Ext [] s.heap h' → Post s.heap v h' → Q v { s with heap := h', toks := tk' }) →
    wpAny (model pw w) { handled := none, depth := dp, frames := some (env :: outer), guards := gd, units := un } (call (.ref f) vs) Q E s
abbrev deckL (cl : Addr) (mx tn : Int) (t1 t2 : Tok) : List (Str × Value) := [(Str.ofString "cells", .ref cl), (Str.ofString "mixed", .int mx t1), (Str.ofString "turn", .int tn t2)]
def DeckIs (w : World) (o : Obj) (cl : Addr) (tn : Int) : Prop := ∃ mx t1 t2, (0 ≤ mx ∧ mx < 2147483587) ∧ o.IsDictOf (strKind pw w) (deckL cl mx tn t1 t2)
def DkPost (w : World) (h : Heap) (v : Value) (h' : Heap) : Prop :=
  ∃ dk cl o ws n ns, v = .ref dk ∧ New h dk o h' ∧ New h cl (listOf ws.toArray n) h' ∧ DeckIs w o cl 0 ∧ IntsAre ws ns ∧ ns.length ≤ 16 ∧ @Ne Nat dk cl ∧ (dk == sysModules) = false
theorem fmod_in {a b : Int} (h : 1 ≤ b) : 0 ≤ a.fmod b ∧ a.fmod b < b := by
  rw [Int.fmod_eq_emod_of_nonneg _ (by omega)]
  exact ⟨Int.emod_nonneg _ (by omega), Int.emod_lt_of_pos _ (by omega)⟩
theorem fold_in (g : Int → Int → Int) : ∀ (l : List Int) (a : Int), 0 ≤ a ∧ a < 2147483587 → 0 ≤ l.foldl (fun a' n' => (g a' n').fmod 2147483587) a ∧ l.foldl (fun a' n' => (g a' n').fmod 2147483587) a < 2147483587
  | [], a, h => h
  | x :: l, a, h => fold_in g l _ (fmod_in (by decide))
theorem does_deck (w : World) (sl : Addr) (vs0 : List Value) (ns : List Int) (hi : IntsAre vs0 ns) (hz : ns.length ≤ 63) : DoesL w sl vs0 529 20 200 [.ref sl] (DkPost w) := by
  intro dp un gd env outer A₀ base h₀ L m mean mg mb s Q E hl B F X T N hf hk hd hu hret
  replace hl : s.heap.IsList sl vs0.toArray := hl.at fun o e => F.keep _ _ e
  refine' enter_def (binds := [(Str.ofString "script", .ref sl)]) ?B ?F ?X ?T ?N ?f ?k ?room ?ho ?hcd ?hbind ?hloc ?_ ?c2 ?c3 ?c4 ?c5
  (case B => exact B); (case F => exact F); (case X => exact X); (case T => exact T); (case N => exact N); (case f => exact hf); (case k => exact hk)
  (case room => walk_at "lim")
  (case ho => k_is); (case hcd => k_is); (case hbind => (intro _; exact BindsTo.of_eq rfl)); (case hloc => exact locs rfl)
  (case c2 => exact rfl); (case c3 => exact rfl); (case c4 => exact rfl); (case c5 => decide)
  k_whole
  clear B F X T N hf hk
  intro g' L' h' F' N' B' X' T' hsub hlt hsz
  (try dsimp only)
  (try k_fold)
  replace hl : g'.IsList sl vs0.toArray := hl.at fun o e => hsub _ _ e (by intro q; cases q)
  k_steps
  (rename Obj.IsDictOf _ _ (strPairs _) => hdd; rename News _ _ _ _ => NN; rename IntsAre _ (List.reverse _) => hII)
  rename_i lX FX
  exact hret _ _ _ (kE [] (by intro p hp; cases hp)) ⟨_, _, _, _, _, _, rfl, New.of' hsub NN (by k_mem) (by intro q hq; cases hq), New.of' hsub NN (by k_mem) (by intro q hq; cases hq), ⟨_, _, _, fold_in _ _ _ (by decide), hdd⟩, hII, by simp only [List.length_reverse, List.length_map, List.length_take]; omega, by omega, by assumption⟩

/-! PQM2 -/


local macro_rules | `(tactic| walk_at "setItem ref str") => `(tactic| k_extra "m:setItem ref str")
local macro_rules | `(tactic| walk_at "call builtin:list.pop") => `(tactic| k_extra "m:call builtin:list.pop")
theorem regXmac28 : True := by
  k_with "m:setItem ref str" => ((k_here; k_dflt (refine' set_turn ?zzF ?zzN ?zzU ?zzhd ?_; (case zzF => k_asm); (case zzN => k_asm); (case zzU => k_updF); (case zzhd => assumption); intro o' h' tk' t' F' N' hd'; (try dsimp only at N'); (try k_sweep))))
  k_with "m:call builtin:list.pop" => ((k_here; (try dsimp only); k_dflt (refine' kpa_pop ?zzF ?zzN ?zzU ?zzi ?zzl ?zzz ?_; (case zzF => k_asm); (case zzN => k_asm); (case zzU => k_upd); (case zzi => with_reducible assumption); (case zzl => assumption); (case zzz => (simp only [sizeLine]; omega)); intro h' t' F' N' hI'; (try k_sweep))))
  k_with "m:call builtin:list.append" => ((k_here; k_dflt (refine' append_T ?zzF ?zzN ?zzU ?_ ?zzz; (case zzF => k_asm); (case zzN => k_asm); (case zzU => k_upd); (case zzz => ((try simp only [List.length_append, List.length_cons, List.length_nil, List.length_dropLast]); omega)); intro h' F' N'; (try dsimp only [List.cons_append, List.nil_append] at N'); (try k_sweep))))
  trivial

theorem stored_turn (cl : Addr) (mx tn v : Int) (t1 t2 t : Tok) : stored (deckL cl mx tn t1 t2) (Str.ofString "turn") (.int v t) = deckL cl mx v t1 t := by
  simp only [stored, deckL, List.any_cons, List.any_nil, List.map_cons, List.map_nil]
  rfl
theorem set_turn {w : World} {A : Around} {E : Value → Shared → Prop} {s : Shared} {h₀ : Heap} {L dk cl : Addr} {m : Str → Option Value} {news : List (Addr × Obj)} {o : Obj} {f : Obj → List (Addr × Obj)} {mx tn v : Int} {t1 t2 t u : Tok} {Q : Unit → Shared → Prop} (F : Fr h₀ L s.heap m) (N : News h₀ L s.heap news) (U : UpdF dk o news f) (hd : o.IsDictOf (strKind pw w) (deckL cl mx tn t1 t2))
    (h : ∀ o' h' tk t', Fr h₀ L h' m → News h₀ L h' (f o') → o'.IsDictOf (strKind pw w) (deckL cl mx v t1 t') → Q () ⟨h', s.gens, s.drawn, tk, s.os⟩) : wpAny (model pw w) A (setItem (.ref dk) (.str (Str.ofString "turn") u) (.int v t)) Q E s := by
  obtain ⟨pre, post, rfl, ef, x, y⟩ := U.split
  have z := N (dk, o) (List.mem_append.mpr (.inr (.head _)))
  refine wpAny_setItem_pairs (knd := strKind pw w) (strKind_is pw w _ u) (Heap.dictOf_iff.mpr ⟨o, z.1, hd⟩) (fun h' hm hs => ?_) (by simp only [List.length_cons, List.length_nil, sizeLine]; omega)
  obtain ⟨o', ho', hd'⟩ := Heap.dictOf_iff.mp hm
  rw [stored_turn] at hd'
  refine h o' h' _ t (F.change hs z.2.1 z.2.2) ?_ hd'
  rw [ef]
  exact news_set N x y hs ho'
theorem ints_snoc {vs : List Value} {ns : List Int} {n : Int} {t : Tok} (h : IntsAre vs ns) : IntsAre (vs ++ [.int n t]) (ns ++ [n]) := by
  induction h with
  | nil => exact .cons _ _ .nil
  | cons n t _ ih => exact .cons _ _ ih
inductive DrawP (w : World) (dk cl : Addr) (b T : Int) (h : Heap) (v : Value) (h' : Heap) : Prop
  | intro (r : Int) (t : Tok) (o' : Obj) (ws' : List Value) (n' : Nat) (ns' : List Int) : v = .int r t → 0 ≤ r → r < b → h'.get? dk = some o' → DeckIs w o' cl T → h'.get? cl = some (listOf ws'.toArray n') → IntsAre ws' ns' → ns'.length ≤ 16 → DrawP w dk cl b T h v h'
theorem does_draw (w : World) (dk cl : Addr) (o : Obj) (ws : List Value) (n : Nat) (ns : List Int) (b tn : Int) (tb : Tok) (ho : DeckIs w o cl tn) (hT0 : 0 ≤ tn) (hT : tn ≤ 1000) (hi : IntsAre ws ns) (hz : ns.length ≤ 16) (hb : 1 ≤ b) (hb2 : b ≤ 1000) (hne : @Ne Nat dk cl) (lo : (dk == sysModules) = false) :
    Does w 536 20 100 [.ref dk, .int b tb] [(dk, o), (cl, listOf ws.toArray n)] [dk, cl] (DrawP w dk cl b (tn + 1)) := by
  obtain ⟨mx, t1, t2, ⟨hm0, hm1⟩, hd⟩ := ho
  have hwl := hi.length
  by_cases hn : ns = []
  · subst hn
    cases hi
    intro dp un gd env outer A₀ base h₀ L m mean mg mb s Q E B F X T N hf hk hd hu hret
    refine' enter_def (binds := [(Str.ofString "deck", .ref dk), (Str.ofString "below", .int b tb)]) ?B ?F ?X ?T ?N ?f ?k ?room ?ho ?hcd ?hbind ?hloc ?_ ?c2 ?c3 ?c4 ?c5
    (case B => exact B); (case F => exact F); (case X => exact X); (case T => exact T); (case N => exact N); (case f => exact hf); (case k => exact hk)
    (case room => walk_at "lim")
    (case ho => k_is); (case hcd => k_is); (case hbind => (intro _; exact BindsTo.of_eq rfl)); (case hloc => exact locs rfl)
    (case c2 => exact rfl); (case c3 => exact rfl); (case c4 => exact rfl); (case c5 => decide)
    k_whole
    clear B F X T N hf hk
    intro g' L' h' F' N' B' X' T' hsub hlt hsz
    (try dsimp only)
    (try k_fold)
    k_steps
    exact hret _ _ _ (kE [dk, cl] (by walk_at "end mods")) ⟨_, _, o', [], n, [], rfl, (fmod_in hb).1, (fmod_in hb).2, News.get (by k_asm) (by k_mem), ⟨mx, _, _, ⟨hm0, hm1⟩, hd'⟩, News.get (by k_asm) (by k_mem), .nil, by simp⟩
  · have hn2 : (ns != []) = true := by simpa using hn
    have hnl : 0 < ws.length := by rw [hwl]; exact List.length_pos_iff.mpr hn
    intro dp un gd env outer A₀ base h₀ L m mean mg mb s Q E B F X T N hf hk hd hu hret
    refine' enter_def (binds := [(Str.ofString "deck", .ref dk), (Str.ofString "below", .int b tb)]) ?B ?F ?X ?T ?N ?f ?k ?room ?ho ?hcd ?hbind ?hloc ?_ ?c2 ?c3 ?c4 ?c5
    (case B => exact B); (case F => exact F); (case X => exact X); (case T => exact T); (case N => exact N); (case f => exact hf); (case k => exact hk)
    (case room => walk_at "lim")
    (case ho => k_is); (case hcd => k_is); (case hbind => (intro _; exact BindsTo.of_eq rfl)); (case hloc => exact locs rfl)
    (case c2 => exact rfl); (case c3 => exact rfl); (case c4 => exact rfl); (case c5 => decide)
    k_whole
    clear B F X T N hf hk
    intro g' L' h' F' N' B' X' T' hsub hlt hsz
    (try dsimp only)
    (try k_fold)
    k_steps
    · exact hret _ _ _ (kE [dk, cl] (by walk_at "end mods")) ⟨_, _, o', _, _, _, rfl, (fmod_in hb).1, (fmod_in hb).2, News.get (by k_asm) (by k_mem), ⟨mx, _, _, ⟨hm0, hm1⟩, hd'⟩, News.get (by k_asm) (by k_mem), ints_snoc hI', by simp only [List.length_append, List.length_dropLast, List.length_cons, List.length_nil]; omega⟩
    · exact hret _ _ _ (kE [dk, cl] (by walk_at "end mods")) ⟨_, _, o', _, _, _, rfl, (fmod_in hb).1, (fmod_in hb).2, News.get (by k_asm) (by k_mem), ⟨mx, _, _, ⟨hm0, hm1⟩, hd'⟩, News.get (by k_asm) (by k_mem), hI', by simp only [List.length_dropLast]; omega⟩

/-! PQM3 -/



theorem regXmac29 : True := by
  k_with "m:call ref" => ((k_here; (with_reducible show wpAny _ _ (call (Value.ref 536) _) _ _ _); k_dflt (
  refine' Does.useM (does_draw _ _ _ _ _ _ _ _ _ _ ?zzho ?zzhT0 ?zzhT ?zzhi ?zzhz ?zzhb ?zzhb2 ?zzhne ?zzlo) ?zzB ?zzF ?zzX ?zzT ?zzN ?zzhs ?zzhm ?zzf ?zzk ?zzhd ?zzhu ?_; (case zzB => k_asm); (case zzF => k_asm); (case zzX => k_asm); (case zzT => k_asm); (case zzN => k_asm);
  (case zzhs => (intro p hp; (rcases List.mem_cons.mp hp with rfl | hp); (k_mem); (rw [List.mem_singleton.mp hp]; k_mem)));
  (case zzhm => (intro a ha; (rcases List.mem_cons.mp ha with rfl | ha); (exact ⟨_, by k_mem⟩); (rw [List.mem_singleton.mp ha]; exact ⟨_, by k_mem⟩)));
  (case zzf => exact rfl); (case zzk => exact rfl); (case zzhd => walk_at "lim"); (case zzhu => walk_at "lim"); (case zzho => assumption); (case zzhi => assumption); (case zzhz => assumption); (case zzhne => assumption); (case zzlo => assumption); (case zzhT0 => omega); (case zzhT => omega); (case zzhb => omega); (case zzhb2 => omega); k_whole;
  intro v' h' k' F' x' lt' P'; rcases P' with ⟨r', t', o', ws', n', ns', rfl, r0', r1', g1', hD', g2', hI', hz'⟩;
  refine' led2 ?zzN x' ?zzU1 ?zzU2 g1' g2' ?zzab ?_; (case zzN => k_asm); (case zzU1 => k_upd); (case zzU2 => k_upd); (case zzab => assumption); intro N1'; clear x' lt' g1' g2'; (try k_sweep))))
  k_with "m:call builtin:len" => ((k_here; (with_reducible show wpAny _ _ (call (Value.builtin "len") [Value.ref _]) _ _ _); k_dflt (refine' len_T ?zzN ?zzhm ?zzz ?_; (case zzN => k_asm); (case zzhm => k_mem); (case zzz => ((try simp only [List.length_cons, List.length_nil]); omega)); intro t' k')))
  k_with "m:subscriptTail" => ((k_here; (with_reducible show wpAny _ _ (subscriptTail _ _ (Value.ref _) (Value.int _ _)) _ _ _); k_dflt (refine' item_T ?zzN ?zzhm ?zzh0 ?zzh1 ?zzz ?_ ?zzhs ?zzht; (case zzN => k_asm); (case zzhm => k_mem); (case zzh0 => omega); (case zzh1 => omega); (case zzz => omega); (case zzhs => with_unfolding_all rfl); (case zzht => kmk_pure); intro v' hv')))
  trivial

inductive PickP (w : World) (dk cl : Addr) (us : List Value) (T : Int) (h : Heap) (v : Value) (h' : Heap) : Prop
  | intro (i : Nat) (o' : Obj) (ws' : List Value) (n' : Nat) (ns' : List Int) : us[i]? = some v → h'.get? dk = some o' → DeckIs w o' cl T → h'.get? cl = some (listOf ws'.toArray n') → IntsAre ws' ns' → ns'.length ≤ 16 → PickP w dk cl us T h v h'
theorem does_pick (w : World) (dk cl ls : Addr) (o : Obj) (ws us : List Value) (n k : Nat) (ns : List Int) (tn : Int) (ho : DeckIs w o cl tn) (hT0 : 0 ≤ tn) (hT : tn ≤ 900) (hi : IntsAre ws ns) (hz : ns.length ≤ 16) (hu1 : 1 ≤ us.length) (hu2 : us.length ≤ 10) (hne : @Ne Nat dk cl) (hd1 : @Ne Nat ls dk) (hd2 : @Ne Nat ls cl) (lo : (dk == sysModules) = false) :
    Does w 543 40 160 [.ref dk, .ref ls] [(dk, o), (cl, listOf ws.toArray n), (ls, listOf us.toArray k)] [dk, cl] (PickP w dk cl us (tn + 1)) := by
  intro dp un gd env outer A₀ base h₀ L m mean mg mb s Q E B F X T N hf hk hd hu hret
  refine' enter_def (binds := [(Str.ofString "deck", .ref dk), (Str.ofString "some", .ref ls)]) ?B ?F ?X ?T ?N ?f ?k ?room ?ho ?hcd ?hbind ?hloc ?_ ?c2 ?c3 ?c4 ?c5
  (case B => exact B); (case F => exact F); (case X => exact X); (case T => exact T); (case N => exact N); (case f => exact hf); (case k => exact hk)
  (case room => walk_at "lim")
  (case ho => k_is); (case hcd => k_is); (case hbind => (intro _; exact BindsTo.of_eq rfl)); (case hloc => exact locs rfl)
  (case c2 => exact rfl); (case c3 => exact rfl); (case c4 => exact rfl); (case c5 => decide)
  k_whole
  clear B F X T N hf hk
  intro g' L' h' F' N' B' X' T' hsub hlt hsz
  (try dsimp only)
  (try k_fold)
  k_steps
  exact hret _ _ _ (kE [dk, cl] (by walk_at "end mods")) ⟨_, o', ws', n', ns', hv', News.get (by k_asm) (by k_mem), hD', News.get (by k_asm) (by k_mem), hI', hz'⟩

/-! PQN0 -/
/-- a call where no frame is below -/
theorem enter_T {w : World} {name qual : Str} {params : Arguments} {body : List Stmt} {scope : Scope} {dV kV doc pm cdv ct oc : Value} {an od : Option Addr} {osl : Array (Option Value)} {f : Addr} {vs : List Value} {binds : List (Str × Value)}
    {dp un : Nat} {gd : Option (List Code)} {mean : ExcName → Option Value} {mg mb : Str → Option Value} {s : Shared} {Q : Value → Shared → Prop}
    (X : (hd.heap_1 w.params).In s.heap) (T : TopM mean mg mb s.heap) (hroom : dp < recursionLimit)
    (ho : (hd.heap_1 w.params).lookup f = some ⟨oc, od, .func (fnOf name qual params body scope dV kV doc pm an cdv ct), osl⟩) (hcd : codeIn (hd.heap_1 w.params) cdv qual = true)
    (hbind : BindsTo s (fnOf name qual params body scope dV kV doc pm an cdv ct) ⟨vs, []⟩ binds) (hloc : ∀ y ∈ binds, scope.names.lookup y.1 = some .local)
    (h : ∀ L' h₁, Fr s.heap L' h₁ (fun y => binds.reverse.lookup y) → News s.heap L' h₁ [] → Below { handled := none, depth := dp, frames := some [], guards := gd, units := un } s.heap [] s.heap →
      wG w { handled := none, depth := dp + 1, frames := some [envOf qual scope L' f cdv], guards := gd, units := un + 3 } (execs body (envOf qual scope L' f cdv))
        (fun fl s' => Q (match fl with | .ret v => v | _ => .none) s')
        { s with heap := h₁, toks := s.toks + binds.length })
    (hco : scope.isCoroutine = false) (hgen : scope.isGenerator = false) (hk : scope.kind = .function) (hcell : ∀ x ∈ scope.names, x.2 ≠ .cell) :
    wG w { handled := none, depth := dp, frames := some [], guards := gd, units := un } (call (.ref f) vs) Q s := by
  refine wG_call ?_
  refine cG_call_def (fd := fnX name qual params body scope [] dV kV doc pm an cdv ct) (body := body) (binds := binds) hroom (X _ _ ho) rfl T.nolimit (codeRec_of X hcd) rfl hbind hcell hloc (fun h₁ hns hk₁ => ?_) hco hgen hk
  exact h _ h₁ ⟨hns, hk₁, Nat.le_refl _⟩ (fun p hp => nomatch hp) ⟨rfl, fun _ _ e => e, trivial⟩
/-! the strings that were drawn -/
abbrev Sel := List (List UInt8 × List UInt8)
inductive KvIs : List (List UInt8 × Value) → Sel → Prop
  | nil : KvIs [] []
  | cons {kvs sel} (k b : List UInt8) (t : Tok) : KvIs kvs sel → KvIs ((k, .bytes b.toArray t) :: kvs) ((k, b) :: sel)
theorem KvIs.snoc {kvs : List (List UInt8 × Value)} {sel : Sel} {k b : List UInt8} {t : Tok} (h : KvIs kvs sel) : KvIs (kvs ++ [(k, .bytes b.toArray t)]) (sel ++ [(k, b)]) := by
  induction h with
  | nil => exact .cons _ _ _ .nil
  | cons k b t _ ih => exact .cons _ _ _ ih
theorem KvIs.len {kvs : List (List UInt8 × Value)} {sel : Sel} (h : KvIs kvs sel) : kvs.length = sel.length := by
  induction h with
  | nil => rfl
  | cons _ _ _ _ ih => simp [ih]
theorem KvIs.keys {kvs : List (List UInt8 × Value)} {sel : Sel} (h : KvIs kvs sel) : kvs.map (·.1) = sel.map (·.1) := by
  induction h with
  | nil => rfl
  | cons _ _ _ _ ih => simp [ih]
def strsOf (sel : Sel) : Strs := fun k => (sel.find? fun p => decide (p.1 = k)).map (·.2)
theorem KvIs.map {kvs : List (List UInt8 × Value)} {sel : Sel} (h : KvIs kvs sel) : MapIs (valueAt kvs) (strsOf sel) := by
  intro k
  induction h with
  | nil => exact ⟨0, rfl⟩
  | @cons kvs sel k' b t _ ih =>
    obtain ⟨t', e⟩ := ih
    unfold valueAt strsOf at e ⊢
    by_cases hk : k' = k
    · subst hk; exact ⟨t, by simp⟩
    · refine ⟨t', ?_⟩
      have h1 : (decide (k' = k)) = false := decide_eq_false hk
      rw [List.find?_cons_of_neg (by simpa using hk), List.find?_cons_of_neg (by simpa using hk)]
      exact e
theorem good_sel {sel : Sel} (h : ∀ p ∈ sel, p ∈ madeL) : GoodS (strsOf sel) := by
  intro k o e
  unfold strsOf at e
  obtain ⟨p, hp, rfl⟩ := Option.map_eq_some_iff.mp e
  have hk : p.1 = k := by have := List.find?_some hp; exact of_decide_eq_true this
  have := h p (List.mem_of_find?_eq_some hp)
  rw [← hk]; exact this
theorem made_keys : ∀ i : Fin 9, ∀ p ∈ madeL.take i.val, p.1 ≠ (madeL[i.val]'(by exact i.isLt)).1 := by decide
theorem stored_new {kvs : List (List UInt8 × Value)} {k : List UInt8} {v : Value} (h : ∀ p ∈ kvs, p.1 ≠ k) : stored kvs k v = kvs ++ [(k, v)] := by
  unfold stored
  have : kvs.any (fun kv => decide (kv.1 = k)) = false := by
    rw [List.any_eq_false]
    intro p hp
    simpa using h p hp
  simp only [this, Bool.false_eq_true, if_false]
section
variable {w : World} {A : Around} {E : Value → Shared → Prop} {s : Shared} {h₀ : Heap} {L d : Addr} {m : Str → Option Value} {news : List (Addr × Obj)} {o : Obj} {f : Obj → List (Addr × Obj)} {kvs : List (List UInt8 × Value)}
theorem set_text {k : List UInt8} {v : Value} {u : Tok} {Q : Unit → Shared → Prop} (F : Fr h₀ L s.heap m) (N : News h₀ L s.heap news) (U : UpdF d o news f) (hd : o.IsDictOf (bytesKind pw w) kvs) (hz : kvs.length ≤ 1000)
    (h : ∀ o' h' tk, Fr h₀ L h' m → News h₀ L h' (f o') → o'.IsDictOf (bytesKind pw w) (stored kvs k v) → Q () ⟨h', s.gens, s.drawn, tk, s.os⟩) : wpAny (model pw w) A (setItem (.ref d) (.bytes k.toArray u) v) Q E s := by
  obtain ⟨pre, post, rfl, ef, x, y⟩ := U.split
  have z := N (d, o) (List.mem_append.mpr (.inr (.head _)))
  refine wpAny_setItem_pairs (knd := bytesKind pw w) (isB w k u) (Heap.dictOf_iff.mpr ⟨o, z.1, hd⟩) (fun h' hm hs => ?_) (by simp only [sizeLine]; omega)
  obtain ⟨o', ho', hd'⟩ := Heap.dictOf_iff.mp hm
  refine h o' h' _ (F.change hs z.2.1 z.2.2) ?_ hd'
  rw [ef]
  exact news_set N x y hs ho'
theorem dict_copyB {Q : Value → Shared → Prop} (F : Fr h₀ L s.heap m) (N : News h₀ L s.heap news) (hbig : h₀.NoLimit) (hm : (d, o) ∈ news) (hd : o.IsDictOf (bytesKind pw w) kvs) (lo : (d == sysModules) = false) (hz : kvs.length ≤ 1000)
    (h : ∀ d' h' o', Fr h₀ L h' m → News h₀ L h' ((d', o') :: news) → (∀ p ∈ news, p.1 < d') → (d' == sysModules) = false → o'.IsDictOf (bytesKind pw w) kvs → Q (.ref d') { s with heap := h' }) : wpAny (model pw w) A (call (.type "dict") [.ref d]) Q E s := by
  refine kt_call_dict lo (Heap.dictOf_iff.mpr ⟨o, (N _ hm).1, hd⟩) (by simp only [sizeLine]; omega) fun h' hm' hs => ?_
  obtain ⟨o', ho', hd'⟩ := Heap.dictOf_iff.mp hm'
  have N1 := News.push F N { cls := .type "dict", data := .dict #[] }
  exact h _ h' o' ((F.push _).change hs (N1 _ (.head _)).2.1 (N1.fresh (.head _))) (N1.setHead N.apart hs ho') (fun p hp => Heap.lt_size (N p hp).1) (F.notModules (modules_low hbig)) hd'
/-- an empty dict, of whatever keys -/
theorem empty_any {K : Type} [DecidableEq K] {knd : KeyKind pw w K} (hd : o.IsDictOf (strKind pw w) []) : o.IsDictOf knd [] := by
  obtain ⟨es, ep, a, b, c, p, n⟩ := hd
  have : es = #[] := by
    have := p.length
    simp at this
    exact this
  subst this
  exact ⟨#[], ep, a, b, (fun e he => by simp at he), .nil, List.nodup_nil⟩
end

/-! PQN2 -/


local macro_rules | `(tactic| walk_at "call type:dict") => `(tactic| k_extra "m:call type:dict")
theorem regXmac32 : True := by
  k_with "m:call type:dict" => ((k_here; k_dflt (refine' dict_copyB ?zzF ?zzN ?zzbig ?zzhm ?zzhd ?zzlo ?zzhz ?_; (case zzF => k_asm); (case zzN => k_asm); (case zzbig => exact top_big (by assumption)); (case zzhm => k_mem); (case zzhd => assumption); (case zzlo => assumption); (case zzhz => first | assumption | exact Nat.zero_le _); intro d' h' o' F' N' l1 lo' hd'; (try k_lt l1); (try k_sweep))))
  k_with "m:call type:list" => ((k_here; (with_reducible show wpAny _ _ (call (Value.type _) [Value.ref 509]) _ _ _); k_dflt (refine' list_heapT ?zzF ?zzX ?zzN ?zzb ?zzc ?_ ?zzz; (case zzF => k_asm); (case zzX => k_asm); (case zzN => k_asm); (case zzb => k_is); (case zzc => exact rfl); (case zzz => exact Nat.zero_le _)); intro D' c' h' F' N' l1; (try k_lt l1); (try k_sweep)))
  trivial

theorem top_big {mean : ExcName → Option Value} {mg mb : Str → Option Value} {h : Heap} (T : TopM mean mg mb h) : h.NoLimit := T.nolimit
theorem list_heapT {w : World} {A : Around} {E : Value → Shared → Prop} {s : Shared} {h₀ : Heap} {L b : Addr} {m : Str → Option Value} {news : List (Addr × Obj)} {oc : Value} {od : Option Addr} {osl : Array (Option Value)} {its : Array Value} {n2 : Nat} {Q : Value → Shared → Prop} (F : Fr h₀ L s.heap m) (X : (hd.heap_1 w.params).In h₀) (N : News h₀ L s.heap news) (hb : (hd.heap_1 w.params).lookup b = some ⟨oc, od, .seq its n2, osl⟩) (hc : oc = .type "tuple")
    (h : ∀ D c h', Fr h₀ L h' m → News h₀ L h' ((D, listOf its.toList.toArray c) :: news) → (∀ q ∈ news, q.1 < D) → Q (.ref D) { s with heap := h' }) (hz : its.toList.length ≤ sizeLine) : wpAny (model pw w) A (call (.type "list") [.ref b]) Q E s := by
  refine list_copyKT (items := its) F N ?_ (fun D c h' F' N' l1 => h D c h' F' (by rw [Array.toArray_toList]; exact N') l1) (by rw [← Array.length_toList]; exact hz)
  have := F.keep _ _ (X _ _ hb)
  subst hc
  exact ⟨_, this, rfl, _, rfl⟩
theorem pick_info {h₀ h : Heap} {L : Addr} {e0 e1 e2 e3 e4 e5 e6 e7 e8 e9 e10 e11 e12 : Addr × Obj} (N : News h₀ L h [e0, e1, e2, e3, e4, e5, e6, e7, e8, e9, e10, e11, e12]) : News h₀ L h [e6, e7, e2, e1, e3, e9] := fun p hp => N p (by
  simp only [List.mem_cons, List.not_mem_nil, or_false] at hp ⊢
  rcases hp with h | h | h | h | h | h <;> simp [h])
set_option rowWalk.seconds 100 in
theorem make_info {w : World} {x0 : Value} {na b1 n1 sd m1 : Addr} {k1 : Nat} {e1 e2 e3 o0 : Obj} {kvs : List (List UInt8 × Value)} {dp un : Nat} {gd : Option (List Code)} {env : Env} {outer : List Env} {A₀ : Around} {base h₀ : Heap} {L : Addr} {m : Str → Option Value} {mean : ExcName → Option Value} {mg mb : Str → Option Value} {s : Shared} {Q : Value → Shared → Prop}
    (B : Below A₀ base outer h₀) (F : Fr h₀ L s.heap m) (X : (hd.heap_1 w.params).In h₀) (T : TopM mean mg mb h₀) (N : News h₀ L s.heap [(m1, e3), (sd, o0), (n1, e2), (b1, e1), (na, listOf #[x0] k1)])
    (d1 : e1.IsDictOf (bytesKind pw w) []) (d2 : e2.IsDictOf (bytesKind pw w) []) (d3 : e3.IsDictOf (bytesKind pw w) []) (d0 : o0.IsDictOf (bytesKind pw w) kvs) (hkl : kvs.length ≤ 1000) (lo : (b1 == sysModules) = false ∧ (n1 == sysModules) = false ∧ (sd == sysModules) = false ∧ (m1 == sysModules) = false)
    (hf : env.frame = some L) (hk : env.scope.kind = .function) (hd : dp + 20 < recursionLimit) (hu : un + 100 < cLine)
    (h : ∀ i id k3 k4 k5 k6 k7 k8 na' bo nu sd' mo us on od om h' tk, Fr h₀ L h' m → News h₀ L h' [(i, instObj 520 id), (id, infoD w k3 k4 k5 k6 k7 k8 na' bo nu sd' mo us), (sd', od), (mo, om), (nu, on), (sd, o0)] → od.IsDictOf (bytesKind pw w) kvs → om.IsDictOf (bytesKind pw w) [] → on.IsDictOf (bytesKind pw w) [] →
      (sd' == sysModules) = false ∧ (mo == sysModules) = false ∧ (nu == sysModules) = false → Q (.ref i) ⟨h', s.gens, s.drawn, tk, s.os⟩) :
    wG w (atA dp un gd env outer) (call (.ref 520) [.ref na, .ref b1, .ref n1, .ref sd, .ref m1]) Q s := by
  obtain ⟨lo1, lo2, lo3, lo4⟩ := lo
  k_steps
  (rename Fr _ _ _ _ => F6; rename News _ _ _ _ => N6)
  refine h _ _ _ _ _ _ _ _ _ _ _ _ _ _ _ _ _ _ _ F6 (pick_info N6) ?_ ?_ ?_ ⟨?_, ?_, ?_⟩ <;> assumption

/-! PQN3 -/


theorem kept_empty {w : World} {l : Strs} {kd : Addr} {o : Obj} (hd : o.IsDictOf (strKind pw w) []) (lo : (kd == sysModules) = false) : Kept w l kd [(kd, o)] := by
  obtain ⟨es, ep, a, b, c, p, n⟩ := hd
  have : es = #[] := by
    have := p.length
    simp at this
    exact this
  subst this
  exact ⟨o, #[], ep, [], ⟨.head _, a, b, rfl, List.nodup_nil, fun x hx => (nomatch hx), fun x hx => (nomatch hx), fun x hx => (nomatch hx), fun p hp => by
    rw [List.mem_singleton.mp hp]
    show isKept o.cls = true
    rw [a.1]; rfl, lo⟩⟩
theorem map1 {w : World} {h : Heap} {a : Addr} {q : Obj} {kvs : List (List UInt8 × Value)} (e : h.get? a = some q) (d : q.IsDictOf (bytesKind pw w) kvs) : h.MapOf (bytesKind pw w) a (valueAt kvs) := (Heap.dictOf_iff.mpr ⟨q, e, d⟩).mapOf
theorem map0 {w : World} {h : Heap} {a : Addr} {q : Obj} (e : h.get? a = some q) (d : q.IsDictOf (bytesKind pw w) []) : h.MapOf (bytesKind pw w) a fun _ => none := map1 e d
/-- objects that make a terminal -/
def CapsW (w : World) (l : Strs) (c kd st : Addr) (W : List (Addr × Obj)) : Prop := ∀ h : Heap, (∀ p ∈ W, h.get? p.1 = some p.2) → CapsIn w h l c kd ∧ TextAt w h l st
theorem caps_of {w : World} {kd c cd i id na bo nu sd' mo us sd : Addr} {k1 k2 k3 k4 k5 k6 k7 k8 : Tok} {on od om o0 : Obj} {kvs : List (List UInt8 × Value)} {sel : Sel}
    (d1 : od.IsDictOf (bytesKind pw w) kvs) (d2 : om.IsDictOf (bytesKind pw w) []) (d3 : on.IsDictOf (bytesKind pw w) []) (d0 : o0.IsDictOf (bytesKind pw w) kvs) (hkv : KvIs kvs sel) (lo : (sd' == sysModules) = false ∧ (mo == sysModules) = false ∧ (nu == sysModules) = false) (lo0 : (sd == sysModules) = false) :
    CapsW w (strsOf sel) c kd sd [(c, instObj 405 cd), (cd, capsD w k1 k2 i kd), (i, instObj 520 id), (id, infoD w k3 k4 k5 k6 k7 k8 na bo nu sd' mo us), (sd', od), (mo, om), (nu, on), (sd, o0)] := by
  intro h z
  obtain ⟨l1, l2, l3⟩ := lo
  refine ⟨⟨cd, i, id, k1, k2, k3, k4, k5, k6, k7, k8, na, bo, nu, sd', mo, us, ⟨z (c, _) (by simp), z (cd, _) (by simp), z (i, _) (by simp), z (id, _) (by simp), ⟨_, map1 (z (sd', od) (by simp)) d1, hkv.map⟩, map0 (z (mo, om) (by simp)) d2, map0 (z (nu, on) (by simp)) d3, l1, l2, l3⟩⟩, _, map1 (z (sd, o0) (by simp)) d0, hkv.map, lo0⟩
theorem off8 {kd : Addr} {e1 e2 e3 e4 e5 e6 e7 e8 : Addr × Obj} (hne : @Ne Nat e1.1 kd ∧ @Ne Nat e2.1 kd ∧ @Ne Nat e3.1 kd ∧ @Ne Nat e4.1 kd ∧ @Ne Nat e5.1 kd ∧ @Ne Nat e6.1 kd ∧ @Ne Nat e7.1 kd ∧ @Ne Nat e8.1 kd) : ∀ p ∈ [e1, e2, e3, e4, e5, e6, e7, e8], p.1 ≠ kd := fun p hp => by
  obtain ⟨n1, n2, n3, n4, n5, n6, n7, n8⟩ := hne
  simp only [List.mem_cons, List.not_mem_nil, or_false] at hp
  rcases hp with rfl | rfl | rfl | rfl | rfl | rfl | rfl | rfl <;> assumption
set_option rowWalk.seconds 100 in
theorem make_caps {w : World} {i id na bo nu sd' mo us sd : Addr} {k3 k4 k5 k6 k7 k8 : Tok} {on od om o0 : Obj} {kvs : List (List UInt8 × Value)} {sel : Sel} {dp un : Nat} {gd : Option (List Code)} {env : Env} {outer : List Env} {A₀ : Around} {base h₀ : Heap} {L : Addr} {m : Str → Option Value} {mean : ExcName → Option Value} {mg mb : Str → Option Value} {s : Shared} {Q : Value → Shared → Prop}
    (B : Below A₀ base outer h₀) (F : Fr h₀ L s.heap m) (X : (hd.heap_1 w.params).In h₀) (T : TopM mean mg mb h₀) (N : News h₀ L s.heap [(i, instObj 520 id), (id, infoD w k3 k4 k5 k6 k7 k8 na bo nu sd' mo us), (sd', od), (mo, om), (nu, on), (sd, o0)])
    (d1 : od.IsDictOf (bytesKind pw w) kvs) (d2 : om.IsDictOf (bytesKind pw w) []) (d3 : on.IsDictOf (bytesKind pw w) []) (d0 : o0.IsDictOf (bytesKind pw w) kvs) (hkv : KvIs kvs sel) (lo : (sd' == sysModules) = false ∧ (mo == sysModules) = false ∧ (nu == sysModules) = false) (lo0 : (sd == sysModules) = false)
    (hf : env.frame = some L) (hk : env.scope.kind = .function) (hd : dp + 20 < recursionLimit) (hu : un + 100 < cLine)
    (h : ∀ c kd K W h' tk, Fr h₀ L h' m → News h₀ L h' (K ++ W) → Kept w (strsOf sel) kd K → CapsW w (strsOf sel) c kd sd W → (∀ p ∈ W, p.1 ∉ K.map (·.1)) → Q (.ref c) ⟨h', s.gens, s.drawn, tk, s.os⟩) :
    wG w (atA dp un gd env outer) (call (.ref 405) [.ref i]) Q s := by
  k_steps
  (rename Fr _ _ _ _ => F6; rename News _ _ _ _ => N6; rename Obj.IsDictOf (strKind _ _) _ _ => hE)
  refine h _ _ [(_, _)] _ _ _ F6 N6 (kept_empty hE (by assumption)) (caps_of d1 d2 d3 d0 hkv lo lo0) fun p hp z => off8 ?_ p hp (List.mem_singleton.mp z)
  exact ⟨by k_ne, by k_ne, by k_ne, by k_ne, by k_ne, by k_ne, by k_ne, by k_ne⟩

/-! PQN4 -/
/-- what a call told stands for -/
inductive Told : Option (List UInt8 × Int) → Value → List (Addr × Obj) → Prop
  | none : Told none .none []
  | some (a : Addr) (b : List UInt8) (col : Int) (t1 t2 : Tok) : Told (some (b, col)) (.ref a) [(a, tupOf [.bytes b.toArray t1, .int col t2])]
theorem Told.cls {r : Option (List UInt8 × Int)} {v : Value} {FW : List (Addr × Obj)} (x : Told r v FW) : ∀ p ∈ FW, p.2.cls = .type "tuple" := by
  cases x with
  | none => intro p hp; cases hp
  | some a b col t1 t2 => intro p hp; rw [List.mem_singleton.mp hp]
theorem told_of {r : Option (List UInt8 × Int)} {h h' h₀ : Heap} {L : Addr} {m : Str → Option Value} {news : List (Addr × Obj)} {v : Value} (p : ErPost r h v h') (F : Fr h₀ L h m) (N : News h₀ L h' news) : ∃ FW, Told r v FW ∧ News h₀ L h' (FW ++ news) := by
  cases r with
  | none => exact ⟨[], by rw [show v = .none from p]; exact .none, N⟩
  | some r =>
    obtain ⟨b, col⟩ := r
    obtain ⟨a, t1, t2, rfl, n⟩ := p
    exact ⟨_, .some a b col t1 t2, n.news F N⟩
section
variable {w : World} {l : Strs} {kd c st f : Addr} {d u : Nat} {vs : List Value} {K K' FW : List (Addr × Obj)} {dp un : Nat} {gd : Option (List Code)} {env : Env} {outer : List Env} {A₀ : Around} {base h h' h₀ : Heap} {L : Addr} {m : Str → Option Value} {mean : ExcName → Option Value} {mg mb : Str → Option Value} {s : Shared} {Q : Value → Shared → Prop} {r : Option (List UInt8 × Int)}
theorem capsw_in {objs W : List (Addr × Obj)} {news : List (Addr × Obj)} (CW : CapsW w l c kd st W) (N : News h₀ L h news) (hs : ∀ p ∈ W, p ∈ news) (ap : ∀ p ∈ W, p.1 ∉ objs.map (·.1)) : CapsIn w (hideAll h (objs.map (·.1))) l c kd ∧ TextAt w (hideAll h (objs.map (·.1))) l st :=
  CW _ fun p hp => hideAll_get _ (N p (hs p hp)).1 (ap p hp)
theorem apart_next {objs W : List (Addr × Obj)} (x : KStep objs h K' h') (N : ∀ p ∈ W, h.get? p.1 = some p.2) (ap : ∀ p ∈ W, p.1 ∉ objs.map (·.1)) : ∀ p ∈ W, p.1 ∉ K'.map (·.1) := fun p hp z => by
  obtain ⟨q, hq, e⟩ := List.mem_map.mp z
  rcases (x q hq).2 with y | y
  · exact ap p hp (e ▸ y)
  · rw [show q.1 = p.1 from e, N p hp] at y; cases y
theorem kept_mem (hK : Kept w l kd K) : kd ∈ K.map (·.1) := by
  obtain ⟨o, hm, -⟩ := kept_dict hK
  exact List.mem_map.mpr ⟨_, hm, rfl⟩
theorem erU {W : List (Addr × Obj)} (C : DoesC w l c kd f d u vs [] (ErPost r)) (hK : Kept w l kd K) (CW : CapsW w l c kd st W) (ap : ∀ p ∈ W, p.1 ∉ K.map (·.1)) (B : Below A₀ base outer h₀) (F : Fr h₀ L s.heap m) (X : (hd.heap_1 w.params).In h₀) (T : TopM mean mg mb h₀) (N : News h₀ L s.heap (K ++ W))
    (hf : env.frame = some L) (hk : env.scope.kind = .function) (hd : dp + d < recursionLimit) (hu : un + u < cLine)
    (h : ∀ v FW h' tk' K', Fr h₀ L h' m → Kept w l kd K' → Told r v FW → News h₀ L h' (FW ++ (K' ++ W)) → (∀ p ∈ W, p.1 ∉ K'.map (·.1)) → Q v ⟨h', s.gens, s.drawn, tk', s.os⟩) :
    wG w (atA dp un gd env outer) (call (.ref f) vs) Q s := by
  obtain ⟨o, hm, ho⟩ := kept_dict hK
  have NK : News h₀ L s.heap K := fun p hp => N p (List.mem_append_left _ hp)
  have CI := capsw_in (objs := K) CW N (fun p hp => List.mem_append_right _ hp) ap
  refine C K dp un gd env outer A₀ base h₀ L m mean mg mb s Q hK CI.1 B F X T NK hf hk hd hu fun v h' tk' K' x hK' st' hp => ?_
  have NW : News h₀ L h' W := fun p hp => ⟨x _ _ (N p (List.mem_append_right _ hp)).1 (fun z => ap p hp (by rw [List.mem_singleton.mp z]; exact kept_mem hK)), (N p (List.mem_append_right _ hp)).2⟩
  have N2 : News h₀ L h' (K' ++ W) := fun p hp => (List.mem_append.mp hp).elim (st'.led F NK p) (NW p)
  obtain ⟨FW, t, n⟩ := told_of hp F N2
  exact h v FW h' tk' K' (x.fr F fun a ha => by rw [List.mem_singleton.mp ha]; exact (NK _ hm).2) hK'.1 t n (apart_next st' (fun p hp => (N p (List.mem_append_right _ hp)).1) ap)
theorem duU {W : List (Addr × Obj)} (C : DoesD w l c kd st f d u vs (ErPost r)) (hK : Kept w l kd K) (CW : CapsW w l c kd st W) (ap : ∀ p ∈ W, p.1 ∉ K.map (·.1)) (B : Below A₀ base outer h₀) (F : Fr h₀ L s.heap m) (X : (hd.heap_1 w.params).In h₀) (T : TopM mean mg mb h₀) (N : News h₀ L s.heap (FW ++ (K ++ W))) (hW : ∀ p ∈ FW, p.2.cls = .type "tuple")
    (hf : env.frame = some L) (hk : env.scope.kind = .function) (hd : dp + d < recursionLimit) (hu : un + u < cLine)
    (h : ∀ v FW2 h' tk', Fr h₀ L h' m → Told r v FW2 → News h₀ L h' (FW2 ++ FW) → Q v ⟨h', s.gens, s.drawn, tk', s.os⟩) :
    wG w (atA dp un gd env outer) (call (.ref f) vs) Q s := by
  obtain ⟨o, hm, ho⟩ := kept_dict hK
  have NK : News h₀ L s.heap K := fun p hp => N p (List.mem_append_right _ (List.mem_append_left _ hp))
  have CI := capsw_in (objs := K) CW N (fun p hp => List.mem_append_right _ (List.mem_append_right _ hp)) ap
  refine C K dp un gd env outer A₀ base h₀ L m mean mg mb s Q hK CI.1 CI.2 B F X T NK hf hk hd hu fun v h' tk' K' x hK' st' hp => ?_
  have n1 : News h₀ L h' FW := fun p hp => ⟨x _ _ (N p (List.mem_append_left _ hp)).1 (fun z => by
    have e1 := (N p (List.mem_append_left _ hp)).1
    rw [List.mem_singleton.mp z, (NK _ hm).1] at e1
    have := hW p hp
    rw [← Option.some.inj e1, ho] at this
    exact absurd this (by decide)), (N p (List.mem_append_left _ hp)).2⟩
  obtain ⟨FW2, t, n⟩ := told_of hp F n1
  exact h v FW2 h' tk' (x.fr F fun a ha => by rw [List.mem_singleton.mp ha]; exact (NK _ hm).2) t n
end
/-! the plain law -/
theorem made_one {l : Strs} (G : GoodS l) {k o : List UInt8} (hk : ∀ p ∈ madeL, p.1 = k → p.2 = o) : l k = none ∨ l k = some o := by
  cases e : l k with
  | none => exact .inl rfl
  | some b => exact .inr (congrArg some (hk (k, b) (G _ _ e) rfl))
theorem best_app {l : Strs} {at' : Option Int} {a a' b b' : List Way} (h1 : ∀ st, a.foldl (stepB l at') st = a'.foldl (stepB l at') st) (h2 : ∀ st, b.foldl (stepB l at') st = b'.foldl (stepB l at') st) : ∀ st, (a ++ b).foldl (stepB l at') st = (a' ++ b').foldl (stepB l at') st := fun st => by
  rw [List.foldl_append, List.foldl_append, h1, h2]
theorem erase_due {l : Strs} (G : GoodS l) (left right cn : Int) (at' : Option Int) : (bestF l at' (lawW l left right cn)).map (fun x => x.2) = eraseF l left right cn at' := by
  unfold eraseF bestF
  congr 1
  refine best_app (best_app (fun st => ?_) fun st => ?_) (fun st => ?_) none
  · rcases made_one G (k := sEch) (o := oA 88) (by decide) with e | e
    · simp [e, toldF, stepB]
    · have hf : fillF (oA 88) (right - left + 1) = [27, 91] ++ figs (right - left + 1) ++ [88] := by
        unfold fillF
        rw [if_neg (by decide)]
        rfl
      simp only [e, toldF, hf, Option.isSome_some, if_true]
  · rcases made_one G (k := sEl) (o := [27, 91, 75]) (by decide) with e | e
    · by_cases h : right = cn - 1 <;> simp [e, toldF, stepB, h]
    · by_cases h : right = cn - 1 <;> simp [e, toldF, h]
  · rcases made_one G (k := sEl1) (o := [27, 91, 49, 75]) (by decide) with e | e
    · by_cases h : left = 0 <;> simp [e, toldF, stepB, h]
    · by_cases h : left = 0 <;> simp [e, toldF, h]
abbrev otherS : Sel := [(sEch, oA 88), (sEl1, [27, 91, 49, 75]), (sCub1, [8])]
theorem other_erase : eraseF (strsOf otherS) 0 4 5 (some 4) = some ([27, 91, 49, 75], 4) := by decide +kernel
theorem bare_erase : eraseF (strsOf []) 0 4 5 (some 4) = none := by decide +kernel

/-! PQN5 -/
section
variable {w : World} {A : Around} {E : Value → Shared → Prop} {s : Shared} {h₀ : Heap} {L a a' : Addr} {news : List (Addr × Obj)} {b : List UInt8} {n : Int} {t u t' u' : Tok} {Q : Value → Shared → Prop}
theorem same_items (j : Nat) (h1 : j < #[Value.bytes b.toArray t, .int n u].size) (h2 : j < #[Value.bytes b.toArray t', .int n u'].size) : PySem.SeqAt.EqAt A s #[Value.bytes b.toArray t, .int n u][j] #[Value.bytes b.toArray t', .int n u'][j] true := by
  match j, h1, h2 with
  | 0, _, _ => exact fun prog w E Q hq => eqBool_bytes (by simpa using hq)
  | 1, _, _ => exact fun prog w E Q hq => wpAny_eqBool_int (by simpa using hq)
theorem way_eq (N : News h₀ L s.heap news) (ha : (a, tupOf [.bytes b.toArray t, .int n u]) ∈ news) (hb : (a', tupOf [.bytes b.toArray t', .int n u']) ∈ news) (hu : A.units < cLine) (h : Q (.bool true) s) : wpAny (model pw w) A (compareOp .Eq (.ref a) (.ref a')) Q E s :=
  PySem.SeqAt.RcAt.tuples (e := fun _ => true) ⟨_, (N _ ha).1, rfl, _, rfl⟩ ⟨_, (N _ hb).1, rfl, _, rfl⟩ hu same_items pw w E Q h
theorem way_ne (N : News h₀ L s.heap news) (ha : (a, tupOf [.bytes b.toArray t, .int n u]) ∈ news) (hb : (a', tupOf [.bytes b.toArray t', .int n u']) ∈ news) (hu : A.units < cLine) (h : Q (.bool false) s) : wpAny (model pw w) A (compareOp .NotEq (.ref a) (.ref a')) Q E s :=
  PySem.SeqAt.RcNeAt.tuples (e := fun _ => true) ⟨_, (N _ ha).1, rfl, _, rfl⟩ ⟨_, (N _ hb).1, rfl, _, rfl⟩ hu same_items pw w E Q h
theorem lookup_bb : typeLookup (.type "bytes") "__bytes__" = pure (some (.builtin "bytes.__bytes__")) := by rw [typeLookup_type, builtinLookup_eq_fast]; kernel_rfl
theorem bytes_bytes (h : Q (.bytes b.toArray t) s) : wpAny (model pw w) A (call (.type "bytes") [.bytes b.toArray t]) Q noE s := by
  have hT : s.TypeIs (.bytes b.toArray t) "bytes" := rfl
  refine callType_codes (Q₁ := fun obj s₁ => s₁.TypeIs obj "bytes" ∧ Q obj s₁) F.bm_called (F.bm_typeCall _) F.entry_object_init ?_ fun obj s₁ h₁ =>
    ⟨h₁.1, F.args_object_init_2 obj _, object_init_meets F.bm_called.init.lookup F.bm_called.made (by decide) pw w A.in1 _ s₁ ⟨h₁.1, rfl, h₁.2⟩⟩
  refine codeAny_of_tree ?_
  show wpAny _ A.in1.in1 (do checkBuiltinCall "bytes.__new__" ⟨[.type "bytes", .bytes b.toArray t], []⟩; again (.builtin "bytes.__new__" ⟨[.type "bytes", .bytes b.toArray t], []⟩)) _ _ s
  refine wpAny_bind (wpAny_of_eq (F.bm_newCall _) (wpAny_pure ⟨plainId_quiet F.bm_plain _, codeAny_builtin F.bm_entry ?_⟩))
  rw [Around.under_plainId F.bm_plain _]
  unfold Builtin.«bytes.__new__»
  refine wpAny_bind (wpAny_of_eq (a := true) rfl ?_)
  refine bm_if_false rfl ?_
  refine wpAny_bind (wpAny_of_eq F.bm_sub ?_)
  refine bm_if_false rfl ?_
  refine wpAny_bind (wpAny_of_eq (F.bm_bind _) ?_)
  refine wpAny_bind (wpAny_of_eq (a := ()) rfl ?_)
  refine wpAny_bind (wpAny_of_eq (a := ()) rfl ?_)
  refine bm_if_false rfl ?_
  refine wpAny_bind (wpAny_specialOf hT lookup_bb ?_)
  show wpAny _ _ (rule "bytes.__new__.of-bytes" >>= _) _ _ _
  refine wpAny_bind (wpAny_rule ?_)
  refine wpAny_bind (wpAny_of_eq (a := .type "bytes") rfl ?_)
  refine bm_if_true (by decide) ?_
  show wpAny _ _ (if (Value.type "bytes" == Value.type "bytes") = true then _ else _) _ _ _
  refine bm_if_true (by decide) ?_
  first
    | exact wpAny_pure ⟨PySem.W.typeIs_bytes _ _ _, h⟩
    | exact wpAny_bind (wpAny_pure (wpAny_pure ⟨PySem.W.typeIs_bytes _ _ _, h⟩))
theorem told_eq {r r' : Option (List UInt8 × Int)} {v : Value} {W : List (Addr × Obj)} (e : r = r') (x : Told r v W) : Told r' v W := e ▸ x
theorem made_three {d : Addr} {o : Obj} {g : Obj → List (Addr × Obj)} {m : Str → Option Value} {k1 k2 k3 : List UInt8} {t1 t2 t3 : Tok} {v1 v2 v3 : Value} (F : Fr h₀ L s.heap m) (N : News h₀ L s.heap news) (U : UpdF d o news g) (hd : o.IsDictOf (bytesKind pw w) []) (hn : [k1, k2, k3].Nodup)
    (h : ∀ h' o', Fr h₀ L h' m → News h₀ L h' (g o') → o'.IsDictOf (bytesKind pw w) [(k1, v1), (k2, v2), (k3, v3)] → Q (.ref d) { s with heap := h', toks := s.toks + 3 }) :
    KdnMade pw w (bytesKind pw w) d Q [(.bytes k1.toArray t1, v1), (.bytes k2.toArray t2, v2), (.bytes k3.toArray t3, v3)] s := by
  obtain ⟨pre, post, rfl, hg, a, b⟩ := U.split
  have hm := N (d, o) (List.mem_append_right _ (.head _))
  refine ⟨[(k1, v1), (k2, v2), (k3, v3)], ⟨isB w k1 t1, rfl, isB w k2 t2, rfl, isB w k3 t3, rfl, trivial⟩, Heap.dictOf_iff.mpr ⟨o, hm.1, hd⟩, fun h' hmm hs => ?_⟩
  rw [merged_nil_of_nodup [(k1, v1), (k2, v2), (k3, v3)] hn] at hmm
  obtain ⟨o', ho', hd'⟩ := Heap.dictOf_iff.mp hmm
  exact h h' o' (F.change hs hm.2.1 hm.2.2) (hg o' ▸ N.setIn a b hs ho') hd'
end

/-! PQN1 -/




local macro_rules | `(tactic| walk_at "setItem ref bytes") => `(tactic| k_extra "m:setItem ref bytes")
theorem regXmac30 : True := by
  k_with "m:call ref" => ((k_here; (with_reducible show wpAny _ _ (call (Value.ref 529) _) _ _ _); k_dflt (
  refine' does_deckU ?zzhl ?zzhi ?zzhz ?zzB ?zzF ?zzX ?zzT ?zzN ?zzf ?zzk ?zzhd ?zzhu ?_; (case zzhl => assumption); (case zzhi => assumption); (case zzhz => assumption); (case zzB => k_asm); (case zzF => k_asm); (case zzX => k_asm); (case zzT => k_asm); (case zzN => k_asm); (case zzf => exact rfl); (case zzk => exact rfl); (case zzhd => walk_at "lim"); (case zzhu => walk_at "lim"); k_whole;
  intro dk' cl' o' ws' n' ns' h' tk' F' N' hD' hI' hz' hne' lo' lt'; (try k_lt lt'); (try k_sweep))))
  k_with "m:setItem ref bytes" => ((k_here; k_dflt (refine' set_text ?zzF ?zzN ?zzU ?zzhd ?zzhz ?_; (case zzF => k_asm); (case zzN => k_asm); (case zzU => k_updF); (case zzhd => assumption); (case zzhz => assumption); intro o' h' tk' F' N' hd'; (try dsimp only at N'); (try k_sweep))))
  k_with "noinline" => (first | (with_reducible show wG _ _ (call (Value.ref 529) _) _ _) | (with_reducible show wG _ _ (call (Value.ref 536) _) _ _) | (with_reducible show wG _ _ (call (Value.ref 543) _) _ _))
  k_with "wG" => (((first | (with_reducible show wG _ _ (call (Value.ref 529) _) _ _) | (with_reducible show wG _ _ (call (Value.ref 536) _) _ _) | (with_reducible show wG _ _ (call (Value.ref 543) _) _ _)); refine wG_any ?_))
  k_with "end all" => (with_reducible assumption)
  k_with "end lw" => ((intro y; (dsimp only [lwM]); first | ((refine' Eq.trans ?zzh1 (Eq.trans (lk_eq ?zza ?zzb y) (Eq.symm ?zzh2))); (case zzh2 => apply ch5 (y := y)); (case zzh1 => first | apply ch7 (y := y) | apply ch6 (y := y) | apply ch8 (y := y) | apply ch9 (y := y) | apply ch10 (y := y) | apply ch5 (y := y) | apply ch11 (y := y)); (case zza => kernel_rfl); (case zzb => kernel_rfl)) | ((by_cases h1 : y = Str.ofString "octets"); (subst h1; exact rfl); (by_cases h2 : y = Str.ofString "word"); (subst h2; exact rfl); (by_cases h3 : y = Str.ofString "made"); (subst h3; exact rfl); (simp only [h1, h2, h3, if_false]))))
  trivial


theorem regXmac31 : True := by
  k_with "m:call ref" => ((k_here; (with_reducible show wpAny _ _ (call (Value.ref 543) _) _ _ _); k_dflt (
  refine' Does.useM (does_pick _ _ _ _ _ _ _ _ _ _ _ ?zzho ?zzhT0 ?zzhT ?zzhi ?zzhz ?zzhu1 ?zzhu2 ?zzhne ?zzhd1 ?zzhd2 ?zzlo) ?zzB ?zzF ?zzX ?zzT ?zzN ?zzhs ?zzhm ?zzf ?zzk ?zzhd ?zzhu ?_; (case zzho => assumption); (case zzB => k_asm); (case zzF => k_asm); (case zzX => k_asm); (case zzT => k_asm); (case zzN => k_asm);
  (case zzhs => (intro p hp; (rcases List.mem_cons.mp hp with rfl | hp); (k_mem); (rcases List.mem_cons.mp hp with rfl | hp); (k_mem); (rw [List.mem_singleton.mp hp]; k_mem)));
  (case zzhm => (intro a ha; (rcases List.mem_cons.mp ha with rfl | ha); (exact ⟨_, by k_mem⟩); (rw [List.mem_singleton.mp ha]; exact ⟨_, by k_mem⟩)));
  (case zzf => exact rfl); (case zzk => exact rfl); (case zzhd => walk_at "lim"); (case zzhu => walk_at "lim"); (case zzhi => assumption); (case zzhz => assumption); (case zzhne => assumption); (case zzlo => assumption); (case zzhT0 => omega); (case zzhT => omega); (case zzhu1 => exact Nat.le_of_ble_eq_true rfl); (case zzhu2 => exact Nat.le_of_ble_eq_true rfl); (case zzhd1 => k_ne); (case zzhd2 => k_ne); k_whole;
  intro v' h' k' F' x' lt' P'; rcases P' with ⟨i', o', ws', n', ns', hv', g1', hD', g2', hI', hz'⟩;
  refine' led2 ?zzN x' ?zzU1 ?zzU2 g1' g2' ?zzab ?_; (case zzN => k_asm); (case zzU1 => k_upd); (case zzU2 => k_upd); (case zzab => assumption); intro N1'; clear x' lt' g1' g2'; (try k_sweep))))
  k_with "end l2" => ((intro y; (dsimp only [l2M]); first | ((refine' Eq.trans ?zzh1 (Eq.trans (lk_eq ?zza ?zzb y) (Eq.symm ?zzh2))); (case zzh2 => apply ch4 (y := y)); (case zzh1 => first | apply ch6 (y := y) | apply ch5 (y := y) | apply ch7 (y := y) | apply ch8 (y := y) | apply ch9 (y := y) | apply ch4 (y := y) | apply ch10 (y := y)); (case zza => kernel_rfl); (case zzb => kernel_rfl)) | ((by_cases h1 : y = Str.ofString "at"); (subst h1; exact rfl); (by_cases h2 : y = Str.ofString "right"); (subst h2; exact rfl); (by_cases h3 : y = Str.ofString "left"); (subst h3; exact rfl); (by_cases h4 : y = Str.ofString "columns"); (subst h4; exact rfl); (simp only [h1, h2, h3, h4, if_false]))))
  trivial

local macro_rules | `(tactic| walk_at "compareOp Eq ref ref") => `(tactic| k_extra "m:compareOp Eq ref ref")
local macro_rules | `(tactic| walk_at "compareOp NotEq ref ref") => `(tactic| k_extra "m:compareOp NotEq ref ref")
local macro_rules | `(tactic| walk_at "eval Dict") => `(tactic| k_extra "m:eval Dict")
local macro_rules | `(tactic| walk_at "KdnMade") => `(tactic| k_extra "m:KdnMade")
theorem regXmac33 : True := by
  k_with "noinline" => (first | (with_reducible show wG _ _ (call (Value.ref 520) _) _ _) | (with_reducible show wG _ _ (call (Value.ref 405) _) _ _) | (with_reducible show wG _ _ (call (Value.ref 501) _) _ _) | (with_reducible show wG _ _ (call (Value.ref 562) _) _ _))
  k_with "wG" => (((with_reducible show wG _ _ (call (Value.ref 520) _) _ _); k_dflt (
  refine' make_info ?zzB ?zzF ?zzX ?zzT ?zzN ?zzd1 ?zzd2 ?zzd3 ?zzd0 ?zzhz ?zzlo ?zzf ?zzk ?zzhd ?zzhu ?_; (case zzB => k_asm); (case zzF => k_asm); (case zzX => k_asm); (case zzT => k_asm); (case zzN => (refine' news5 ?zzn0 ?zzn1 ?zzn2 ?zzn3 ?zzn4 ?zzn5; (case zzn0 => k_asm); (case zzn1 => k_mem); (case zzn2 => k_mem); (case zzn3 => k_mem); (case zzn4 => k_mem); (case zzn5 => k_mem))); (case zzd1 => exact empty_any (by assumption)); (case zzd2 => exact empty_any (by assumption)); (case zzd3 => exact empty_any (by assumption)); (case zzd0 => first | assumption | exact empty_any (by assumption)); (case zzhz => first | assumption | exact Nat.le_of_ble_eq_true rfl); (case zzlo => refine ⟨?_, ?_, ?_, ?_⟩ <;> assumption); (case zzf => exact rfl); (case zzk => exact rfl); (case zzhd => walk_at "lim"); (case zzhu => walk_at "lim"); k_whole;
  intro i' id' k3' k4' k5' k6' k7' k8' na' bo' nu' sd' mo' us' on' od' om' h' tk' F' N' hd1' hd2' hd3' lo'; (try k_sweep))))
  k_with "wG" => (((with_reducible show wG _ _ (call (Value.ref 405) _) _ _); k_dflt (
  refine' make_caps ?zzB ?zzF ?zzX ?zzT ?zzN ?zzd1 ?zzd2 ?zzd3 ?zzd0 ?zzhkv ?zzlo ?zzlo0 ?zzf ?zzk ?zzhd ?zzhu ?_; (case zzB => k_asm); (case zzF => k_asm); (case zzX => k_asm); (case zzT => k_asm); (case zzN => k_asm); (case zzd1 => assumption); (case zzd2 => assumption); (case zzd3 => assumption); (case zzd0 => first | assumption | exact empty_any (by assumption)); (case zzhkv => first | assumption | exact KvIs.nil | (repeat (first | exact KvIs.nil | apply KvIs.cons))); (case zzlo => assumption); (case zzlo0 => assumption); (case zzf => exact rfl); (case zzk => exact rfl); (case zzhd => walk_at "lim"); (case zzhu => walk_at "lim"); k_whole;
  intro c' kd' K' W' h' tk' F' N' hK' hC' hT'; (try k_sweep))))
  k_with "wG" => (((with_reducible show wG _ _ (call (Value.ref 501) _) _ _); (rename Kept _ _ _ _ => kh0); k_dflt (
  (first | refine' erU (does_erase _ _ _ _ _ _ _ _ _ _ _ _ ?zzG ?zzl0 ?zzl1 ?zzr1 ?zzc1 ?zza1) ?zzKH ?zzCA ?zzTA ?zzB ?zzF ?zzX ?zzT ?zzN ?zzf ?zzk ?zzhd ?zzhu ?_ | refine' erU (does_erase _ _ _ _ _ _ _ (some _) _ _ _ _ ?zzG ?zzl0 ?zzl1 ?zzr1 ?zzc1 ?zza1) ?zzKH ?zzCA ?zzTA ?zzB ?zzF ?zzX ?zzT ?zzN ?zzf ?zzk ?zzhd ?zzhu ?_); (case zzKH => exact kh0); (case zzCA => assumption); (case zzTA => assumption); (case zzB => k_asm); (case zzF => k_asm); (case zzX => k_asm); (case zzT => k_asm); (case zzN => k_asm); (case zzf => exact rfl); (case zzk => exact rfl); (case zzhd => walk_at "lim"); (case zzhu => walk_at "lim"); (case zzG => first | exact good_sel (by assumption) | exact good_sel (by decide)); (case zzl0 => omega); (case zzl1 => omega); (case zzr1 => omega); (case zzc1 => omega); (case zza1 => first | assumption | (intro a e; cases e; exact ⟨by decide, by decide⟩)); k_whole;
  intro v' W' h' tk' K' F' hK' hV' N' hT'; clear kh0; (try k_sweep))))
  k_with "wG" => (((with_reducible show wG _ _ (call (Value.ref 562) _) _ _); (rename Kept _ _ _ _ => kh0); (rename Told _ _ _ => tl0); k_dflt (
  refine' duU (does_due _ _ _ _ _ _ _ _ _ _ _ _ _ ?zzG ?zzl0 ?zzl1 ?zzr1 ?zzc1 ?zza1) ?zzKH ?zzCA ?zzTA ?zzB ?zzF ?zzX ?zzT ?zzN ?zzW ?zzf ?zzk ?zzhd ?zzhu ?_; (case zzKH => exact kh0); (case zzCA => assumption); (case zzTA => assumption); (case zzB => k_asm); (case zzF => k_asm); (case zzX => k_asm); (case zzT => k_asm); (case zzN => k_asm); (case zzW => exact Told.cls tl0); (case zzf => exact rfl); (case zzk => exact rfl); (case zzhd => walk_at "lim"); (case zzhu => walk_at "lim"); (case zzG => exact good_sel (by assumption)); (case zzl0 => omega); (case zzl1 => omega); (case zzr1 => omega); (case zzc1 => omega); (case zza1 => assumption); k_whole;
  intro v' W' h' tk' F' hU' N'; (try k_sweep))))
  k_with "end l3" => ((intro y; (dsimp only [l3M]); first | ((refine' Eq.trans ?zzh1 (Eq.trans (lk_eq ?zza ?zzb y) (Eq.symm ?zzh2))); (case zzh2 => apply ch3 (y := y)); (case zzh1 => first | apply ch5 (y := y) | apply ch4 (y := y) | apply ch6 (y := y) | apply ch7 (y := y) | apply ch8 (y := y) | apply ch3 (y := y) | apply ch9 (y := y)); (case zza => kernel_rfl); (case zzb => kernel_rfl)) | ((by_cases h1 : y = Str.ofString "due"); (subst h1; exact rfl); (by_cases h2 : y = Str.ofString "told"); (subst h2; exact rfl); (by_cases h3 : y = Str.ofString "caps"); (subst h3; exact rfl); (simp only [h1, h2, h3, if_false]))))
  k_with "m:call type:bytes" => ((k_here; (with_reducible show wpAny _ _ (call (Value.type "bytes") [Value.bytes _ _]) _ _ _); k_dflt (refine bytes_bytes ?_)))
  k_with "m:compareOp Eq ref ref" => ((k_here; k_dflt (refine' way_eq ?zzN ?zzha ?zzhb ?zzhu ?_; (case zzN => k_asm); (case zzha => k_mem); (case zzhb => k_mem); (case zzhu => k_room))))
  k_with "m:compareOp NotEq ref ref" => ((k_here; k_dflt (refine' way_ne ?zzN ?zzha ?zzhb ?zzhu ?_; (case zzN => k_asm); (case zzha => k_mem); (case zzhb => k_mem); (case zzhu => k_room))))
  k_with "m:eval Dict" => ((k_here; (with_reducible show wpAny _ _ (eval (Expr.Dict (some (Expr.Constant (Const.bytes _) _ _) :: _) _ _) _) _ _ _); k_dflt (refine' kdn_eval (knd := bytesKind pw w) ?zzF ?zzN ?zzb ?zza ?zzl ?zze ?zzn ?_; (case zzF => k_asm); (case zzN => k_asm); (case zzb => exact top_big (by assumption)); (case zza => rfl); (case zzl => rfl); (case zze => exact List.cons_ne_nil _ _); (case zzn => exact Nat.le_of_ble_eq_true rfl)); intro d' h' o' F' N' l1 lo' hd'; (try k_lt l1)))
  k_with "m:KdnMade" => ((k_here; k_dflt (refine' made_three ?zzF ?zzN ?zzU ?zzd ?zzn ?_; (case zzF => k_asm); (case zzN => k_asm); (case zzU => k_updF); (case zzd => assumption); (case zzn => decide)); intro h' o' F' N' hd'; (try dsimp only at N'); (try k_sweep)))
  trivial

theorem does_deckU {w : World} {sl : Addr} {vs0 : List Value} {ns0 : List Int} {dp un : Nat} {gd : Option (List Code)} {env : Env} {outer : List Env} {A₀ : Around} {base h₀ : Heap} {L : Addr} {m : Str → Option Value} {mean : ExcName → Option Value} {mg mb : Str → Option Value} {s : Shared} {Q E : Value → Shared → Prop} {news : List (Addr × Obj)}
    (hl : h₀.IsList sl vs0.toArray) (hi : IntsAre vs0 ns0) (hz : ns0.length ≤ 63) (B : Below A₀ base outer h₀) (F : Fr h₀ L s.heap m) (X : (hd.heap_1 w.params).In h₀) (T : TopM mean mg mb h₀) (N : News h₀ L s.heap news) (hf : env.frame = some L) (hk : env.scope.kind = .function) (hd : dp + 20 < recursionLimit) (hu : un + 200 < cLine)
    (h : ∀ dk cl o ws n ns h' tk, Fr h₀ L h' m → News h₀ L h' ((dk, o) :: (cl, listOf ws.toArray n) :: news) → DeckIs w o cl 0 → IntsAre ws ns → ns.length ≤ 16 → @Ne Nat dk cl → (dk == sysModules) = false → (∀ p ∈ news, p.1 ≠ dk ∧ p.1 ≠ cl) → Q (.ref dk) ⟨h', s.gens, s.drawn, tk, s.os⟩) :
    wpAny (model pw w) (atA dp un gd env outer) (call (.ref 529) [.ref sl]) Q E s := by
  refine does_deck w sl vs0 ns0 hi hz dp un gd env outer A₀ base h₀ L m mean mg mb s Q E hl B F X T (fun p hp => nomatch hp) hf hk hd hu fun v h' tk' x hp => ?_
  obtain ⟨dk, cl, o, ws, n, ns, rfl, n1, n2, hD, hI, hz', hne, lo⟩ := hp
  have N1 := x.news0 N
  refine h dk cl o ws n ns h' tk' (x.fr F fun _ q => nomatch q) (n1.news F (n2.news F N1)) hD hI hz' hne lo fun p hp => ⟨n1.ne N p hp, n2.ne N p hp⟩
inductive LawI (w : World) (g : Heap) (L : Addr) (s : Shared) (m : Str → Option Value) (T : Int) (dk cl st : Addr) (sel : Sel) (s' : Shared) : Prop
  | intro (h : _) (tk : _) (od : _) (ws : _) (n : _) (ns : _) (o0 : _) (kvs : _) : s' = ⟨h, s.gens, s.drawn, tk, s.os⟩ → Fr g L h m → News g L h [(dk, od), (cl, listOf ws.toArray n), (st, o0)] → DeckIs w od cl T → IntsAre ws ns → ns.length ≤ 16 → o0.IsDictOf (bytesKind pw w) kvs → KvIs kvs sel → LawI w g L s m T dk cl st sel s'
abbrev lwM (sl : Addr) (ov wv mv : Option Value) (st dk : Addr) : Str → Option Value := fun y =>
  if y = Str.ofString "octets" then ov else if y = Str.ofString "word" then wv else if y = Str.ofString "made" then mv else if y = Str.ofString "deck" then some (.ref dk) else if y = Str.ofString "strings" then some (.ref st) else List.lookup y [(Str.ofString "script", Value.ref sl)].reverse
theorem lwM0 {sl st dk : Addr} (y : Str) : (if y = Str.ofString "deck" then some (Value.ref dk) else if y = Str.ofString "strings" then some (Value.ref st) else List.lookup y [(Str.ofString "script", Value.ref sl)].reverse) = lwM sl none none none st dk y := by
  dsimp only [lwM]
  by_cases h1 : y = Str.ofString "octets"
  · subst h1; rfl
  by_cases h2 : y = Str.ofString "word"
  · subst h2; rfl
  by_cases h3 : y = Str.ofString "made"
  · subst h3; rfl
  simp only [h1, h2, h3, if_false]
inductive AreM (W : List (Addr × Obj)) : List Value → Sel → Prop
  | nil : AreM W [] []
  | cons {a vs sel} (k b : List UInt8) (t u : Tok) : (a, tupOf [.bytes k.toArray t, .bytes b.toArray u]) ∈ W → AreM W vs sel → AreM W (.ref a :: vs) ((k, b) :: sel)
theorem AreM.get {W : List (Addr × Obj)} {vs : List Value} {sel : Sel} (x : AreM W vs sel) : ∀ {i : Nat} {v : Value}, vs[i]? = some v → ∃ a k b t u, v = .ref a ∧ (a, tupOf [.bytes k.toArray t, .bytes b.toArray u]) ∈ W ∧ sel[i]? = some (k, b) := by
  induction x with
  | nil => intro i v h; simp at h
  | @cons a vs sel k b t u hm _ ih =>
    intro i v h
    cases i with
    | zero => simp at h; exact ⟨a, k, b, t, u, h.symm, hm, by simp⟩
    | succ i => simp at h; obtain ⟨a', k', b', t', u', x, y, z⟩ := ih h; exact ⟨a', k', b', t', u', x, y, by simpa using z⟩
theorem AreM.len {W : List (Addr × Obj)} {vs : List Value} {sel : Sel} (x : AreM W vs sel) : vs.length = sel.length := by
  induction x with
  | nil => rfl
  | cons _ _ _ _ _ _ ih => simp [ih]
theorem dict_cls {K : Type} [DecidableEq K] {w : World} {knd : KeyKind pw w K} {o : Obj} {kvs : List (K × Value)} (h : o.IsDictOf knd kvs) : o.cls ≠ .type "tuple" := by
  obtain ⟨es, ep, ⟨a, _, _⟩, _⟩ := h
  rw [a]
  exact fun q => absurd q (by decide)
theorem frCongr' {h₀ h : Heap} {L : Addr} {m m' : Str → Option Value} (F : Fr h₀ L h m) (e : ∀ y, m y = m' y) : Fr h₀ L h m' := by
  rwa [show m = m' from funext e] at F
theorem made_led {h₀ h : Heap} {L : Addr} {x0 x1 x2 x3 x4 x5 x6 x7 x8 x9 d c s : Addr × Obj} (N : News h₀ L h [x0, x9, x8, x7, x6, x5, x4, x3, x2, x1, d, c, s]) : News h₀ L h (d :: c :: s :: x0 :: [x1, x2, x3, x4, x5, x6, x7, x8, x9]) := fun p hp => N p (by
  simp only [List.mem_cons, List.not_mem_nil, or_false] at hp ⊢
  rcases hp with h | h | h | h | h | h | h | h | h | h | h | h | h <;> simp [h])
inductive LmJ (w : World) (sl dk cl st ml : Addr) (vs : List Value) (n : Nat) (W : List (Addr × Obj)) (i : Nat) (m' : Str → Option Value) (n' : List (Addr × Obj)) : Prop
  | intro (od : _) (ws : _) (k : _) (ns : _) (o0 : _) (kvs : _) (sel : _) (ov : _) (wv : _) : n' = (dk, od) :: (cl, listOf ws.toArray k) :: (st, o0) :: (ml, listOf vs.toArray n) :: W → DeckIs w od cl i → IntsAre ws ns → ns.length ≤ 16 → o0.IsDictOf (bytesKind pw w) kvs → KvIs kvs sel → sel.Sublist (madeL.take i) → (∀ y, m' y = lwM sl ov wv (some (.ref ml)) st dk y) → LmJ w sl dk cl st ml vs n W i m' n'
inductive LmI (w : World) (g : Heap) (L : Addr) (s : Shared) (sl dk cl st : Addr) (s' : Shared) : Prop
  | intro (h : _) (tk : _) (ml : _) (vs : _) (n : _) (W : _) (m' : _) (n' : _) : s' = ⟨h, s.gens, s.drawn, tk, s.os⟩ → Fr g L h m' → News g L h n' → LmJ w sl dk cl st ml vs n W 0 m' n' → AreM W vs madeL → (∀ p ∈ W, p.2.cls = .type "tuple") → ((@Ne Nat ml dk ∧ @Ne Nat ml cl ∧ @Ne Nat ml st)) → m' = lwM sl none none (some (.ref ml)) st dk → LmI w g L s sl dk cl st s'
theorem it_dict {K : Type} [DecidableEq K] {w : World} {knd : KeyKind pw w K} {o : Obj} {kvs : List (K × Value)} (h : o.IsDictOf knd kvs) : isIt o.cls = false := by
  obtain ⟨es, ep, ⟨a, _, _⟩, _⟩ := h
  rw [a]; rfl
theorem deck_it {w : World} {o : Obj} {cl : Addr} {tn : Int} (h : DeckIs w o cl tn) : isIt o.cls = false := by
  obtain ⟨_, _, _, _, h⟩ := h
  exact it_dict h
theorem deck_tup {w : World} {o : Obj} {cl : Addr} {tn : Int} (h : DeckIs w o cl tn) : o.cls ≠ .type "tuple" := by
  obtain ⟨_, _, _, _, h⟩ := h
  exact dict_cls h
theorem LmJ.cls {w : World} {sl dk cl st ml : Addr} {vs : List Value} {n : Nat} {W : List (Addr × Obj)} {i : Nat} {m' : Str → Option Value} {n' : List (Addr × Obj)} (hW : ∀ p ∈ W, p.2.cls = .type "tuple") (J : LmJ w sl dk cl st ml vs n W i m' n') : ∀ p ∈ n', isIt p.2.cls = false := by
  obtain ⟨od, ws, k, ns, o0, kvs, sel, ov, wv, rfl, hD, -, -, hd0, -⟩ := J
  intro p hp
  simp only [List.mem_cons] at hp
  rcases hp with rfl | rfl | rfl | rfl | hp
  · exact deck_it hD
  · rfl
  · exact it_dict hd0
  · rfl
  · exact tup_it hW p hp
theorem six_get {l r c d : Int} {t1 t2 t3 t4 t5 : Tok} {i : Nat} {v : Value} (e : ([Value.none, .int l t1, .int r t2, .int 0 t3, .int c t4, .int d t5] : List Value)[i]? = some v) : ∃ at' ta, v = oI at' ta ∧ ∀ a, at' = some a → a = l ∨ a = r ∨ a = 0 ∨ a = c ∨ a = d := by
  match i, e with
  | 0, e => simp at e; exact ⟨none, 0, e.symm, fun a h => nomatch h⟩
  | 1, e => simp at e; exact ⟨some l, t1, e.symm, fun a h => by cases h; exact .inl rfl⟩
  | 2, e => simp at e; exact ⟨some r, t2, e.symm, fun a h => by cases h; exact .inr (.inl rfl)⟩
  | 3, e => simp at e; exact ⟨some 0, t3, e.symm, fun a h => by cases h; exact .inr (.inr (.inl rfl))⟩
  | 4, e => simp at e; exact ⟨some c, t4, e.symm, fun a h => by cases h; exact .inr (.inr (.inr (.inl rfl)))⟩
  | 5, e => simp at e; exact ⟨some d, t5, e.symm, fun a h => by cases h; exact .inr (.inr (.inr (.inr rfl)))⟩
  | n + 6, e => simp at e
abbrev l2M (sl st dk : Addr) (ov wv mv cv lv rv av : Option Value) : Str → Option Value := fun y =>
  if y = Str.ofString "at" then av else if y = Str.ofString "right" then rv else if y = Str.ofString "left" then lv else if y = Str.ofString "columns" then cv else lwM sl ov wv mv st dk y
inductive LwT (w : World) (g : Heap) (L : Addr) (s : Shared) (m : Str → Option Value) (T : Int) (dk cl st : Addr) (o0 : Obj) (s' : Shared) : Prop
  | intro (h : _) (tk : _) (od : _) (ws : _) (n : _) (ns : _) : s' = ⟨h, s.gens, s.drawn, tk, s.os⟩ → Fr g L h m → News g L h [(dk, od), (cl, listOf ws.toArray n), (st, o0)] → DeckIs w od cl T → IntsAre ws ns → ns.length ≤ 16 → LwT w g L s m T dk cl st o0 s'
inductive LwN (w : World) (g : Heap) (L : Addr) (s : Shared) (P : Int → Prop) (m : Value → Str → Option Value) (T : Int) (dk cl st : Addr) (o0 : Obj) (s' : Shared) : Prop
  | intro (x : Int) (tx : Tok) : P x → LwT w g L s (m (.int x tx)) T dk cl st o0 s' → LwN w g L s P m T dk cl st o0 s'
inductive LwO (w : World) (g : Heap) (L : Addr) (s : Shared) (P : Option Int → Prop) (m : Value → Str → Option Value) (T : Int) (dk cl st : Addr) (o0 : Obj) (s' : Shared) : Prop
  | intro (x : Option Int) (tx : Tok) : P x → LwT w g L s (m (oI x tx)) T dk cl st o0 s' → LwO w g L s P m T dk cl st o0 s'
theorem news5 {h₀ h : Heap} {L : Addr} {news : List (Addr × Obj)} {p1 p2 p3 p4 p5 : Addr × Obj} (N : News h₀ L h news) (h1 : p1 ∈ news) (h2 : p2 ∈ news) (h3 : p3 ∈ news) (h4 : p4 ∈ news) (h5 : p5 ∈ news) : News h₀ L h [p1, p2, p3, p4, p5] := fun p hp => N p (by
  simp only [List.mem_cons, List.not_mem_nil, or_false] at hp
  rcases hp with rfl | rfl | rfl | rfl | rfl <;> assumption)
abbrev l3M (sl st dk : Addr) (ov wv mv cv lv rv av kv tv dv : Option Value) : Str → Option Value := fun y =>
  if y = Str.ofString "due" then dv else if y = Str.ofString "told" then tv else if y = Str.ofString "caps" then kv else l2M sl st dk ov wv mv cv lv rv av y
inductive LwC (w : World) (g : Heap) (L : Addr) (s : Shared) (l : Strs) (st : Addr) (m : Addr → Str → Option Value) (s' : Shared) : Prop
  | intro (h : _) (tk : _) (c : _) (kd : _) (K : _) (W : _) : s' = ⟨h, s.gens, s.drawn, tk, s.os⟩ → Fr g L h (m c) → News g L h (K ++ W) → Kept w l kd K → CapsW w l c kd st W → (∀ p ∈ W, p.1 ∉ K.map (·.1)) → LwC w g L s l st m s'
inductive LwD (g : Heap) (L : Addr) (s : Shared) (r : Option (List UInt8 × Int)) (m : Value → Value → Str → Option Value) (s' : Shared) : Prop
  | intro (h : _) (tk : _) (v1 : _) (v2 : _) (W1 : _) (W2 : _) : s' = ⟨h, s.gens, s.drawn, tk, s.os⟩ → Fr g L h (m v1 v2) → News g L h (W2 ++ W1) → Told r v1 W1 → Told r v2 W2 → LwD g L s r m s'
inductive LwE (g : Heap) (L : Addr) (s : Shared) (m : Value → Value → Str → Option Value) (s' : Shared) : Prop
  | intro (h : _) (tk : _) (v1 : _) (v2 : _) : s' = ⟨h, s.gens, s.drawn, tk, s.os⟩ → Fr g L h (m v1 v2) → News g L h [] → LwE g L s m s'
local macro_rules | `(tactic| walk_at "eval Dict nil nil") => `(tactic| k_extra "m:eval Dict nil nil")
set_option rowWalk.seconds 100 in
theorem law_call (w : World) (sl : Addr) (vs0 : List Value) (ns0 : List Int) (hi : IntsAre vs0 ns0) (hz : ns0.length ≤ 63) {dp un : Nat} {gd : Option (List Code)} {mean : ExcName → Option Value} {mg mb : Str → Option Value} {s : Shared} {Q : Value → Shared → Prop}
    (hl : s.heap.IsList sl vs0.toArray) (X : (hd.heap_1 w.params).In s.heap) (T : TopM mean mg mb s.heap) (hd : dp + 600 < recursionLimit) (hu : un + 2000 < cLine)
    (hret : ∀ h' tk', Ext [] s.heap h' → Q (.bool true) { s with heap := h', toks := tk' }) :
    wG w { handled := none, depth := dp, frames := some [], guards := gd, units := un } (call (.ref 569) [.ref sl]) Q s := by
  refine' enter_T (binds := [(Str.ofString "script", .ref sl)]) X T ?room ?ho ?hcd ?hbind ?hloc ?_ ?c2 ?c3 ?c4 ?c5
  (case room => omega)
  (case ho => k_is); (case hcd => k_is); (case hbind => exact BindsTo.of_eq rfl); (case hloc => exact locs rfl)
  (case c2 => exact rfl); (case c3 => exact rfl); (case c4 => exact rfl); (case c5 => decide)
  k_whole
  intro L' h' F' N' B'
  (try dsimp only)
  k_with "nocons" => (with_reducible show wG _ _ (execs (Stmt.Assign [Expr.Name (Str.ofString "made") _] _ _ :: _) _) _ _)
  k_steps
  (rename Obj.IsDictOf (strKind _ _) _ _ => hE)
  rename_i st h4 o4 lo4 fs4 hi4 fi4 l4 tp h3 l3 h2 h1 h0 F0 N0
  k_with "m:eval Dict nil nil" => (k_here; k_dflt (refine' newDict_K ?zzk1 ?zzk2 ?zzk3 ?_; (case zzk1 => k_asm); (case zzk2 => k_asm); (case zzk3 => exact top_big (by with_reducible assumption)); k_whole); intro d' h' o' F' N' l1 lo' hs' fs' hi' fi'; (try k_lt l1); (try k_sweep))
  have F1 : Fr s.heap L' h0 (lwM sl none none none st dk') := frCongr F0 lwM0
  have N1 : News s.heap L' h0 [(dk', o'), (cl', listOf ws'.toArray n'), (st, o4)] := fun p hp => N0 p (by
      rcases List.mem_cons.mp hp with rfl | hp
      · exact .tail _ (.tail _ (.head _))
      · rcases List.mem_cons.mp hp with rfl | hp
        · exact .tail _ (.tail _ (.tail _ (.head _)))
        · rw [List.mem_singleton.mp hp]; exact .tail _ (.head _))
  with_reducible refine wG_cut (LawI w s.heap L' s (lwM sl none none none st dk') 0 dk' cl' st []) ?_ ?_
  · exact ⟨h0, _, o', ws', n', ns', o4, [], rfl, F1, N1, hD', hI', hz', empty_any hE, .nil⟩
  clear F1 N1
  have ne1 : @Ne Nat st dk' := Nat.ne_of_gt l4.1
  have ne2 : @Ne Nat st cl' := Nat.ne_of_gt l4.2.1
  clear N0 F0 hD' hI' hz' hE fs4 hi4 fi4 l3 l4 lt'
  rintro s1 ⟨h1, tk1, od, ws, n, ns, o0, kvs, rfl, F1, N1, hD, hI, hz1, hd0, hkv⟩
  k_with "nocons" => (with_reducible show wG _ _ (execs (Stmt.For _ _ _ _ _ :: _) _) _ _)
  with_reducible refine gx_cons (gx_any ?_)
  k_steps
  (rename Fr _ _ _ _ => F2; rename News _ _ _ _ => N2)
  with_reducible refine wG_cut (LmI w s.heap L' s sl dk' cl' st) ?_ ?_
  · refine ⟨_, _, _, [_, _, _, _, _, _, _, _, _], 0, [_, _, _, _, _, _, _, _, _], _, _, rfl, frCongr' F2 (m' := lwM sl none none (some (.ref _)) st dk') ?_, made_led N2, ⟨od, ws, n, ns, o0, kvs, [], none, none, rfl, hD, hI, hz1, hd0, hkv, List.Sublist.slnil, fun _ => rfl⟩, ?_, ?_, ⟨by omega, by omega, by omega⟩, rfl⟩
    · walk_at "end lw"
    · repeat (first | exact .nil | refine .cons _ _ _ _ (by k_mem) ?_)
    · intro p hp
      simp only [List.mem_cons, List.not_mem_nil, or_false] at hp
      rcases hp with h | h | h | h | h | h | h | h | h <;> rw [h]
  clear F2 N2
  rintro s2 ⟨h2, tk2, ml, vs, nl, W, m', nn, rfl, F2, N2, J0, AM, hW, ⟨nm1, nm2, nm3⟩, rfl⟩
  with_reducible refine gx_cons ?_
  k_steps
  with_reducible refine' iter_listP (vs := vs) (n := nl) rfl (LmJ w sl dk' cl' st ml vs nl W) F2 N2 J0 ?_ (fun i m' n' J => J.cls hW) ?_ ?_ ?_
  · rintro i m' n' ⟨od, ws, k, ns, o0, kvs, sel, ov, wv, rfl, -⟩; exact .tail _ (.tail _ (.tail _ (.head _)))
  · rintro it ito i v m' nn h tk hv ⟨od, ws, k, ns, o0, kvs, sel, ov, wv, rfl, hD, hI, hz1, hd0, hkv, hsel, hm⟩ hit F1 N1
    obtain ⟨a, kw, b, t, u, rfl, hmW, hmi⟩ := AM.get hv
    have hi9 : i < 9 := (List.getElem?_eq_some_iff.mp hmi).1
    have q1 := offT hW N1 (List.Mem.tail _ (List.Mem.head _)) (fun p hp => .tail _ (.tail _ (.tail _ (.tail _ (.tail _ hp))))) (deck_tup hD)
    have q2 := offT hW N1 (List.Mem.tail _ (List.Mem.tail _ (List.Mem.head _))) (fun p hp => .tail _ (.tail _ (.tail _ (.tail _ (.tail _ hp))))) (show Value.type "list" ≠ Value.type "tuple" by decide)
    have q3 := offT hW N1 (List.Mem.tail _ (List.Mem.tail _ (List.Mem.tail _ (List.Mem.head _)))) (fun p hp => .tail _ (.tail _ (.tail _ (.tail _ (.tail _ hp))))) (dict_cls hd0)
    have r1 : Off it dk' := it_off N1 hit (List.Mem.head _) (deck_it hD)
    have r2 : Off it cl' := it_off N1 hit (List.Mem.tail _ (List.Mem.head _)) rfl
    have r3 : Off it st := it_off N1 hit (List.Mem.tail _ (List.Mem.tail _ (List.Mem.head _))) (it_dict hd0)
    have a1 : Off a dk' := q1 _ hmW
    have a2 : Off a cl' := q2 _ hmW
    have a3 : Off a st := q3 _ hmW
    have hkl : kvs.length ≤ 1000 := by
      have h1 := hsel.length_le
      rw [hkv.len]
      simp only [List.length_take] at h1
      omega
    have hfresh : ∀ p ∈ kvs, p.1 ≠ kw := fun p hp => by
      have h1 : p.1 ∈ sel.map (·.1) := by rw [← hkv.keys]; exact List.mem_map_of_mem hp
      obtain ⟨q, hq, e⟩ := List.mem_map.mp h1
      have := made_keys ⟨i, hi9⟩ q (hsel.subset hq)
      rw [e] at this
      have e2 : (madeL[i]'hi9) = (kw, b) := (List.getElem?_eq_some_iff.mp hmi).2
      simpa [e2] using this
    have htake : madeL.take (i + 1) = madeL.take i ++ [(kw, b)] := by rw [List.take_add_one, hmi]; rfl
    replace F1 := frCongr F1 hm
    have N3 : News s.heap L' h ((a, tupOf [.bytes kw.toArray t, .bytes b.toArray u]) :: (it, ito) :: (dk', od) :: (cl', listOf ws.toArray k) :: (st, o0) :: (ml, listOf vs.toArray nl) :: W) := fun p hp => by
      rcases List.mem_cons.mp hp with rfl | hp
      · exact N1 _ (.tail _ (.tail _ (.tail _ (.tail _ (.tail _ hmW)))))
      · exact N1 p hp
    clear N1 hm F2 N2 hv hmi hmW J0
    k_steps
    all_goals (rename Fr _ _ _ _ => F5; rename News _ _ _ _ => N6)
    · exact EndL.intro _ _ _ _ rfl F5 (fun p hp => N6 p (.tail _ hp)) ⟨_, _, _, _, _, _, sel ++ [(kw, b)], _, _, rfl, hD', hI', hz', hd', (by rw [stored_new hfresh]; exact hkv.snoc), (by rw [htake]; exact hsel.append (List.Sublist.refl _)), (by walk_at "end lw")⟩
    · exact EndL.intro _ _ _ _ rfl F5 (fun p hp => N6 p (.tail _ hp)) ⟨_, _, _, _, _, kvs, sel, _, _, rfl, hD', hI', hz', hd0, hkv, (by rw [htake]; exact hsel.trans (List.sublist_append_left _ _)), (by walk_at "end lw")⟩
  · rintro m' nn h tk ⟨od, ws, k, ns, o0, kvs, sel, ov, wv, rfl, hD, hI, hz1, hd0, hkv, hsel, hm⟩ F1 N1
    rw [AM.len] at hD hsel
    have hkl0 : kvs.length ≤ 1000 := by
      have h1 := hsel.length_le
      rw [hkv.len]
      simp only [List.length_take] at h1
      have h2 : madeL.length = 9 := rfl
      omega
    have hD9 : DeckIs w od cl' 9 := hD
    have hG : ∀ p ∈ sel, p ∈ madeL := fun p hp => List.take_subset _ _ (hsel.subset hp)
    replace F1 := frCongr F1 hm
    have N3 : News s.heap L' h [(dk', od), (cl', listOf ws.toArray k), (st, o0)] := fun p hp => N1 p (by
      simp only [List.mem_cons, List.not_mem_nil, or_false] at hp ⊢
      rcases hp with h | h | h <;> simp [h])
    clear N1 hm F2 N2 J0 AM hW hD hsel
    k_with "nocons" => (with_reducible show wG _ _ (execs (Stmt.Assign [Expr.Name (Str.ofString "left") _] _ _ :: _) _) _ _)
    k_with "nocons" => (with_reducible show wG _ _ (execs (Stmt.Assign [Expr.Name (Str.ofString "right") _] _ _ :: _) _) _ _)
    k_with "nocons" => (with_reducible show wG _ _ (execs (Stmt.Assign [Expr.Name (Str.ofString "at") _] _ _ :: _) _) _ _)
    k_with "nocons" => (with_reducible show wG _ _ (execs (Stmt.Assign [Expr.Name (Str.ofString "caps") _] _ _ :: _) _) _ _)
    have ce1 : Off cl' dk' := fun q => hne' q.symm
    have se1 : Off st dk' := ne1
    have se2 : Off st cl' := ne2
    k_steps
    (rename Fr _ _ _ _ => F5; rename News _ _ _ _ => N6)
    with_reducible refine wG_cut (LwN w s.heap L' s (fun cn => 5 ≤ cn ∧ cn < 91) (fun v => l2M sl st dk' ov wv (some (.ref ml)) (some v) none none none) 10 dk' cl' st o0) ?_ ?_
    · exact ⟨5 + r', _, (show 5 ≤ 5 + r' ∧ 5 + r' < 91 from ⟨by omega, by omega⟩), _, _, _, _, _, _, rfl, frCongr' F5 (by walk_at "end l2"), N6, hD', hI', hz'⟩
    clear F5 N6 hD' hI' hz' r0' r1' hD9 hI hz1
    rintro s3 ⟨cn, tc, ⟨c1, c2⟩, h3, tk3, od, ws, n, ns, rfl, F1, N3, hD, hI, hz1⟩
    with_reducible refine wG_joinN (LwN w s.heap L' s (fun left => 0 ≤ left ∧ left < cn) (fun v => l2M sl st dk' ov wv (some (.ref ml)) (some (.int cn tc)) (some v) none none) 12 dk' cl' st o0) ?_ ?_
    · with_reducible refine gx_any ?_
      k_steps
      obtain ⟨z, tz, rfl, hzz⟩ := two_get rfl hv'
      (rename Fr _ _ _ _ => F5; rename News _ _ _ _ => N6)
      exact ⟨rfl, z, tz, (by first | omega | (dsimp only; omega)), _, _, _, _, _, _, rfl, frCongr' F5 (by walk_at "end l2"), (fun p hp => N6 p (.tail _ hp)), hD', hI', hz'⟩
    clear F1 N3 hD hI hz1
    rintro s4 ⟨left, tl, ⟨d1, d2⟩, h4, tk4, od, ws, n, ns, rfl, F1, N3, hD, hI, hz1⟩
    with_reducible refine wG_joinN (LwN w s.heap L' s (fun right => left ≤ right ∧ right < cn) (fun v => l2M sl st dk' ov wv (some (.ref ml)) (some (.int cn tc)) (some (.int left tl)) (some v) none) 14 dk' cl' st o0) ?_ ?_
    · with_reducible refine gx_any ?_
      k_steps
      obtain ⟨z, tz, rfl, hzz⟩ := two_get rfl hv'
      (rename Fr _ _ _ _ => F5; rename News _ _ _ _ => N6)
      exact ⟨rfl, z, tz, (by first | omega | (dsimp only; omega)), _, _, _, _, _, _, rfl, frCongr' F5 (by walk_at "end l2"), (fun p hp => N6 p (.tail _ hp)), hD', hI', hz'⟩
    clear F1 N3 hD hI hz1
    rintro s5 ⟨right, tr, ⟨d3, d4⟩, h5, tk5, od, ws, n, ns, rfl, F1, N3, hD, hI, hz1⟩
    with_reducible refine wG_joinN (LwO w s.heap L' s (fun at' => ∀ a, at' = some a → 0 ≤ a ∧ a < 98) (fun v => l2M sl st dk' ov wv (some (.ref ml)) (some (.int cn tc)) (some (.int left tl)) (some (.int right tr)) (some v)) 16 dk' cl' st o0) ?_ ?_
    · with_reducible refine gx_any ?_
      k_steps
      obtain ⟨at', ta, rfl, hzz⟩ := six_get hv'
      (rename Fr _ _ _ _ => F5; rename News _ _ _ _ => N6)
      exact ⟨rfl, at', ta, (fun a ha => by have := hzz a ha; omega), _, _, _, _, _, _, rfl, frCongr' F5 (by walk_at "end l2"), (fun p hp => N6 p (.tail _ hp)), hD', hI', hz'⟩
    clear F1 N3 hD hI hz1
    rintro s6 ⟨at', ta, hat, h6, tk6, od, ws, n, ns, rfl, F1, N3, hD, hI, hz1⟩
    have hkl : kvs.length ≤ 1000 := hkl0
    k_with "nocons" => (with_reducible show wG _ _ (execs (Stmt.Assign [Expr.Tuple _ _ _] _ _ :: _) _) _ _)
    k_with "nocons" => (with_reducible show wG _ _ (execs (Stmt.If _ _ _ _ :: _) _) _ _)
    with_reducible refine wG_joinN (LwC w s.heap L' s (strsOf sel) st fun c => l3M sl st dk' ov wv (some (.ref ml)) (some (.int cn tc)) (some (.int left tl)) (some (.int right tr)) (some (oI at' ta)) (some (.ref c)) none none) ?_ ?_
    · k_steps
      (rename Fr _ _ _ _ => F5; rename News _ _ _ _ => N6)
      exact ⟨rfl, _, _, _, _, _, _, rfl, frCongr' F5 (by walk_at "end l3"), N6, hK', hC', hT'⟩
    clear F1 N3 hD hI hz1 hkv hd0
    rintro s7 ⟨h7, tk7, c, kd, K7, W7, rfl, F1, N3, hK, hC, hT⟩
    with_reducible refine wG_joinN (LwD s.heap L' s (eraseF (strsOf sel) left right cn at') fun v1 v2 => l3M sl st dk' ov wv (some (.ref ml)) (some (.int cn tc)) (some (.int left tl)) (some (.int right tr)) (some (oI at' ta)) (some (.ref c)) (some v1) (some v2)) ?_ ?_
    · k_steps
      (rename Fr _ _ _ _ => F5; rename News _ _ _ _ => N6)
      exact ⟨rfl, _, _, _, _, _, _, rfl, frCongr' F5 (by walk_at "end l3"), fun p hp => N6 p (.tail _ hp), tl0, by rw [← erase_due (good_sel hG)]; exact hU'⟩
    clear F1 N3 hK hC hT
    rintro s8 ⟨h8, tk8, v1, v2, W1, W2, rfl, F1, N3, hV, hU⟩
    with_reducible refine wG_joinN (LwE s.heap L' s fun v1 v2 => l3M sl st dk' ov wv (some (.ref ml)) (some (.int cn tc)) (some (.int left tl)) (some (.int right tr)) (some (oI at' ta)) (some (.ref c)) (some v1) (some v2)) ?_ ?_
    · generalize eraseF (strsOf sel) left right cn at' = r at hV hU
      cases hV
      · cases hU
        k_steps
        exact ⟨rfl, _, _, _, _, rfl, F1, N3⟩
      · cases hU
        k_steps
        (rename Fr _ _ _ _ => F5; rename News _ _ _ _ => N6)
        exact ⟨rfl, _, _, _, _, rfl, F5, fun p hp => nomatch hp⟩
    clear F1 N3 hV hU
    rintro s9 ⟨h9, tk9, v1, v2, rfl, F1, N3⟩
    k_steps
    (rename Told _ _ _ => tl9)
    replace tl9 := told_eq other_erase tl9
    cases tl9
    k_steps
    (rename Told _ _ _ => tl8)
    replace tl8 := told_eq bare_erase tl8
    cases tl8
    k_steps
    (rename Fr _ _ _ _ => F5)
    exact hret _ _ fun b o e _ => F5.keep _ _ e
  · intro it i v s' Q hit q
    exact own_list hit q

/-! PQEnd -/
theorem caller_of_wG {w : World} {t : Sem Value} {Q : Value → Shared → Prop} {s : Shared} (h : wG w callerA t Q s) : AtCaller pw w t Q s := fun x => h _ x caller_in rfl fun _ q => nomatch q
theorem fillEnd : (PySem.Challenge.rw_pq1189_01, hd.heap_1) = (PySem.Challenge.rw_pq1189_01, hd.heap_1) := by
  k_fill
  rfl
theorem law_post (args ds : List WData) : (PySem.Challenge.rw_pq1189_01).row.toRowW.claim.post args (.bool true) ds = true := by
  show (WShape.has [] (.bool true) .bool && WTm.holds [] (.eq .res (.lit (.bool true))) { args := args, res := some (.bool true), after := ds }) = true
  rw [Bool.and_eq_true]
  refine ⟨by first | rfl | wrow_shape, ?_⟩
  unfold WTm.holds
  simp [WTm.value, same_self]
theorem law_ends : WalkP lawView looseNames (XL lawView []) (fun w h => (hd.heap_1 w.params).In h) (PySem.Challenge.rw_pq1189_01).row.toRowW := by
  intro w s₀ s₁ mg mb G Y f hmg hg args vals as hpre hlay hrd hwl hlo
  refine Ground.open G ?_
  intro T B D TE TW
  wrow_args hpre hlay hrd hwl hlo
  rename_i ns _ _ _ _ _ _ _ sl vs _ hL _ _ _ hI _ hcond _
  have e : mg (Str.ofString "law") = some (.ref 569) := mg_of Y T.g (by k_is)
  obtain rfl : f = .ref 569 := Option.some.inj (hmg.symm.trans e)
  refine caller_of_wG (law_call w sl vs ns hI (by omega) (dp := 1 + claimMargin) (un := 4) (gd := some []) (mean := ExcName.means s₀.heap) (mg := mg) (mb := mb) hL Y T (by decide) (by decide) fun h' tk' hx => ?_)
  refine ⟨.inl ⟨.bool true, .bool true, [], rfl, fun cls => ?_, .bool _, law_post _ _, fun _ => ⟨List.nodup_nil, fun _ q => nomatch q⟩⟩, .of_keep fun b o q => hx b o q List.not_mem_nil, rfl, .of_eq hg⟩
  rfl


end Mine
theorem PySem.Challenge.cw_pq1189_01_holds : PySem.Challenge.rw_pq1189_01.Holds :=
  Mine.hd Mine.law_ends
