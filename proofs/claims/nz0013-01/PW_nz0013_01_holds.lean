import PyProof.Rows.All
import Wide.All
import OpenK.AllK
import Wide.FinOn
import Lean
import PySem.Challenge.RW_nz0013_01
open PySem PySem.W PyProof.Rows PySem.Spec PySem.Calls
set_option Elab.async false
set_option maxRecDepth 100000
set_option maxHeartbeats 80000000
set_option rowWalk.seconds 0
set_option compiler.extract_closed false
set_option linter.all false
namespace Mine
/-- the text without the four statements that name a file -/
def isName : Stmt → Bool
  | .Assign [.Name _ _] (.Constant _ _ _) _ => true
  | _ => false
noncomputable def view : Program := { PySem.Challenge.rw_nz0013_01.row.prog with main := { PySem.Challenge.rw_nz0013_01.row.prog.main with body := PySem.Challenge.rw_nz0013_01.row.prog.main.body.filter fun s => !isName s } }
local macro_rules | `(tactic| o_head $H) => `(tactic| (refine holds_open (q := Mine.view) (loose := [Str.ofString "has_domains"]) (Xt := fun s => xlAt Mine.view [] s && recOk (RowW.records (OpenRow.toRowW PySem.Challenge.rw_nz0013_01.row)) s) (XP := XL Mine.view []) (Yf := Hook.obs $H) (Ya := Hook.val $H) (YP := Hook.says $H) (N := 3250) ?hl (Hook.of $H) (Hook.keeps $H) (fun s e => xl_of s (Bool.and_eq_true_iff.mp e).1) XL.keeps (by rfl) (by rfl) (by rfl) (fun s e => recFacts_of (Bool.and_eq_true_iff.mp e).2) (by rfl) (by first | assumption | decide +kernel) (by decide +kernel) ⟨rfl, rfl, rfl, rfl, rfl, by decide +kernel⟩ ?hw ?hc; (case hl => (intro w; kernel_rfl))))
open_top hd for PySem.Challenge.rw_nz0013_01
noncomputable abbrev PP : Program := PySem.Challenge.rw_nz0013_01.row.prog
noncomputable abbrev KK (w : World) : Frag := hd.heap_39 w.params
abbrev Led := List (Addr × Obj)
/-- the ledger l is the entry (d, o) and r, in some sequence; no other entry lies at d -/
inductive Pull (d : Addr) (o : Obj) : Led → Led → Prop
  | head {r} : (∀ p ∈ r, p.1 ≠ d) → Pull d o ((d, o) :: r) r
  | tail {p r r'} : p.1 ≠ d → Pull d o r r' → Pull d o (p :: r) (p :: r')
theorem Pull.sub {d : Addr} {o : Obj} {l r : Led} (h : Pull d o l r) : ∀ p ∈ (d, o) :: r, p ∈ l := by
  induction h with
  | head _ => exact fun _ h => h
  | tail _ _ ih =>
    intro q hq
    rcases List.mem_cons.mp hq with rfl | hq
    · exact .tail _ (ih _ (.head _))
    · rcases List.mem_cons.mp hq with rfl | hq
      · exact .head _
      · exact .tail _ (ih _ (.tail _ hq))
theorem Pull.off {d : Addr} {o : Obj} {l r : Led} (h : Pull d o l r) : ∀ p ∈ r, p.1 ≠ d := by
  induction h with
  | head h => exact h
  | tail h _ ih =>
    intro q hq
    rcases List.mem_cons.mp hq with rfl | hq
    · exact h
    · exact ih _ hq
theorem Pull.news {d : Addr} {o : Obj} {l r : Led} {h₀ h : Heap} {L : Addr} (P : Pull d o l r) (N : News h₀ L h l) : News h₀ L h ((d, o) :: r) := fun p hp => N p (P.sub p hp)
theorem Pull.mem {d : Addr} {o : Obj} {l r : Led} (h : Pull d o l r) : (d, o) ∈ l := h.sub _ (.head _)
/-- an entry taken out, with no word on the others -/
inductive Take (d : Addr) (o : Obj) : Led → Led → Prop
  | head {r} : Take d o ((d, o) :: r) r
  | tail {p r r'} : Take d o r r' → Take d o (p :: r) (p :: r')
theorem Take.sub {d : Addr} {o : Obj} {l r : Led} (h : Take d o l r) : ∀ p ∈ (d, o) :: r, p ∈ l := by
  induction h with
  | head => exact fun _ h => h
  | tail _ ih =>
    intro q hq
    rcases List.mem_cons.mp hq with rfl | hq
    · exact .tail _ (ih _ (.head _))
    · rcases List.mem_cons.mp hq with rfl | hq
      · exact .head _
      · exact .tail _ (ih _ (.tail _ hq))
theorem Take.news {d : Addr} {o : Obj} {l r : Led} {h₀ h : Heap} {L : Addr} (P : Take d o l r) (N : News h₀ L h l) : News h₀ L h ((d, o) :: r) := fun p hp => N p (P.sub p hp)
/-- the ledger l, parted: r is what is frozen (the tail r0 and made tuples before it), g x is the rest of it before x -/
inductive TailIs : Led → Led → Led → (Led → Led) → Prop
  | nil {r} : TailIs r r r (fun x => x)
  | cons {p l r0 r g} : TailIs l r0 r g → TailIs (p :: l) r0 r (fun x => p :: g x)
  | move {p l r0 r g} : TailIs l r0 r g → TailIs (p :: l) r0 (p :: r) g
  | rebase {l r0 r g} : TailIs l r0 r g → TailIs l r r g
theorem TailIs.moveT {a : Addr} {vs : Array Value} {n : Nat} {l r0 r : Led} {g : Led → Led} (h : TailIs l r0 r g) : TailIs ((a, ({ cls := .type "tuple", data := .seq vs n } : Obj)) :: l) r0 ((a, ({ cls := .type "tuple", data := .seq vs n } : Obj)) :: r) g := .move h
theorem TailIs.base {l r0 r : Led} {g : Led → Led} (h : TailIs l r0 r g) : ∀ p ∈ r0, p ∈ r := by
  induction h with
  | nil => exact fun _ h => h
  | cons _ ih => exact ih
  | move _ ih => exact fun p hp => .tail _ (ih p hp)
  | rebase _ _ => exact fun _ h => h
theorem TailIs.sub {l r0 r : Led} {g : Led → Led} (h : TailIs l r0 r g) : ∀ p ∈ r, p ∈ l := by
  induction h with
  | nil => exact fun _ h => h
  | cons _ ih => exact fun p hp => .tail _ (ih p hp)
  | move _ ih =>
    intro p hp
    rcases List.mem_cons.mp hp with e | hp
    · rw [e]; exact .head _
    · exact .tail _ (ih p hp)
  | rebase _ ih => exact ih
theorem TailIs.split {l r0 r : Led} {g : Led → Led} (h : TailIs l r0 r g) : ∃ ex : Led, (∀ x, g x = ex ++ x) ∧ ∀ p ∈ ex, p ∈ l := by
  induction h with
  | nil => exact ⟨[], fun _ => rfl, fun _ h => absurd h List.not_mem_nil⟩
  | @cons p l r0 r g _ ih =>
    obtain ⟨ex, e, he⟩ := ih
    refine ⟨p :: ex, fun x => by show p :: g x = _; rw [e]; rfl, fun q hq => ?_⟩
    rcases List.mem_cons.mp hq with e | hq
    · rw [e]; exact .head _
    · exact .tail _ (he q hq)
  | move _ ih => obtain ⟨ex, e, he⟩ := ih; exact ⟨ex, e, fun q hq => .tail _ (he q hq)⟩
  | rebase _ ih => exact ih
theorem tailIs_app {ex x : Led} : TailIs (ex ++ x) x x (fun y => ex ++ y) := by
  induction ex with
  | nil => exact .nil
  | cons p ex ih => exact .cons ih
theorem TailIs.at {l r0 r : Led} {g : Led → Led} (h : TailIs l r0 r g) (x : Led) : TailIs (g x) x x g := by
  obtain ⟨ex, e, _⟩ := h.split
  have h1 : g = fun y => ex ++ y := funext e
  rw [h1]
  exact tailIs_app
/-- what a call may do to the frozen part: it grows by what was not there -/
structure Grow (news r0 rest rest' : Led) : Prop where
  base : ∀ p ∈ r0, p ∈ rest'
  sub : ∀ p ∈ rest, p ∈ rest'
  off : ∀ d, (∃ o, (d, o) ∈ news) → (∀ p ∈ rest, p.1 ≠ d) → ∀ p ∈ rest', p.1 ≠ d
abbrev Grow.R {news r0 rest rest' : Led} (_ : Grow news r0 rest rest') : Led := r0
theorem Grow.refl {news r0 rest : Led} (h : ∀ p ∈ r0, p ∈ rest) : Grow news r0 rest rest := ⟨h, fun _ h => h, fun _ _ h => h⟩
theorem TailIs.coverAt {l r0 r : Led} {g : Led → Led} (h : TailIs l r0 r g) {x : Led} (hx : ∀ p ∈ r, p ∈ x) : ∀ q ∈ l, q ∈ g x := by
  induction h generalizing x with
  | nil => exact hx
  | cons _ ih =>
    intro q hq
    rcases List.mem_cons.mp hq with e | hq
    · rw [e]; exact .head _
    · exact .tail _ (ih hx q hq)
  | @move p l r0 r g h' ih =>
    obtain ⟨ex, e, _⟩ := h'.split
    intro q hq
    rcases List.mem_cons.mp hq with e' | hq
    · rw [e, e']; exact List.mem_append.mpr (.inr (hx _ (.head _)))
    · exact ih (fun p hp => hx p (.tail _ hp)) q hq
  | rebase _ ih => exact ih hx
/-- how the frozen part has grown since the def was entered -/
structure Run (news rest r : Led) : Prop where
  sub : ∀ p ∈ rest, p ∈ r
  off : ∀ q ∈ news, (∀ p ∈ rest, p.1 ≠ q.1) → ∀ p ∈ r, p.1 ≠ q.1
theorem Run.refl {news rest : Led} : Run news rest rest := ⟨fun _ h => h, fun _ _ h => h⟩
theorem Run.step {news rest r n imm r' : Led} (R : Run news rest r) (G : Grow n r imm r') (c : ∀ q ∈ news, ∃ o, (q.1, o) ∈ n) (t : ∀ q ∈ news, (∀ p ∈ r, p.1 ≠ q.1) → ∀ p ∈ imm, p.1 ≠ q.1) : Run news rest r' :=
  ⟨fun p hp => G.base p (R.sub p hp), fun q hq ho => G.off _ (c q hq) (t q hq (R.off q hq ho))⟩
theorem Run.grow {news r0 rest r : Led} (hb : ∀ p ∈ r0, p ∈ rest) (R : Run news rest r) : Grow news r0 rest r :=
  ⟨fun p hp => R.sub p (hb p hp), R.sub, fun d ⟨o, hd⟩ ho => R.off (d, o) hd ho⟩
theorem Run.ext {news rest r imm : Led} (R : Run news rest r) (b : ∀ p ∈ r, p ∈ imm) (t : ∀ q ∈ news, (∀ p ∈ r, p.1 ≠ q.1) → ∀ p ∈ imm, p.1 ≠ q.1) : Run news rest imm :=
  ⟨fun p hp => b p (R.sub p hp), fun q hq ho => t q hq (R.off q hq ho)⟩
theorem TailIs.all {l r0 r : Led} {g : Led → Led} (h : TailIs l r0 r g) : ∀ p ∈ g r, p ∈ l := by
  obtain ⟨ex, e, he⟩ := h.split
  intro p hp
  rw [e] at hp
  exact (List.mem_append.mp hp).elim (he p) (h.sub p)
theorem TailIs.news {l r0 r : Led} {g : Led → Led} {h₀ h : Heap} {L : Addr} (T : TailIs l r0 r g) (N : News h₀ L h l) : News h₀ L h (g r) := fun p hp => N p (T.all p hp)
theorem tmp_ne {l news : Led} {T : Addr} (hL : ∀ p ∈ l, p.1 < T) (c : ∀ q ∈ news, ∃ o, (q.1, o) ∈ l) : ∀ q ∈ news, T ≠ q.1 := fun q hq e => by
  obtain ⟨o, ho⟩ := c q hq
  have := hL _ ho
  rw [e] at this
  exact absurd this (Nat.lt_irrefl _)
/-- a call of the def at f with the ledger news: what it hands back and the ledger behind it -/
abbrev Call (w : World) (n : Nat) (f : Addr) (vs : List Value) (news : Led) (post : Value → Led → Prop) : Prop :=
  ∀ (p : Program) (loose : List Str) (mean : ExcName → Option Value) (mg mb : Str → Option Value) (dp un : Nat) (gd : Option (List Code)) (cn : Str) (cs : Scope) (a : Addr) (ccd : Value) (cl : List (Str × Addr)) (outer : List Env)
    (A₀ : Around) (base h₀ : Heap) (L : Addr) (m : Str → Option Value) (s : Shared) (Q E : Value → Shared → Prop),
    Below A₀ base outer h₀ → Fr h₀ L s.heap m → (hd.heap_39 w.params).In h₀ → Top p loose mean mg mb h₀ → cs.kind = .function → dp + n < recursionLimit → un + 10 * n + 100 < cLine → News h₀ L s.heap news →
    (∀ r news' h' tk', Fr h₀ L h' m → News h₀ L h' news' → post r news' → Q r { s with heap := h', toks := tk' }) →
    wpAny (model PySem.Challenge.rw_nz0013_01.row.prog w) (ktrTop dp un gd cn cs L a ccd cl outer) (call (.ref f) vs) Q E s
theorem Call.use {w : World} {n : Nat} {f : Addr} {vs : List Value} {news : Led} {post : Value → Led → Prop} {p : Program} {loose : List Str} {mean : ExcName → Option Value} {mg mb : Str → Option Value} {dp un : Nat} {gd : Option (List Code)} {cn : Str} {cs : Scope} {a : Addr} {ccd : Value} {cl : List (Str × Addr)} {outer : List Env}
    {A₀ : Around} {base h₀ : Heap} {L : Addr} {m : Str → Option Value} {s : Shared} {Q E : Value → Shared → Prop} (c : Call w n f vs news post)
    (B : Below A₀ base outer h₀) (F : Fr h₀ L s.heap m) (X : (hd.heap_39 w.params).In h₀) (T : Top p loose mean mg mb h₀) (hk : cs.kind = .function) (hd : dp + n < recursionLimit) (hu : un + 10 * n + 100 < cLine) (N : News h₀ L s.heap news)
    (ret : ∀ r news' h' tk', Fr h₀ L h' m → News h₀ L h' news' → post r news' → Q r { s with heap := h', toks := tk' }) :
    wpAny (model PySem.Challenge.rw_nz0013_01.row.prog w) (ktrTop dp un gd cn cs L a ccd cl outer) (call (.ref f) vs) Q E s :=
  c p loose mean mg mb dp un gd cn cs a ccd cl outer A₀ base h₀ L m s Q E B F X T hk hd hu N ret
/-- the same, what comes back handed on word by word: no case is split where the contract is used -/
theorem Call.cps {w : World} {n : Nat} {f : Addr} {vs : List Value} {news : Led} {post : Value → Led → Prop} {T : (Value → Led → Prop) → Prop} {p : Program} {loose : List Str} {mean : ExcName → Option Value} {mg mb : Str → Option Value} {dp un : Nat} {gd : Option (List Code)} {cn : Str} {cs : Scope} {a : Addr} {ccd : Value} {cl : List (Str × Addr)} {outer : List Env}
    {A₀ : Around} {base h₀ : Heap} {L : Addr} {m : Str → Option Value} {s : Shared} {Q E : Value → Shared → Prop} (c : Call w n f vs news post) (t : ∀ K : Value → Led → Prop, T K → ∀ r nw, post r nw → K r nw)
    (B : Below A₀ base outer h₀) (F : Fr h₀ L s.heap m) (X : (hd.heap_39 w.params).In h₀) (Tp : Top p loose mean mg mb h₀) (hk : cs.kind = .function) (hd : dp + n < recursionLimit) (hu : un + 10 * n + 100 < cLine) (N : News h₀ L s.heap news)
    (ret : ∀ h' tk', Fr h₀ L h' m → T fun r nw => News h₀ L h' nw → Q r { s with heap := h', toks := tk' }) :
    wpAny (model PySem.Challenge.rw_nz0013_01.row.prog w) (ktrTop dp un gd cn cs L a ccd cl outer) (call (.ref f) vs) Q E s :=
  c p loose mean mg mb dp un gd cn cs a ccd cl outer A₀ base h₀ L m s Q E B F X Tp hk hd hu N fun r nw h' tk' F' N' q => t _ (ret h' tk' F') r nw q N'
theorem t_gD {news r0 rest : Led} {g : Led → Led} {D : Addr → Led → Prop} : ∀ K : Value → Led → Prop, (∀ ra rest', Grow news r0 rest rest' → D ra rest' → K (.ref ra) (g rest')) → ∀ r nw, (∃ ra rest', r = .ref ra ∧ nw = g rest' ∧ Grow news r0 rest rest' ∧ D ra rest') → K r nw := by
  rintro K k _ _ ⟨ra, rest', rfl, rfl, G, d⟩; exact k ra rest' G d
theorem t_bool {news : Led} {P : Prop} : ∀ K : Value → Led → Prop, (∀ b : Bool, (b = true ↔ P) → K (.bool b) news) → ∀ r nw, (∃ b, r = .bool b ∧ nw = news ∧ (b = true ↔ P)) → K r nw := by
  rintro K k _ _ ⟨b, rfl, rfl, h⟩; exact k b h
theorem t_val {v : Value} {l : Led → Led} {R : Led → Prop} : ∀ K : Value → Led → Prop, (∀ rest', R rest' → K v (l rest')) → ∀ r nw, (∃ rest', r = v ∧ nw = l rest' ∧ R rest') → K r nw := by
  rintro K k _ _ ⟨rest', rfl, rfl, h⟩; exact k rest' h
theorem in_7_7 {α0 α1 α2 α3 α4 α5 α6 : Type} {P0 P1 P2 P3 P4 P5 P6 : α0 → α1 → α2 → α3 → α4 → α5 → α6 → Prop} (x0 : α0) (x1 : α1) (x2 : α2) (x3 : α3) (x4 : α4) (x5 : α5) (x6 : α6) (h0 : P0 x0 x1 x2 x3 x4 x5 x6) (h1 : P1 x0 x1 x2 x3 x4 x5 x6) (h2 : P2 x0 x1 x2 x3 x4 x5 x6) (h3 : P3 x0 x1 x2 x3 x4 x5 x6) (h4 : P4 x0 x1 x2 x3 x4 x5 x6) (h5 : P5 x0 x1 x2 x3 x4 x5 x6) (h6 : P6 x0 x1 x2 x3 x4 x5 x6) : ∃ x0 x1 x2 x3 x4 x5 x6, P0 x0 x1 x2 x3 x4 x5 x6 ∧ P1 x0 x1 x2 x3 x4 x5 x6 ∧ P2 x0 x1 x2 x3 x4 x5 x6 ∧ P3 x0 x1 x2 x3 x4 x5 x6 ∧ P4 x0 x1 x2 x3 x4 x5 x6 ∧ P5 x0 x1 x2 x3 x4 x5 x6 ∧ P6 x0 x1 x2 x3 x4 x5 x6 := ⟨x0, x1, x2, x3, x4, x5, x6, h0, h1, h2, h3, h4, h5, h6⟩
theorem in_7_8 {α0 α1 α2 α3 α4 α5 α6 : Type} {P0 P1 P2 P3 P4 P5 P6 P7 : α0 → α1 → α2 → α3 → α4 → α5 → α6 → Prop} (x0 : α0) (x1 : α1) (x2 : α2) (x3 : α3) (x4 : α4) (x5 : α5) (x6 : α6) (h0 : P0 x0 x1 x2 x3 x4 x5 x6) (h1 : P1 x0 x1 x2 x3 x4 x5 x6) (h2 : P2 x0 x1 x2 x3 x4 x5 x6) (h3 : P3 x0 x1 x2 x3 x4 x5 x6) (h4 : P4 x0 x1 x2 x3 x4 x5 x6) (h5 : P5 x0 x1 x2 x3 x4 x5 x6) (h6 : P6 x0 x1 x2 x3 x4 x5 x6) (h7 : P7 x0 x1 x2 x3 x4 x5 x6) : ∃ x0 x1 x2 x3 x4 x5 x6, P0 x0 x1 x2 x3 x4 x5 x6 ∧ P1 x0 x1 x2 x3 x4 x5 x6 ∧ P2 x0 x1 x2 x3 x4 x5 x6 ∧ P3 x0 x1 x2 x3 x4 x5 x6 ∧ P4 x0 x1 x2 x3 x4 x5 x6 ∧ P5 x0 x1 x2 x3 x4 x5 x6 ∧ P6 x0 x1 x2 x3 x4 x5 x6 ∧ P7 x0 x1 x2 x3 x4 x5 x6 := ⟨x0, x1, x2, x3, x4, x5, x6, h0, h1, h2, h3, h4, h5, h6, h7⟩
theorem in_8_8 {α0 α1 α2 α3 α4 α5 α6 α7 : Type} {P0 P1 P2 P3 P4 P5 P6 P7 : α0 → α1 → α2 → α3 → α4 → α5 → α6 → α7 → Prop} (x0 : α0) (x1 : α1) (x2 : α2) (x3 : α3) (x4 : α4) (x5 : α5) (x6 : α6) (x7 : α7) (h0 : P0 x0 x1 x2 x3 x4 x5 x6 x7) (h1 : P1 x0 x1 x2 x3 x4 x5 x6 x7) (h2 : P2 x0 x1 x2 x3 x4 x5 x6 x7) (h3 : P3 x0 x1 x2 x3 x4 x5 x6 x7) (h4 : P4 x0 x1 x2 x3 x4 x5 x6 x7) (h5 : P5 x0 x1 x2 x3 x4 x5 x6 x7) (h6 : P6 x0 x1 x2 x3 x4 x5 x6 x7) (h7 : P7 x0 x1 x2 x3 x4 x5 x6 x7) : ∃ x0 x1 x2 x3 x4 x5 x6 x7, P0 x0 x1 x2 x3 x4 x5 x6 x7 ∧ P1 x0 x1 x2 x3 x4 x5 x6 x7 ∧ P2 x0 x1 x2 x3 x4 x5 x6 x7 ∧ P3 x0 x1 x2 x3 x4 x5 x6 x7 ∧ P4 x0 x1 x2 x3 x4 x5 x6 x7 ∧ P5 x0 x1 x2 x3 x4 x5 x6 x7 ∧ P6 x0 x1 x2 x3 x4 x5 x6 x7 ∧ P7 x0 x1 x2 x3 x4 x5 x6 x7 := ⟨x0, x1, x2, x3, x4, x5, x6, x7, h0, h1, h2, h3, h4, h5, h6, h7⟩
theorem in_9_9 {α0 α1 α2 α3 α4 α5 α6 α7 α8 : Type} {P0 P1 P2 P3 P4 P5 P6 P7 P8 : α0 → α1 → α2 → α3 → α4 → α5 → α6 → α7 → α8 → Prop} (x0 : α0) (x1 : α1) (x2 : α2) (x3 : α3) (x4 : α4) (x5 : α5) (x6 : α6) (x7 : α7) (x8 : α8) (h0 : P0 x0 x1 x2 x3 x4 x5 x6 x7 x8) (h1 : P1 x0 x1 x2 x3 x4 x5 x6 x7 x8) (h2 : P2 x0 x1 x2 x3 x4 x5 x6 x7 x8) (h3 : P3 x0 x1 x2 x3 x4 x5 x6 x7 x8) (h4 : P4 x0 x1 x2 x3 x4 x5 x6 x7 x8) (h5 : P5 x0 x1 x2 x3 x4 x5 x6 x7 x8) (h6 : P6 x0 x1 x2 x3 x4 x5 x6 x7 x8) (h7 : P7 x0 x1 x2 x3 x4 x5 x6 x7 x8) (h8 : P8 x0 x1 x2 x3 x4 x5 x6 x7 x8) : ∃ x0 x1 x2 x3 x4 x5 x6 x7 x8, P0 x0 x1 x2 x3 x4 x5 x6 x7 x8 ∧ P1 x0 x1 x2 x3 x4 x5 x6 x7 x8 ∧ P2 x0 x1 x2 x3 x4 x5 x6 x7 x8 ∧ P3 x0 x1 x2 x3 x4 x5 x6 x7 x8 ∧ P4 x0 x1 x2 x3 x4 x5 x6 x7 x8 ∧ P5 x0 x1 x2 x3 x4 x5 x6 x7 x8 ∧ P6 x0 x1 x2 x3 x4 x5 x6 x7 x8 ∧ P7 x0 x1 x2 x3 x4 x5 x6 x7 x8 ∧ P8 x0 x1 x2 x3 x4 x5 x6 x7 x8 := ⟨x0, x1, x2, x3, x4, x5, x6, x7, x8, h0, h1, h2, h3, h4, h5, h6, h7, h8⟩
theorem in_11_11 {α0 α1 α2 α3 α4 α5 α6 α7 α8 α9 α10 : Type} {P0 P1 P2 P3 P4 P5 P6 P7 P8 P9 P10 : α0 → α1 → α2 → α3 → α4 → α5 → α6 → α7 → α8 → α9 → α10 → Prop} (x0 : α0) (x1 : α1) (x2 : α2) (x3 : α3) (x4 : α4) (x5 : α5) (x6 : α6) (x7 : α7) (x8 : α8) (x9 : α9) (x10 : α10) (h0 : P0 x0 x1 x2 x3 x4 x5 x6 x7 x8 x9 x10) (h1 : P1 x0 x1 x2 x3 x4 x5 x6 x7 x8 x9 x10) (h2 : P2 x0 x1 x2 x3 x4 x5 x6 x7 x8 x9 x10) (h3 : P3 x0 x1 x2 x3 x4 x5 x6 x7 x8 x9 x10) (h4 : P4 x0 x1 x2 x3 x4 x5 x6 x7 x8 x9 x10) (h5 : P5 x0 x1 x2 x3 x4 x5 x6 x7 x8 x9 x10) (h6 : P6 x0 x1 x2 x3 x4 x5 x6 x7 x8 x9 x10) (h7 : P7 x0 x1 x2 x3 x4 x5 x6 x7 x8 x9 x10) (h8 : P8 x0 x1 x2 x3 x4 x5 x6 x7 x8 x9 x10) (h9 : P9 x0 x1 x2 x3 x4 x5 x6 x7 x8 x9 x10) (h10 : P10 x0 x1 x2 x3 x4 x5 x6 x7 x8 x9 x10) : ∃ x0 x1 x2 x3 x4 x5 x6 x7 x8 x9 x10, P0 x0 x1 x2 x3 x4 x5 x6 x7 x8 x9 x10 ∧ P1 x0 x1 x2 x3 x4 x5 x6 x7 x8 x9 x10 ∧ P2 x0 x1 x2 x3 x4 x5 x6 x7 x8 x9 x10 ∧ P3 x0 x1 x2 x3 x4 x5 x6 x7 x8 x9 x10 ∧ P4 x0 x1 x2 x3 x4 x5 x6 x7 x8 x9 x10 ∧ P5 x0 x1 x2 x3 x4 x5 x6 x7 x8 x9 x10 ∧ P6 x0 x1 x2 x3 x4 x5 x6 x7 x8 x9 x10 ∧ P7 x0 x1 x2 x3 x4 x5 x6 x7 x8 x9 x10 ∧ P8 x0 x1 x2 x3 x4 x5 x6 x7 x8 x9 x10 ∧ P9 x0 x1 x2 x3 x4 x5 x6 x7 x8 x9 x10 ∧ P10 x0 x1 x2 x3 x4 x5 x6 x7 x8 x9 x10 := ⟨x0, x1, x2, x3, x4, x5, x6, x7, x8, x9, x10, h0, h1, h2, h3, h4, h5, h6, h7, h8, h9, h10⟩
theorem eqK {K : Value → Led → Prop} {r r' : Value} {nw nw' : Led} (a : r = r') (b : nw = nw') (k : K r' nw') : K r nw := by subst a; subst b; exact k
theorem t_1_1 {α0 : Type} {R : α0 → Value} {N : α0 → Led} {P0 : α0 → Prop} (K : Value → Led → Prop) (k : ∀ x0, P0 x0 → K (R x0) (N x0)) (r : Value) (nw : Led) (h : ∃ x0, r = R x0 ∧ nw = N x0 ∧ P0 x0) : K r nw := Exists.elim h fun x0 h => eqK h.1 h.2.1 (k x0 h.2.2)
theorem t_3_2 {α0 α1 α2 : Type} {R : α0 → α1 → α2 → Value} {N : α0 → α1 → α2 → Led} {P0 P1 : α0 → α1 → α2 → Prop} (K : Value → Led → Prop) (k : ∀ x0 x1 x2, P0 x0 x1 x2 → P1 x0 x1 x2 → K (R x0 x1 x2) (N x0 x1 x2)) (r : Value) (nw : Led) (h : ∃ x0 x1 x2, r = R x0 x1 x2 ∧ nw = N x0 x1 x2 ∧ P0 x0 x1 x2 ∧ P1 x0 x1 x2) : K r nw := Exists.elim h fun x0 h => Exists.elim h fun x1 h => Exists.elim h fun x2 h => eqK h.1 h.2.1 (k x0 x1 x2 h.2.2.1 h.2.2.2)
theorem t_6_8 {α0 α1 α2 α3 α4 α5 : Type} {R : α0 → α1 → α2 → α3 → α4 → α5 → Value} {N : α0 → α1 → α2 → α3 → α4 → α5 → Led} {P0 P1 P2 P3 P4 P5 P6 P7 : α0 → α1 → α2 → α3 → α4 → α5 → Prop} (K : Value → Led → Prop) (k : ∀ x0 x1 x2 x3 x4 x5, P0 x0 x1 x2 x3 x4 x5 → P1 x0 x1 x2 x3 x4 x5 → P2 x0 x1 x2 x3 x4 x5 → P3 x0 x1 x2 x3 x4 x5 → P4 x0 x1 x2 x3 x4 x5 → P5 x0 x1 x2 x3 x4 x5 → P6 x0 x1 x2 x3 x4 x5 → P7 x0 x1 x2 x3 x4 x5 → K (R x0 x1 x2 x3 x4 x5) (N x0 x1 x2 x3 x4 x5)) (r : Value) (nw : Led) (h : ∃ x0 x1 x2 x3 x4 x5, r = R x0 x1 x2 x3 x4 x5 ∧ nw = N x0 x1 x2 x3 x4 x5 ∧ P0 x0 x1 x2 x3 x4 x5 ∧ P1 x0 x1 x2 x3 x4 x5 ∧ P2 x0 x1 x2 x3 x4 x5 ∧ P3 x0 x1 x2 x3 x4 x5 ∧ P4 x0 x1 x2 x3 x4 x5 ∧ P5 x0 x1 x2 x3 x4 x5 ∧ P6 x0 x1 x2 x3 x4 x5 ∧ P7 x0 x1 x2 x3 x4 x5) : K r nw := Exists.elim h fun x0 h => Exists.elim h fun x1 h => Exists.elim h fun x2 h => Exists.elim h fun x3 h => Exists.elim h fun x4 h => Exists.elim h fun x5 h => eqK h.1 h.2.1 (k x0 x1 x2 x3 x4 x5 h.2.2.1 h.2.2.2.1 h.2.2.2.2.1 h.2.2.2.2.2.1 h.2.2.2.2.2.2.1 h.2.2.2.2.2.2.2.1 h.2.2.2.2.2.2.2.2.1 h.2.2.2.2.2.2.2.2.2)
theorem t_7_5 {α0 α1 α2 α3 α4 α5 α6 : Type} {R : α0 → α1 → α2 → α3 → α4 → α5 → α6 → Value} {N : α0 → α1 → α2 → α3 → α4 → α5 → α6 → Led} {P0 P1 P2 P3 P4 : α0 → α1 → α2 → α3 → α4 → α5 → α6 → Prop} (K : Value → Led → Prop) (k : ∀ x0 x1 x2 x3 x4 x5 x6, P0 x0 x1 x2 x3 x4 x5 x6 → P1 x0 x1 x2 x3 x4 x5 x6 → P2 x0 x1 x2 x3 x4 x5 x6 → P3 x0 x1 x2 x3 x4 x5 x6 → P4 x0 x1 x2 x3 x4 x5 x6 → K (R x0 x1 x2 x3 x4 x5 x6) (N x0 x1 x2 x3 x4 x5 x6)) (r : Value) (nw : Led) (h : ∃ x0 x1 x2 x3 x4 x5 x6, r = R x0 x1 x2 x3 x4 x5 x6 ∧ nw = N x0 x1 x2 x3 x4 x5 x6 ∧ P0 x0 x1 x2 x3 x4 x5 x6 ∧ P1 x0 x1 x2 x3 x4 x5 x6 ∧ P2 x0 x1 x2 x3 x4 x5 x6 ∧ P3 x0 x1 x2 x3 x4 x5 x6 ∧ P4 x0 x1 x2 x3 x4 x5 x6) : K r nw := Exists.elim h fun x0 h => Exists.elim h fun x1 h => Exists.elim h fun x2 h => Exists.elim h fun x3 h => Exists.elim h fun x4 h => Exists.elim h fun x5 h => Exists.elim h fun x6 h => eqK h.1 h.2.1 (k x0 x1 x2 x3 x4 x5 x6 h.2.2.1 h.2.2.2.1 h.2.2.2.2.1 h.2.2.2.2.2.1 h.2.2.2.2.2.2)
theorem t_7_6 {α0 α1 α2 α3 α4 α5 α6 : Type} {R : α0 → α1 → α2 → α3 → α4 → α5 → α6 → Value} {N : α0 → α1 → α2 → α3 → α4 → α5 → α6 → Led} {P0 P1 P2 P3 P4 P5 : α0 → α1 → α2 → α3 → α4 → α5 → α6 → Prop} (K : Value → Led → Prop) (k : ∀ x0 x1 x2 x3 x4 x5 x6, P0 x0 x1 x2 x3 x4 x5 x6 → P1 x0 x1 x2 x3 x4 x5 x6 → P2 x0 x1 x2 x3 x4 x5 x6 → P3 x0 x1 x2 x3 x4 x5 x6 → P4 x0 x1 x2 x3 x4 x5 x6 → P5 x0 x1 x2 x3 x4 x5 x6 → K (R x0 x1 x2 x3 x4 x5 x6) (N x0 x1 x2 x3 x4 x5 x6)) (r : Value) (nw : Led) (h : ∃ x0 x1 x2 x3 x4 x5 x6, r = R x0 x1 x2 x3 x4 x5 x6 ∧ nw = N x0 x1 x2 x3 x4 x5 x6 ∧ P0 x0 x1 x2 x3 x4 x5 x6 ∧ P1 x0 x1 x2 x3 x4 x5 x6 ∧ P2 x0 x1 x2 x3 x4 x5 x6 ∧ P3 x0 x1 x2 x3 x4 x5 x6 ∧ P4 x0 x1 x2 x3 x4 x5 x6 ∧ P5 x0 x1 x2 x3 x4 x5 x6) : K r nw := Exists.elim h fun x0 h => Exists.elim h fun x1 h => Exists.elim h fun x2 h => Exists.elim h fun x3 h => Exists.elim h fun x4 h => Exists.elim h fun x5 h => Exists.elim h fun x6 h => eqK h.1 h.2.1 (k x0 x1 x2 x3 x4 x5 x6 h.2.2.1 h.2.2.2.1 h.2.2.2.2.1 h.2.2.2.2.2.1 h.2.2.2.2.2.2.1 h.2.2.2.2.2.2.2)
theorem t_8_6 {α0 α1 α2 α3 α4 α5 α6 α7 : Type} {R : α0 → α1 → α2 → α3 → α4 → α5 → α6 → α7 → Value} {N : α0 → α1 → α2 → α3 → α4 → α5 → α6 → α7 → Led} {P0 P1 P2 P3 P4 P5 : α0 → α1 → α2 → α3 → α4 → α5 → α6 → α7 → Prop} (K : Value → Led → Prop) (k : ∀ x0 x1 x2 x3 x4 x5 x6 x7, P0 x0 x1 x2 x3 x4 x5 x6 x7 → P1 x0 x1 x2 x3 x4 x5 x6 x7 → P2 x0 x1 x2 x3 x4 x5 x6 x7 → P3 x0 x1 x2 x3 x4 x5 x6 x7 → P4 x0 x1 x2 x3 x4 x5 x6 x7 → P5 x0 x1 x2 x3 x4 x5 x6 x7 → K (R x0 x1 x2 x3 x4 x5 x6 x7) (N x0 x1 x2 x3 x4 x5 x6 x7)) (r : Value) (nw : Led) (h : ∃ x0 x1 x2 x3 x4 x5 x6 x7, r = R x0 x1 x2 x3 x4 x5 x6 x7 ∧ nw = N x0 x1 x2 x3 x4 x5 x6 x7 ∧ P0 x0 x1 x2 x3 x4 x5 x6 x7 ∧ P1 x0 x1 x2 x3 x4 x5 x6 x7 ∧ P2 x0 x1 x2 x3 x4 x5 x6 x7 ∧ P3 x0 x1 x2 x3 x4 x5 x6 x7 ∧ P4 x0 x1 x2 x3 x4 x5 x6 x7 ∧ P5 x0 x1 x2 x3 x4 x5 x6 x7) : K r nw := Exists.elim h fun x0 h => Exists.elim h fun x1 h => Exists.elim h fun x2 h => Exists.elim h fun x3 h => Exists.elim h fun x4 h => Exists.elim h fun x5 h => Exists.elim h fun x6 h => Exists.elim h fun x7 h => eqK h.1 h.2.1 (k x0 x1 x2 x3 x4 x5 x6 x7 h.2.2.1 h.2.2.2.1 h.2.2.2.2.1 h.2.2.2.2.2.1 h.2.2.2.2.2.2.1 h.2.2.2.2.2.2.2)
theorem t_11_9 {α0 α1 α2 α3 α4 α5 α6 α7 α8 α9 α10 : Type} {R : α0 → α1 → α2 → α3 → α4 → α5 → α6 → α7 → α8 → α9 → α10 → Value} {N : α0 → α1 → α2 → α3 → α4 → α5 → α6 → α7 → α8 → α9 → α10 → Led} {P0 P1 P2 P3 P4 P5 P6 P7 P8 : α0 → α1 → α2 → α3 → α4 → α5 → α6 → α7 → α8 → α9 → α10 → Prop} (K : Value → Led → Prop) (k : ∀ x0 x1 x2 x3 x4 x5 x6 x7 x8 x9 x10, P0 x0 x1 x2 x3 x4 x5 x6 x7 x8 x9 x10 → P1 x0 x1 x2 x3 x4 x5 x6 x7 x8 x9 x10 → P2 x0 x1 x2 x3 x4 x5 x6 x7 x8 x9 x10 → P3 x0 x1 x2 x3 x4 x5 x6 x7 x8 x9 x10 → P4 x0 x1 x2 x3 x4 x5 x6 x7 x8 x9 x10 → P5 x0 x1 x2 x3 x4 x5 x6 x7 x8 x9 x10 → P6 x0 x1 x2 x3 x4 x5 x6 x7 x8 x9 x10 → P7 x0 x1 x2 x3 x4 x5 x6 x7 x8 x9 x10 → P8 x0 x1 x2 x3 x4 x5 x6 x7 x8 x9 x10 → K (R x0 x1 x2 x3 x4 x5 x6 x7 x8 x9 x10) (N x0 x1 x2 x3 x4 x5 x6 x7 x8 x9 x10)) (r : Value) (nw : Led) (h : ∃ x0 x1 x2 x3 x4 x5 x6 x7 x8 x9 x10, r = R x0 x1 x2 x3 x4 x5 x6 x7 x8 x9 x10 ∧ nw = N x0 x1 x2 x3 x4 x5 x6 x7 x8 x9 x10 ∧ P0 x0 x1 x2 x3 x4 x5 x6 x7 x8 x9 x10 ∧ P1 x0 x1 x2 x3 x4 x5 x6 x7 x8 x9 x10 ∧ P2 x0 x1 x2 x3 x4 x5 x6 x7 x8 x9 x10 ∧ P3 x0 x1 x2 x3 x4 x5 x6 x7 x8 x9 x10 ∧ P4 x0 x1 x2 x3 x4 x5 x6 x7 x8 x9 x10 ∧ P5 x0 x1 x2 x3 x4 x5 x6 x7 x8 x9 x10 ∧ P6 x0 x1 x2 x3 x4 x5 x6 x7 x8 x9 x10 ∧ P7 x0 x1 x2 x3 x4 x5 x6 x7 x8 x9 x10 ∧ P8 x0 x1 x2 x3 x4 x5 x6 x7 x8 x9 x10) : K r nw := Exists.elim h fun x0 h => Exists.elim h fun x1 h => Exists.elim h fun x2 h => Exists.elim h fun x3 h => Exists.elim h fun x4 h => Exists.elim h fun x5 h => Exists.elim h fun x6 h => Exists.elim h fun x7 h => Exists.elim h fun x8 h => Exists.elim h fun x9 h => Exists.elim h fun x10 h => eqK h.1 h.2.1 (k x0 x1 x2 x3 x4 x5 x6 x7 x8 x9 x10 h.2.2.1 h.2.2.2.1 h.2.2.2.2.1 h.2.2.2.2.2.1 h.2.2.2.2.2.2.1 h.2.2.2.2.2.2.2.1 h.2.2.2.2.2.2.2.2.1 h.2.2.2.2.2.2.2.2.2.1 h.2.2.2.2.2.2.2.2.2.2)
theorem t_and {v : Value} {P : Led → Prop} (K : Value → Led → Prop) (k : ∀ nw, P nw → K v nw) (r : Value) (nw : Led) (h : r = v ∧ P nw) : K r nw := eqK h.1 rfl (k nw h.2)
theorem t_z {α0 α1 : Type} {R : α0 → α1 → Value} {N : α0 → α1 → Led} {P : Prop} {P0 P1 : α0 → α1 → Prop} (K : Value → Led → Prop) (k : ∀ x0 x1, P → P0 x0 x1 → P1 x0 x1 → K (R x0 x1) (N x0 x1)) (r : Value) (nw : Led) (h : ∃ x0 x1, P ∧ r = R x0 x1 ∧ nw = N x0 x1 ∧ P0 x0 x1 ∧ P1 x0 x1) : K r nw :=
  Exists.elim h fun x0 h => Exists.elim h fun x1 h => eqK h.2.1 h.2.2.1 (k x0 x1 h.1 h.2.2.2.1 h.2.2.2.2)
theorem t_alt {TA TB : (Value → Led → Prop) → Prop} {A B : Value → Led → Prop} (ta : ∀ K, TA K → ∀ r nw, A r nw → K r nw) (tb : ∀ K, TB K → ∀ r nw, B r nw → K r nw) (K : Value → Led → Prop) (k : TA K ∧ TB K) (r : Value) (nw : Led) (h : A r nw ∨ B r nw) : K r nw :=
  h.elim (ta K k.1 r nw) (tb K k.2 r nw)
theorem Call.mono {w : World} {n n' : Nat} {f : Addr} {vs : List Value} {news : Led} {post post' : Value → Led → Prop} (h : Call w n f vs news post) (hn : n ≤ n') (hp : ∀ r nw, post r nw → post' r nw) : Call w n' f vs news post' :=
  fun p loose mean mg mb dp un gd cn cs a ccd cl outer A₀ base h₀ L m s Q E B F X T hk hd hu N hret =>
    h p loose mean mg mb dp un gd cn cs a ccd cl outer A₀ base h₀ L m s Q E B F X T hk (by omega) (by omega) N fun r nw h' tk' F' N' q => hret r nw h' tk' F' N' (hp r nw q)
/-- a ledger in another sequence -/
theorem Call.sub {w : World} {n : Nat} {f : Addr} {vs : List Value} {news news₁ : Led} {post : Value → Led → Prop} (h : Call w n f vs news₁ post) (hs : ∀ p ∈ news₁, p ∈ news) : Call w n f vs news post :=
  fun p loose mean mg mb dp un gd cn cs a ccd cl outer A₀ base h₀ L m s Q E B F X T hk hd hu N hret =>
    h p loose mean mg mb dp un gd cn cs a ccd cl outer A₀ base h₀ L m s Q E B F X T hk hd hu (fun p hp => N p (hs p hp)) hret
theorem mem_of {α : Type} {a : α} {l : List α} (h : a ∈ l) : List.Mem a l := h
/-- two addresses are apart (told in a word that omega does not read) -/
def Apart (a b : Addr) : Prop := a ≠ b
theorem Apart.l {a b : Addr} (h : Apart a b) : a ≠ b := h
theorem Apart.r {a b : Addr} (h : Apart a b) : b ≠ a := fun e => h e.symm
theorem TailIs.offAt {l r0 r : Led} {g : Led → Led} {x : Led} {d : Addr} (h : TailIs l r0 r g) (h0 : ∀ p ∈ l, p.1 ≠ d) (hx : ∀ p ∈ x, p.1 ≠ d) : ∀ p ∈ g x, p.1 ≠ d := by
  obtain ⟨ex, e, he⟩ := h.split
  intro p hp
  rw [e] at hp
  exact (List.mem_append.mp hp).elim (fun q => h0 p (he p q)) (hx p)
/-- no entry lies at d -/
def OffL (r : Led) (d : Addr) : Prop := ∀ p ∈ r, p.1 ≠ d
theorem Grow.offL {news r0 rest rest' : Led} {d : Addr} (G : Grow news r0 rest rest') (_h : OffL r0 d) (hm : ∃ o, (d, o) ∈ news) (hi : ∀ p ∈ rest, p.1 ≠ d) : OffL rest' d := G.off d hm hi
theorem offA {r : Led} {d : Addr} (h : ∀ p ∈ r, Apart p.1 d) : ∀ p ∈ r, p.1 ≠ d := h
theorem OffL.out {r : Led} {d : Addr} (h : OffL r d) : ∀ p ∈ r, p.1 ≠ d := h
theorem TailIs.offAtL {l r0 r : Led} {g : Led → Led} {x : Led} {d : Addr} (h : TailIs l r0 r g) (h0 : OffL l d) (hx : OffL x d) : ∀ p ∈ g x, p.1 ≠ d := h.offAt h0 hx
/-- a mark that says nothing -/
inductive Mk9 : Prop | mk
def Stop (P : Prop) : Prop := P
theorem Stop.intro {P : Prop} (h : Stop P) : P := h
/-- a frozen list of ints -/
def IntsAt (rest : Led) (l : Addr) (ns : List Int) : Prop := ∃ vs n, (l, listOf vs.toArray n) ∈ rest ∧ IntsAre vs ns
theorem IntsAt.mono {r r' : Led} {l : Addr} {ns : List Int} (h : IntsAt r l ns) (hs : ∀ p ∈ r, p ∈ r') : IntsAt r' l ns := let ⟨vs, n, a, b⟩ := h; ⟨vs, n, hs _ a, b⟩
theorem offC {p : Addr × Obj} {r : Led} {d : Addr} (a : p.1 ≠ d) (b : ∀ q ∈ r, q.1 ≠ d) : ∀ q ∈ p :: r, q.1 ≠ d := List.forall_mem_cons.mpr ⟨a, b⟩
theorem subC {p : Addr × Obj} {l r : Led} (a : List.Mem p r) (b : ∀ q ∈ l, q ∈ r) : ∀ q ∈ p :: l, q ∈ r := List.forall_mem_cons.mpr ⟨a, b⟩
theorem covC {p : Addr × Obj} {l n : Led} {o : Obj} (a : List.Mem (p.1, o) n) (b : ∀ q ∈ l, ∃ o, (q.1, o) ∈ n) : ∀ q ∈ p :: l, ∃ o, (q.1, o) ∈ n := List.forall_mem_cons.mpr ⟨⟨o, a⟩, b⟩
/-- the feed: a dict of the cells' list and the place -/
def FeedO (w : World) (o : Obj) (ca : Addr) (k : Int) : Prop := ∃ t, o.IsDictOf (strKind PySem.Challenge.rw_nz0013_01.row.prog w) [(Str.ofString "cells", .ref ca), (Str.ofString "at", .int k t)]
theorem t_draw {w : World} {fd ca : Addr} {k many : Int} {others : Led} : ∀ K : Value → Led → Prop, (∀ v t o', 0 ≤ v → v < many → FeedO w o' ca k → K (.int v t) ((fd, o') :: others)) → ∀ r nw, (∃ v t o', r = .int v t ∧ 0 ≤ v ∧ v < many ∧ nw = (fd, o') :: others ∧ FeedO w o' ca k) → K r nw := by
  rintro K k' _ _ ⟨v, t, o', rfl, h1, h2, rfl, h⟩; exact k' v t o' h1 h2 h
/-! eliminators: no case is split in the midst of a walk -/
theorem el_0_3  {P0 P1 P2 : Prop} {C : Prop} (h : P0 ∧ P1 ∧ P2) (k : P0 → P1 → P2 → C) : C := k  h.1 h.2.1 h.2.2
theorem el_0_9  {P0 P1 P2 P3 P4 P5 P6 P7 P8 : Prop} {C : Prop} (h : P0 ∧ P1 ∧ P2 ∧ P3 ∧ P4 ∧ P5 ∧ P6 ∧ P7 ∧ P8) (k : P0 → P1 → P2 → P3 → P4 → P5 → P6 → P7 → P8 → C) : C := k  h.1 h.2.1 h.2.2.1 h.2.2.2.1 h.2.2.2.2.1 h.2.2.2.2.2.1 h.2.2.2.2.2.2.1 h.2.2.2.2.2.2.2.1 h.2.2.2.2.2.2.2.2
theorem el_1_3 {α0 : Type} {P0 P1 P2 : α0 → Prop} {C : Prop} (h : ∃ x0, P0 x0 ∧ P1 x0 ∧ P2 x0) (k : ∀ x0, P0 x0 → P1 x0 → P2 x0 → C) : C := Exists.elim h fun x0 h => k x0 h.1 h.2.1 h.2.2
theorem el_1_4 {α0 : Type} {P0 P1 P2 P3 : α0 → Prop} {C : Prop} (h : ∃ x0, P0 x0 ∧ P1 x0 ∧ P2 x0 ∧ P3 x0) (k : ∀ x0, P0 x0 → P1 x0 → P2 x0 → P3 x0 → C) : C := Exists.elim h fun x0 h => k x0 h.1 h.2.1 h.2.2.1 h.2.2.2
theorem el_1_11 {α0 : Type} {P0 P1 P2 P3 P4 P5 P6 P7 P8 P9 P10 : α0 → Prop} {C : Prop} (h : ∃ x0, P0 x0 ∧ P1 x0 ∧ P2 x0 ∧ P3 x0 ∧ P4 x0 ∧ P5 x0 ∧ P6 x0 ∧ P7 x0 ∧ P8 x0 ∧ P9 x0 ∧ P10 x0) (k : ∀ x0, P0 x0 → P1 x0 → P2 x0 → P3 x0 → P4 x0 → P5 x0 → P6 x0 → P7 x0 → P8 x0 → P9 x0 → P10 x0 → C) : C := Exists.elim h fun x0 h => k x0 h.1 h.2.1 h.2.2.1 h.2.2.2.1 h.2.2.2.2.1 h.2.2.2.2.2.1 h.2.2.2.2.2.2.1 h.2.2.2.2.2.2.2.1 h.2.2.2.2.2.2.2.2.1 h.2.2.2.2.2.2.2.2.2.1 h.2.2.2.2.2.2.2.2.2.2
theorem el_2_2 {α0 α1 : Type} {P0 P1 : α0 → α1 → Prop} {C : Prop} (h : ∃ x0 x1, P0 x0 x1 ∧ P1 x0 x1) (k : ∀ x0 x1, P0 x0 x1 → P1 x0 x1 → C) : C := Exists.elim h fun x0 h => Exists.elim h fun x1 h => k x0 x1 h.1 h.2
theorem el_2_5 {α0 α1 : Type} {P0 P1 P2 P3 P4 : α0 → α1 → Prop} {C : Prop} (h : ∃ x0 x1, P0 x0 x1 ∧ P1 x0 x1 ∧ P2 x0 x1 ∧ P3 x0 x1 ∧ P4 x0 x1) (k : ∀ x0 x1, P0 x0 x1 → P1 x0 x1 → P2 x0 x1 → P3 x0 x1 → P4 x0 x1 → C) : C := Exists.elim h fun x0 h => Exists.elim h fun x1 h => k x0 x1 h.1 h.2.1 h.2.2.1 h.2.2.2.1 h.2.2.2.2
theorem el_2_9 {α0 α1 : Type} {P0 P1 P2 P3 P4 P5 P6 P7 P8 : α0 → α1 → Prop} {C : Prop} (h : ∃ x0 x1, P0 x0 x1 ∧ P1 x0 x1 ∧ P2 x0 x1 ∧ P3 x0 x1 ∧ P4 x0 x1 ∧ P5 x0 x1 ∧ P6 x0 x1 ∧ P7 x0 x1 ∧ P8 x0 x1) (k : ∀ x0 x1, P0 x0 x1 → P1 x0 x1 → P2 x0 x1 → P3 x0 x1 → P4 x0 x1 → P5 x0 x1 → P6 x0 x1 → P7 x0 x1 → P8 x0 x1 → C) : C := Exists.elim h fun x0 h => Exists.elim h fun x1 h => k x0 x1 h.1 h.2.1 h.2.2.1 h.2.2.2.1 h.2.2.2.2.1 h.2.2.2.2.2.1 h.2.2.2.2.2.2.1 h.2.2.2.2.2.2.2.1 h.2.2.2.2.2.2.2.2
theorem el_3_5 {α0 α1 α2 : Type} {P0 P1 P2 P3 P4 : α0 → α1 → α2 → Prop} {C : Prop} (h : ∃ x0 x1 x2, P0 x0 x1 x2 ∧ P1 x0 x1 x2 ∧ P2 x0 x1 x2 ∧ P3 x0 x1 x2 ∧ P4 x0 x1 x2) (k : ∀ x0 x1 x2, P0 x0 x1 x2 → P1 x0 x1 x2 → P2 x0 x1 x2 → P3 x0 x1 x2 → P4 x0 x1 x2 → C) : C := Exists.elim h fun x0 h => Exists.elim h fun x1 h => Exists.elim h fun x2 h => k x0 x1 x2 h.1 h.2.1 h.2.2.1 h.2.2.2.1 h.2.2.2.2
theorem el_3_7 {α0 α1 α2 : Type} {P0 P1 P2 P3 P4 P5 P6 : α0 → α1 → α2 → Prop} {C : Prop} (h : ∃ x0 x1 x2, P0 x0 x1 x2 ∧ P1 x0 x1 x2 ∧ P2 x0 x1 x2 ∧ P3 x0 x1 x2 ∧ P4 x0 x1 x2 ∧ P5 x0 x1 x2 ∧ P6 x0 x1 x2) (k : ∀ x0 x1 x2, P0 x0 x1 x2 → P1 x0 x1 x2 → P2 x0 x1 x2 → P3 x0 x1 x2 → P4 x0 x1 x2 → P5 x0 x1 x2 → P6 x0 x1 x2 → C) : C := Exists.elim h fun x0 h => Exists.elim h fun x1 h => Exists.elim h fun x2 h => k x0 x1 x2 h.1 h.2.1 h.2.2.1 h.2.2.2.1 h.2.2.2.2.1 h.2.2.2.2.2.1 h.2.2.2.2.2.2
theorem el_4_4 {α0 α1 α2 α3 : Type} {P0 P1 P2 P3 : α0 → α1 → α2 → α3 → Prop} {C : Prop} (h : ∃ x0 x1 x2 x3, P0 x0 x1 x2 x3 ∧ P1 x0 x1 x2 x3 ∧ P2 x0 x1 x2 x3 ∧ P3 x0 x1 x2 x3) (k : ∀ x0 x1 x2 x3, P0 x0 x1 x2 x3 → P1 x0 x1 x2 x3 → P2 x0 x1 x2 x3 → P3 x0 x1 x2 x3 → C) : C := Exists.elim h fun x0 h => Exists.elim h fun x1 h => Exists.elim h fun x2 h => Exists.elim h fun x3 h => k x0 x1 x2 x3 h.1 h.2.1 h.2.2.1 h.2.2.2
theorem el_4_5 {α0 α1 α2 α3 : Type} {P0 P1 P2 P3 P4 : α0 → α1 → α2 → α3 → Prop} {C : Prop} (h : ∃ x0 x1 x2 x3, P0 x0 x1 x2 x3 ∧ P1 x0 x1 x2 x3 ∧ P2 x0 x1 x2 x3 ∧ P3 x0 x1 x2 x3 ∧ P4 x0 x1 x2 x3) (k : ∀ x0 x1 x2 x3, P0 x0 x1 x2 x3 → P1 x0 x1 x2 x3 → P2 x0 x1 x2 x3 → P3 x0 x1 x2 x3 → P4 x0 x1 x2 x3 → C) : C := Exists.elim h fun x0 h => Exists.elim h fun x1 h => Exists.elim h fun x2 h => Exists.elim h fun x3 h => k x0 x1 x2 x3 h.1 h.2.1 h.2.2.1 h.2.2.2.1 h.2.2.2.2
theorem el_6_2 {α0 α1 α2 α3 α4 α5 : Type} {P0 P1 : α0 → α1 → α2 → α3 → α4 → α5 → Prop} {C : Prop} (h : ∃ x0 x1 x2 x3 x4 x5, P0 x0 x1 x2 x3 x4 x5 ∧ P1 x0 x1 x2 x3 x4 x5) (k : ∀ x0 x1 x2 x3 x4 x5, P0 x0 x1 x2 x3 x4 x5 → P1 x0 x1 x2 x3 x4 x5 → C) : C := Exists.elim h fun x0 h => Exists.elim h fun x1 h => Exists.elim h fun x2 h => Exists.elim h fun x3 h => Exists.elim h fun x4 h => Exists.elim h fun x5 h => k x0 x1 x2 x3 x4 x5 h.1 h.2
theorem el_6_5 {α0 α1 α2 α3 α4 α5 : Type} {P0 P1 P2 P3 P4 : α0 → α1 → α2 → α3 → α4 → α5 → Prop} {C : Prop} (h : ∃ x0 x1 x2 x3 x4 x5, P0 x0 x1 x2 x3 x4 x5 ∧ P1 x0 x1 x2 x3 x4 x5 ∧ P2 x0 x1 x2 x3 x4 x5 ∧ P3 x0 x1 x2 x3 x4 x5 ∧ P4 x0 x1 x2 x3 x4 x5) (k : ∀ x0 x1 x2 x3 x4 x5, P0 x0 x1 x2 x3 x4 x5 → P1 x0 x1 x2 x3 x4 x5 → P2 x0 x1 x2 x3 x4 x5 → P3 x0 x1 x2 x3 x4 x5 → P4 x0 x1 x2 x3 x4 x5 → C) : C := Exists.elim h fun x0 h => Exists.elim h fun x1 h => Exists.elim h fun x2 h => Exists.elim h fun x3 h => Exists.elim h fun x4 h => Exists.elim h fun x5 h => k x0 x1 x2 x3 x4 x5 h.1 h.2.1 h.2.2.1 h.2.2.2.1 h.2.2.2.2
theorem el_7_4 {α0 α1 α2 α3 α4 α5 α6 : Type} {P0 P1 P2 P3 : α0 → α1 → α2 → α3 → α4 → α5 → α6 → Prop} {C : Prop} (h : ∃ x0 x1 x2 x3 x4 x5 x6, P0 x0 x1 x2 x3 x4 x5 x6 ∧ P1 x0 x1 x2 x3 x4 x5 x6 ∧ P2 x0 x1 x2 x3 x4 x5 x6 ∧ P3 x0 x1 x2 x3 x4 x5 x6) (k : ∀ x0 x1 x2 x3 x4 x5 x6, P0 x0 x1 x2 x3 x4 x5 x6 → P1 x0 x1 x2 x3 x4 x5 x6 → P2 x0 x1 x2 x3 x4 x5 x6 → P3 x0 x1 x2 x3 x4 x5 x6 → C) : C := Exists.elim h fun x0 h => Exists.elim h fun x1 h => Exists.elim h fun x2 h => Exists.elim h fun x3 h => Exists.elim h fun x4 h => Exists.elim h fun x5 h => Exists.elim h fun x6 h => k x0 x1 x2 x3 x4 x5 x6 h.1 h.2.1 h.2.2.1 h.2.2.2
theorem el_7_7 {α0 α1 α2 α3 α4 α5 α6 : Type} {P0 P1 P2 P3 P4 P5 P6 : α0 → α1 → α2 → α3 → α4 → α5 → α6 → Prop} {C : Prop} (h : ∃ x0 x1 x2 x3 x4 x5 x6, P0 x0 x1 x2 x3 x4 x5 x6 ∧ P1 x0 x1 x2 x3 x4 x5 x6 ∧ P2 x0 x1 x2 x3 x4 x5 x6 ∧ P3 x0 x1 x2 x3 x4 x5 x6 ∧ P4 x0 x1 x2 x3 x4 x5 x6 ∧ P5 x0 x1 x2 x3 x4 x5 x6 ∧ P6 x0 x1 x2 x3 x4 x5 x6) (k : ∀ x0 x1 x2 x3 x4 x5 x6, P0 x0 x1 x2 x3 x4 x5 x6 → P1 x0 x1 x2 x3 x4 x5 x6 → P2 x0 x1 x2 x3 x4 x5 x6 → P3 x0 x1 x2 x3 x4 x5 x6 → P4 x0 x1 x2 x3 x4 x5 x6 → P5 x0 x1 x2 x3 x4 x5 x6 → P6 x0 x1 x2 x3 x4 x5 x6 → C) : C := Exists.elim h fun x0 h => Exists.elim h fun x1 h => Exists.elim h fun x2 h => Exists.elim h fun x3 h => Exists.elim h fun x4 h => Exists.elim h fun x5 h => Exists.elim h fun x6 h => k x0 x1 x2 x3 x4 x5 x6 h.1 h.2.1 h.2.2.1 h.2.2.2.1 h.2.2.2.2.1 h.2.2.2.2.2.1 h.2.2.2.2.2.2
theorem el_9_9 {α0 α1 α2 α3 α4 α5 α6 α7 α8 : Type} {P0 P1 P2 P3 P4 P5 P6 P7 P8 : α0 → α1 → α2 → α3 → α4 → α5 → α6 → α7 → α8 → Prop} {C : Prop} (h : ∃ x0 x1 x2 x3 x4 x5 x6 x7 x8, P0 x0 x1 x2 x3 x4 x5 x6 x7 x8 ∧ P1 x0 x1 x2 x3 x4 x5 x6 x7 x8 ∧ P2 x0 x1 x2 x3 x4 x5 x6 x7 x8 ∧ P3 x0 x1 x2 x3 x4 x5 x6 x7 x8 ∧ P4 x0 x1 x2 x3 x4 x5 x6 x7 x8 ∧ P5 x0 x1 x2 x3 x4 x5 x6 x7 x8 ∧ P6 x0 x1 x2 x3 x4 x5 x6 x7 x8 ∧ P7 x0 x1 x2 x3 x4 x5 x6 x7 x8 ∧ P8 x0 x1 x2 x3 x4 x5 x6 x7 x8) (k : ∀ x0 x1 x2 x3 x4 x5 x6 x7 x8, P0 x0 x1 x2 x3 x4 x5 x6 x7 x8 → P1 x0 x1 x2 x3 x4 x5 x6 x7 x8 → P2 x0 x1 x2 x3 x4 x5 x6 x7 x8 → P3 x0 x1 x2 x3 x4 x5 x6 x7 x8 → P4 x0 x1 x2 x3 x4 x5 x6 x7 x8 → P5 x0 x1 x2 x3 x4 x5 x6 x7 x8 → P6 x0 x1 x2 x3 x4 x5 x6 x7 x8 → P7 x0 x1 x2 x3 x4 x5 x6 x7 x8 → P8 x0 x1 x2 x3 x4 x5 x6 x7 x8 → C) : C := Exists.elim h fun x0 h => Exists.elim h fun x1 h => Exists.elim h fun x2 h => Exists.elim h fun x3 h => Exists.elim h fun x4 h => Exists.elim h fun x5 h => Exists.elim h fun x6 h => Exists.elim h fun x7 h => Exists.elim h fun x8 h => k x0 x1 x2 x3 x4 x5 x6 x7 x8 h.1 h.2.1 h.2.2.1 h.2.2.2.1 h.2.2.2.2.1 h.2.2.2.2.2.1 h.2.2.2.2.2.2.1 h.2.2.2.2.2.2.2.1 h.2.2.2.2.2.2.2.2
theorem el_11_11 {α0 α1 α2 α3 α4 α5 α6 α7 α8 α9 α10 : Type} {P0 P1 P2 P3 P4 P5 P6 P7 P8 P9 P10 : α0 → α1 → α2 → α3 → α4 → α5 → α6 → α7 → α8 → α9 → α10 → Prop} {C : Prop} (h : ∃ x0 x1 x2 x3 x4 x5 x6 x7 x8 x9 x10, P0 x0 x1 x2 x3 x4 x5 x6 x7 x8 x9 x10 ∧ P1 x0 x1 x2 x3 x4 x5 x6 x7 x8 x9 x10 ∧ P2 x0 x1 x2 x3 x4 x5 x6 x7 x8 x9 x10 ∧ P3 x0 x1 x2 x3 x4 x5 x6 x7 x8 x9 x10 ∧ P4 x0 x1 x2 x3 x4 x5 x6 x7 x8 x9 x10 ∧ P5 x0 x1 x2 x3 x4 x5 x6 x7 x8 x9 x10 ∧ P6 x0 x1 x2 x3 x4 x5 x6 x7 x8 x9 x10 ∧ P7 x0 x1 x2 x3 x4 x5 x6 x7 x8 x9 x10 ∧ P8 x0 x1 x2 x3 x4 x5 x6 x7 x8 x9 x10 ∧ P9 x0 x1 x2 x3 x4 x5 x6 x7 x8 x9 x10 ∧ P10 x0 x1 x2 x3 x4 x5 x6 x7 x8 x9 x10) (k : ∀ x0 x1 x2 x3 x4 x5 x6 x7 x8 x9 x10, P0 x0 x1 x2 x3 x4 x5 x6 x7 x8 x9 x10 → P1 x0 x1 x2 x3 x4 x5 x6 x7 x8 x9 x10 → P2 x0 x1 x2 x3 x4 x5 x6 x7 x8 x9 x10 → P3 x0 x1 x2 x3 x4 x5 x6 x7 x8 x9 x10 → P4 x0 x1 x2 x3 x4 x5 x6 x7 x8 x9 x10 → P5 x0 x1 x2 x3 x4 x5 x6 x7 x8 x9 x10 → P6 x0 x1 x2 x3 x4 x5 x6 x7 x8 x9 x10 → P7 x0 x1 x2 x3 x4 x5 x6 x7 x8 x9 x10 → P8 x0 x1 x2 x3 x4 x5 x6 x7 x8 x9 x10 → P9 x0 x1 x2 x3 x4 x5 x6 x7 x8 x9 x10 → P10 x0 x1 x2 x3 x4 x5 x6 x7 x8 x9 x10 → C) : C := Exists.elim h fun x0 h => Exists.elim h fun x1 h => Exists.elim h fun x2 h => Exists.elim h fun x3 h => Exists.elim h fun x4 h => Exists.elim h fun x5 h => Exists.elim h fun x6 h => Exists.elim h fun x7 h => Exists.elim h fun x8 h => Exists.elim h fun x9 h => Exists.elim h fun x10 h => k x0 x1 x2 x3 x4 x5 x6 x7 x8 x9 x10 h.1 h.2.1 h.2.2.1 h.2.2.2.1 h.2.2.2.2.1 h.2.2.2.2.2.1 h.2.2.2.2.2.2.1 h.2.2.2.2.2.2.2.1 h.2.2.2.2.2.2.2.2.1 h.2.2.2.2.2.2.2.2.2.1 h.2.2.2.2.2.2.2.2.2.2
theorem el_2_4 {α0 α1 : Type} {P0 P1 P2 P3 : α0 → α1 → Prop} {C : Prop} (h : ∃ x0 x1, P0 x0 x1 ∧ P1 x0 x1 ∧ P2 x0 x1 ∧ P3 x0 x1) (k : ∀ x0 x1, P0 x0 x1 → P1 x0 x1 → P2 x0 x1 → P3 x0 x1 → C) : C := Exists.elim h fun x0 h => Exists.elim h fun x1 h => k x0 x1 h.1 h.2.1 h.2.2.1 h.2.2.2
theorem el_7_8 {α0 α1 α2 α3 α4 α5 α6 : Type} {P0 P1 P2 P3 P4 P5 P6 P7 : α0 → α1 → α2 → α3 → α4 → α5 → α6 → Prop} {C : Prop} (h : ∃ x0 x1 x2 x3 x4 x5 x6, P0 x0 x1 x2 x3 x4 x5 x6 ∧ P1 x0 x1 x2 x3 x4 x5 x6 ∧ P2 x0 x1 x2 x3 x4 x5 x6 ∧ P3 x0 x1 x2 x3 x4 x5 x6 ∧ P4 x0 x1 x2 x3 x4 x5 x6 ∧ P5 x0 x1 x2 x3 x4 x5 x6 ∧ P6 x0 x1 x2 x3 x4 x5 x6 ∧ P7 x0 x1 x2 x3 x4 x5 x6) (k : ∀ x0 x1 x2 x3 x4 x5 x6, P0 x0 x1 x2 x3 x4 x5 x6 → P1 x0 x1 x2 x3 x4 x5 x6 → P2 x0 x1 x2 x3 x4 x5 x6 → P3 x0 x1 x2 x3 x4 x5 x6 → P4 x0 x1 x2 x3 x4 x5 x6 → P5 x0 x1 x2 x3 x4 x5 x6 → P6 x0 x1 x2 x3 x4 x5 x6 → P7 x0 x1 x2 x3 x4 x5 x6 → C) : C := Exists.elim h fun x0 h => Exists.elim h fun x1 h => Exists.elim h fun x2 h => Exists.elim h fun x3 h => Exists.elim h fun x4 h => Exists.elim h fun x5 h => Exists.elim h fun x6 h => k x0 x1 x2 x3 x4 x5 x6 h.1 h.2.1 h.2.2.1 h.2.2.2.1 h.2.2.2.2.1 h.2.2.2.2.2.1 h.2.2.2.2.2.2.1 h.2.2.2.2.2.2.2
theorem el_1_5 {α0 : Type} {P0 P1 P2 P3 P4 : α0 → Prop} {C : Prop} (h : ∃ x0, P0 x0 ∧ P1 x0 ∧ P2 x0 ∧ P3 x0 ∧ P4 x0) (k : ∀ x0, P0 x0 → P1 x0 → P2 x0 → P3 x0 → P4 x0 → C) : C := Exists.elim h fun x0 h => k x0 h.1 h.2.1 h.2.2.1 h.2.2.2.1 h.2.2.2.2
theorem fm_0 {P : Addr × Obj → Prop} {l : Led} {C : Prop} (h : ∀ q ∈ l, P q) (k : (∀ q ∈ l, P q) → C) : C := k h
theorem fm_1 {P : Addr × Obj → Prop} {a0 : Addr × Obj} {l : Led} {C : Prop} (h : ∀ q ∈ a0 :: l, P q) (k : P a0 → (∀ q ∈ l, P q) → C) : C := k (h _ (.head _)) fun q hq => h q (.tail _ hq)
theorem fm_2 {P : Addr × Obj → Prop} {a0 a1 : Addr × Obj} {l : Led} {C : Prop} (h : ∀ q ∈ a0 :: a1 :: l, P q) (k : P a0 → P a1 → (∀ q ∈ l, P q) → C) : C := k (h _ (.head _)) (h _ (.tail _ (.head _))) fun q hq => h q (.tail _ (.tail _ hq))
theorem fm_3 {P : Addr × Obj → Prop} {a0 a1 a2 : Addr × Obj} {l : Led} {C : Prop} (h : ∀ q ∈ a0 :: a1 :: a2 :: l, P q) (k : P a0 → P a1 → P a2 → (∀ q ∈ l, P q) → C) : C := k (h _ (.head _)) (h _ (.tail _ (.head _))) (h _ (.tail _ (.tail _ (.head _)))) fun q hq => h q (.tail _ (.tail _ (.tail _ hq)))
theorem fm_4 {P : Addr × Obj → Prop} {a0 a1 a2 a3 : Addr × Obj} {l : Led} {C : Prop} (h : ∀ q ∈ a0 :: a1 :: a2 :: a3 :: l, P q) (k : P a0 → P a1 → P a2 → P a3 → (∀ q ∈ l, P q) → C) : C := k (h _ (.head _)) (h _ (.tail _ (.head _))) (h _ (.tail _ (.tail _ (.head _)))) (h _ (.tail _ (.tail _ (.tail _ (.head _))))) fun q hq => h q (.tail _ (.tail _ (.tail _ (.tail _ hq))))
theorem fm_5 {P : Addr × Obj → Prop} {a0 a1 a2 a3 a4 : Addr × Obj} {l : Led} {C : Prop} (h : ∀ q ∈ a0 :: a1 :: a2 :: a3 :: a4 :: l, P q) (k : P a0 → P a1 → P a2 → P a3 → P a4 → (∀ q ∈ l, P q) → C) : C := k (h _ (.head _)) (h _ (.tail _ (.head _))) (h _ (.tail _ (.tail _ (.head _)))) (h _ (.tail _ (.tail _ (.tail _ (.head _))))) (h _ (.tail _ (.tail _ (.tail _ (.tail _ (.head _)))))) fun q hq => h q (.tail _ (.tail _ (.tail _ (.tail _ (.tail _ hq)))))
theorem fm_6 {P : Addr × Obj → Prop} {a0 a1 a2 a3 a4 a5 : Addr × Obj} {l : Led} {C : Prop} (h : ∀ q ∈ a0 :: a1 :: a2 :: a3 :: a4 :: a5 :: l, P q) (k : P a0 → P a1 → P a2 → P a3 → P a4 → P a5 → (∀ q ∈ l, P q) → C) : C := k (h _ (.head _)) (h _ (.tail _ (.head _))) (h _ (.tail _ (.tail _ (.head _)))) (h _ (.tail _ (.tail _ (.tail _ (.head _))))) (h _ (.tail _ (.tail _ (.tail _ (.tail _ (.head _)))))) (h _ (.tail _ (.tail _ (.tail _ (.tail _ (.tail _ (.head _))))))) fun q hq => h q (.tail _ (.tail _ (.tail _ (.tail _ (.tail _ (.tail _ hq))))))
theorem fm_7 {P : Addr × Obj → Prop} {a0 a1 a2 a3 a4 a5 a6 : Addr × Obj} {l : Led} {C : Prop} (h : ∀ q ∈ a0 :: a1 :: a2 :: a3 :: a4 :: a5 :: a6 :: l, P q) (k : P a0 → P a1 → P a2 → P a3 → P a4 → P a5 → P a6 → (∀ q ∈ l, P q) → C) : C := k (h _ (.head _)) (h _ (.tail _ (.head _))) (h _ (.tail _ (.tail _ (.head _)))) (h _ (.tail _ (.tail _ (.tail _ (.head _))))) (h _ (.tail _ (.tail _ (.tail _ (.tail _ (.head _)))))) (h _ (.tail _ (.tail _ (.tail _ (.tail _ (.tail _ (.head _))))))) (h _ (.tail _ (.tail _ (.tail _ (.tail _ (.tail _ (.tail _ (.head _)))))))) fun q hq => h q (.tail _ (.tail _ (.tail _ (.tail _ (.tail _ (.tail _ (.tail _ hq)))))))
theorem fm_8 {P : Addr × Obj → Prop} {a0 a1 a2 a3 a4 a5 a6 a7 : Addr × Obj} {l : Led} {C : Prop} (h : ∀ q ∈ a0 :: a1 :: a2 :: a3 :: a4 :: a5 :: a6 :: a7 :: l, P q) (k : P a0 → P a1 → P a2 → P a3 → P a4 → P a5 → P a6 → P a7 → (∀ q ∈ l, P q) → C) : C := k (h _ (.head _)) (h _ (.tail _ (.head _))) (h _ (.tail _ (.tail _ (.head _)))) (h _ (.tail _ (.tail _ (.tail _ (.head _))))) (h _ (.tail _ (.tail _ (.tail _ (.tail _ (.head _)))))) (h _ (.tail _ (.tail _ (.tail _ (.tail _ (.tail _ (.head _))))))) (h _ (.tail _ (.tail _ (.tail _ (.tail _ (.tail _ (.tail _ (.head _)))))))) (h _ (.tail _ (.tail _ (.tail _ (.tail _ (.tail _ (.tail _ (.tail _ (.head _))))))))) fun q hq => h q (.tail _ (.tail _ (.tail _ (.tail _ (.tail _ (.tail _ (.tail _ (.tail _ hq))))))))
theorem fm_9 {P : Addr × Obj → Prop} {a0 a1 a2 a3 a4 a5 a6 a7 a8 : Addr × Obj} {l : Led} {C : Prop} (h : ∀ q ∈ a0 :: a1 :: a2 :: a3 :: a4 :: a5 :: a6 :: a7 :: a8 :: l, P q) (k : P a0 → P a1 → P a2 → P a3 → P a4 → P a5 → P a6 → P a7 → P a8 → (∀ q ∈ l, P q) → C) : C := k (h _ (.head _)) (h _ (.tail _ (.head _))) (h _ (.tail _ (.tail _ (.head _)))) (h _ (.tail _ (.tail _ (.tail _ (.head _))))) (h _ (.tail _ (.tail _ (.tail _ (.tail _ (.head _)))))) (h _ (.tail _ (.tail _ (.tail _ (.tail _ (.tail _ (.head _))))))) (h _ (.tail _ (.tail _ (.tail _ (.tail _ (.tail _ (.tail _ (.head _)))))))) (h _ (.tail _ (.tail _ (.tail _ (.tail _ (.tail _ (.tail _ (.tail _ (.head _))))))))) (h _ (.tail _ (.tail _ (.tail _ (.tail _ (.tail _ (.tail _ (.tail _ (.tail _ (.head _)))))))))) fun q hq => h q (.tail _ (.tail _ (.tail _ (.tail _ (.tail _ (.tail _ (.tail _ (.tail _ (.tail _ hq)))))))))
theorem fm_10 {P : Addr × Obj → Prop} {a0 a1 a2 a3 a4 a5 a6 a7 a8 a9 : Addr × Obj} {l : Led} {C : Prop} (h : ∀ q ∈ a0 :: a1 :: a2 :: a3 :: a4 :: a5 :: a6 :: a7 :: a8 :: a9 :: l, P q) (k : P a0 → P a1 → P a2 → P a3 → P a4 → P a5 → P a6 → P a7 → P a8 → P a9 → (∀ q ∈ l, P q) → C) : C := k (h _ (.head _)) (h _ (.tail _ (.head _))) (h _ (.tail _ (.tail _ (.head _)))) (h _ (.tail _ (.tail _ (.tail _ (.head _))))) (h _ (.tail _ (.tail _ (.tail _ (.tail _ (.head _)))))) (h _ (.tail _ (.tail _ (.tail _ (.tail _ (.tail _ (.head _))))))) (h _ (.tail _ (.tail _ (.tail _ (.tail _ (.tail _ (.tail _ (.head _)))))))) (h _ (.tail _ (.tail _ (.tail _ (.tail _ (.tail _ (.tail _ (.tail _ (.head _))))))))) (h _ (.tail _ (.tail _ (.tail _ (.tail _ (.tail _ (.tail _ (.tail _ (.tail _ (.head _)))))))))) (h _ (.tail _ (.tail _ (.tail _ (.tail _ (.tail _ (.tail _ (.tail _ (.tail _ (.tail _ (.head _))))))))))) fun q hq => h q (.tail _ (.tail _ (.tail _ (.tail _ (.tail _ (.tail _ (.tail _ (.tail _ (.tail _ (.tail _ hq))))))))))
theorem fm_11 {P : Addr × Obj → Prop} {a0 a1 a2 a3 a4 a5 a6 a7 a8 a9 a10 : Addr × Obj} {l : Led} {C : Prop} (h : ∀ q ∈ a0 :: a1 :: a2 :: a3 :: a4 :: a5 :: a6 :: a7 :: a8 :: a9 :: a10 :: l, P q) (k : P a0 → P a1 → P a2 → P a3 → P a4 → P a5 → P a6 → P a7 → P a8 → P a9 → P a10 → (∀ q ∈ l, P q) → C) : C := k (h _ (.head _)) (h _ (.tail _ (.head _))) (h _ (.tail _ (.tail _ (.head _)))) (h _ (.tail _ (.tail _ (.tail _ (.head _))))) (h _ (.tail _ (.tail _ (.tail _ (.tail _ (.head _)))))) (h _ (.tail _ (.tail _ (.tail _ (.tail _ (.tail _ (.head _))))))) (h _ (.tail _ (.tail _ (.tail _ (.tail _ (.tail _ (.tail _ (.head _)))))))) (h _ (.tail _ (.tail _ (.tail _ (.tail _ (.tail _ (.tail _ (.tail _ (.head _))))))))) (h _ (.tail _ (.tail _ (.tail _ (.tail _ (.tail _ (.tail _ (.tail _ (.tail _ (.head _)))))))))) (h _ (.tail _ (.tail _ (.tail _ (.tail _ (.tail _ (.tail _ (.tail _ (.tail _ (.tail _ (.head _))))))))))) (h _ (.tail _ (.tail _ (.tail _ (.tail _ (.tail _ (.tail _ (.tail _ (.tail _ (.tail _ (.tail _ (.head _)))))))))))) fun q hq => h q (.tail _ (.tail _ (.tail _ (.tail _ (.tail _ (.tail _ (.tail _ (.tail _ (.tail _ (.tail _ (.tail _ hq)))))))))))
theorem fm_12 {P : Addr × Obj → Prop} {a0 a1 a2 a3 a4 a5 a6 a7 a8 a9 a10 a11 : Addr × Obj} {l : Led} {C : Prop} (h : ∀ q ∈ a0 :: a1 :: a2 :: a3 :: a4 :: a5 :: a6 :: a7 :: a8 :: a9 :: a10 :: a11 :: l, P q) (k : P a0 → P a1 → P a2 → P a3 → P a4 → P a5 → P a6 → P a7 → P a8 → P a9 → P a10 → P a11 → (∀ q ∈ l, P q) → C) : C := k (h _ (.head _)) (h _ (.tail _ (.head _))) (h _ (.tail _ (.tail _ (.head _)))) (h _ (.tail _ (.tail _ (.tail _ (.head _))))) (h _ (.tail _ (.tail _ (.tail _ (.tail _ (.head _)))))) (h _ (.tail _ (.tail _ (.tail _ (.tail _ (.tail _ (.head _))))))) (h _ (.tail _ (.tail _ (.tail _ (.tail _ (.tail _ (.tail _ (.head _)))))))) (h _ (.tail _ (.tail _ (.tail _ (.tail _ (.tail _ (.tail _ (.tail _ (.head _))))))))) (h _ (.tail _ (.tail _ (.tail _ (.tail _ (.tail _ (.tail _ (.tail _ (.tail _ (.head _)))))))))) (h _ (.tail _ (.tail _ (.tail _ (.tail _ (.tail _ (.tail _ (.tail _ (.tail _ (.tail _ (.head _))))))))))) (h _ (.tail _ (.tail _ (.tail _ (.tail _ (.tail _ (.tail _ (.tail _ (.tail _ (.tail _ (.tail _ (.head _)))))))))))) (h _ (.tail _ (.tail _ (.tail _ (.tail _ (.tail _ (.tail _ (.tail _ (.tail _ (.tail _ (.tail _ (.tail _ (.head _))))))))))))) fun q hq => h q (.tail _ (.tail _ (.tail _ (.tail _ (.tail _ (.tail _ (.tail _ (.tail _ (.tail _ (.tail _ (.tail _ (.tail _ hq))))))))))))
theorem fm_13 {P : Addr × Obj → Prop} {a0 a1 a2 a3 a4 a5 a6 a7 a8 a9 a10 a11 a12 : Addr × Obj} {l : Led} {C : Prop} (h : ∀ q ∈ a0 :: a1 :: a2 :: a3 :: a4 :: a5 :: a6 :: a7 :: a8 :: a9 :: a10 :: a11 :: a12 :: l, P q) (k : P a0 → P a1 → P a2 → P a3 → P a4 → P a5 → P a6 → P a7 → P a8 → P a9 → P a10 → P a11 → P a12 → (∀ q ∈ l, P q) → C) : C := k (h _ (.head _)) (h _ (.tail _ (.head _))) (h _ (.tail _ (.tail _ (.head _)))) (h _ (.tail _ (.tail _ (.tail _ (.head _))))) (h _ (.tail _ (.tail _ (.tail _ (.tail _ (.head _)))))) (h _ (.tail _ (.tail _ (.tail _ (.tail _ (.tail _ (.head _))))))) (h _ (.tail _ (.tail _ (.tail _ (.tail _ (.tail _ (.tail _ (.head _)))))))) (h _ (.tail _ (.tail _ (.tail _ (.tail _ (.tail _ (.tail _ (.tail _ (.head _))))))))) (h _ (.tail _ (.tail _ (.tail _ (.tail _ (.tail _ (.tail _ (.tail _ (.tail _ (.head _)))))))))) (h _ (.tail _ (.tail _ (.tail _ (.tail _ (.tail _ (.tail _ (.tail _ (.tail _ (.tail _ (.head _))))))))))) (h _ (.tail _ (.tail _ (.tail _ (.tail _ (.tail _ (.tail _ (.tail _ (.tail _ (.tail _ (.tail _ (.head _)))))))))))) (h _ (.tail _ (.tail _ (.tail _ (.tail _ (.tail _ (.tail _ (.tail _ (.tail _ (.tail _ (.tail _ (.tail _ (.head _))))))))))))) (h _ (.tail _ (.tail _ (.tail _ (.tail _ (.tail _ (.tail _ (.tail _ (.tail _ (.tail _ (.tail _ (.tail _ (.tail _ (.head _)))))))))))))) fun q hq => h q (.tail _ (.tail _ (.tail _ (.tail _ (.tail _ (.tail _ (.tail _ (.tail _ (.tail _ (.tail _ (.tail _ (.tail _ (.tail _ hq)))))))))))))
theorem fm_14 {P : Addr × Obj → Prop} {a0 a1 a2 a3 a4 a5 a6 a7 a8 a9 a10 a11 a12 a13 : Addr × Obj} {l : Led} {C : Prop} (h : ∀ q ∈ a0 :: a1 :: a2 :: a3 :: a4 :: a5 :: a6 :: a7 :: a8 :: a9 :: a10 :: a11 :: a12 :: a13 :: l, P q) (k : P a0 → P a1 → P a2 → P a3 → P a4 → P a5 → P a6 → P a7 → P a8 → P a9 → P a10 → P a11 → P a12 → P a13 → (∀ q ∈ l, P q) → C) : C := k (h _ (.head _)) (h _ (.tail _ (.head _))) (h _ (.tail _ (.tail _ (.head _)))) (h _ (.tail _ (.tail _ (.tail _ (.head _))))) (h _ (.tail _ (.tail _ (.tail _ (.tail _ (.head _)))))) (h _ (.tail _ (.tail _ (.tail _ (.tail _ (.tail _ (.head _))))))) (h _ (.tail _ (.tail _ (.tail _ (.tail _ (.tail _ (.tail _ (.head _)))))))) (h _ (.tail _ (.tail _ (.tail _ (.tail _ (.tail _ (.tail _ (.tail _ (.head _))))))))) (h _ (.tail _ (.tail _ (.tail _ (.tail _ (.tail _ (.tail _ (.tail _ (.tail _ (.head _)))))))))) (h _ (.tail _ (.tail _ (.tail _ (.tail _ (.tail _ (.tail _ (.tail _ (.tail _ (.tail _ (.head _))))))))))) (h _ (.tail _ (.tail _ (.tail _ (.tail _ (.tail _ (.tail _ (.tail _ (.tail _ (.tail _ (.tail _ (.head _)))))))))))) (h _ (.tail _ (.tail _ (.tail _ (.tail _ (.tail _ (.tail _ (.tail _ (.tail _ (.tail _ (.tail _ (.tail _ (.head _))))))))))))) (h _ (.tail _ (.tail _ (.tail _ (.tail _ (.tail _ (.tail _ (.tail _ (.tail _ (.tail _ (.tail _ (.tail _ (.tail _ (.head _)))))))))))))) (h _ (.tail _ (.tail _ (.tail _ (.tail _ (.tail _ (.tail _ (.tail _ (.tail _ (.tail _ (.tail _ (.tail _ (.tail _ (.tail _ (.head _))))))))))))))) fun q hq => h q (.tail _ (.tail _ (.tail _ (.tail _ (.tail _ (.tail _ (.tail _ (.tail _ (.tail _ (.tail _ (.tail _ (.tail _ (.tail _ (.tail _ hq))))))))))))))
theorem fm_15 {P : Addr × Obj → Prop} {a0 a1 a2 a3 a4 a5 a6 a7 a8 a9 a10 a11 a12 a13 a14 : Addr × Obj} {l : Led} {C : Prop} (h : ∀ q ∈ a0 :: a1 :: a2 :: a3 :: a4 :: a5 :: a6 :: a7 :: a8 :: a9 :: a10 :: a11 :: a12 :: a13 :: a14 :: l, P q) (k : P a0 → P a1 → P a2 → P a3 → P a4 → P a5 → P a6 → P a7 → P a8 → P a9 → P a10 → P a11 → P a12 → P a13 → P a14 → (∀ q ∈ l, P q) → C) : C := k (h _ (.head _)) (h _ (.tail _ (.head _))) (h _ (.tail _ (.tail _ (.head _)))) (h _ (.tail _ (.tail _ (.tail _ (.head _))))) (h _ (.tail _ (.tail _ (.tail _ (.tail _ (.head _)))))) (h _ (.tail _ (.tail _ (.tail _ (.tail _ (.tail _ (.head _))))))) (h _ (.tail _ (.tail _ (.tail _ (.tail _ (.tail _ (.tail _ (.head _)))))))) (h _ (.tail _ (.tail _ (.tail _ (.tail _ (.tail _ (.tail _ (.tail _ (.head _))))))))) (h _ (.tail _ (.tail _ (.tail _ (.tail _ (.tail _ (.tail _ (.tail _ (.tail _ (.head _)))))))))) (h _ (.tail _ (.tail _ (.tail _ (.tail _ (.tail _ (.tail _ (.tail _ (.tail _ (.tail _ (.head _))))))))))) (h _ (.tail _ (.tail _ (.tail _ (.tail _ (.tail _ (.tail _ (.tail _ (.tail _ (.tail _ (.tail _ (.head _)))))))))))) (h _ (.tail _ (.tail _ (.tail _ (.tail _ (.tail _ (.tail _ (.tail _ (.tail _ (.tail _ (.tail _ (.tail _ (.head _))))))))))))) (h _ (.tail _ (.tail _ (.tail _ (.tail _ (.tail _ (.tail _ (.tail _ (.tail _ (.tail _ (.tail _ (.tail _ (.tail _ (.head _)))))))))))))) (h _ (.tail _ (.tail _ (.tail _ (.tail _ (.tail _ (.tail _ (.tail _ (.tail _ (.tail _ (.tail _ (.tail _ (.tail _ (.tail _ (.head _))))))))))))))) (h _ (.tail _ (.tail _ (.tail _ (.tail _ (.tail _ (.tail _ (.tail _ (.tail _ (.tail _ (.tail _ (.tail _ (.tail _ (.tail _ (.tail _ (.head _)))))))))))))))) fun q hq => h q (.tail _ (.tail _ (.tail _ (.tail _ (.tail _ (.tail _ (.tail _ (.tail _ (.tail _ (.tail _ (.tail _ (.tail _ (.tail _ (.tail _ (.tail _ hq)))))))))))))))
theorem fm_16 {P : Addr × Obj → Prop} {a0 a1 a2 a3 a4 a5 a6 a7 a8 a9 a10 a11 a12 a13 a14 a15 : Addr × Obj} {l : Led} {C : Prop} (h : ∀ q ∈ a0 :: a1 :: a2 :: a3 :: a4 :: a5 :: a6 :: a7 :: a8 :: a9 :: a10 :: a11 :: a12 :: a13 :: a14 :: a15 :: l, P q) (k : P a0 → P a1 → P a2 → P a3 → P a4 → P a5 → P a6 → P a7 → P a8 → P a9 → P a10 → P a11 → P a12 → P a13 → P a14 → P a15 → (∀ q ∈ l, P q) → C) : C := k (h _ (.head _)) (h _ (.tail _ (.head _))) (h _ (.tail _ (.tail _ (.head _)))) (h _ (.tail _ (.tail _ (.tail _ (.head _))))) (h _ (.tail _ (.tail _ (.tail _ (.tail _ (.head _)))))) (h _ (.tail _ (.tail _ (.tail _ (.tail _ (.tail _ (.head _))))))) (h _ (.tail _ (.tail _ (.tail _ (.tail _ (.tail _ (.tail _ (.head _)))))))) (h _ (.tail _ (.tail _ (.tail _ (.tail _ (.tail _ (.tail _ (.tail _ (.head _))))))))) (h _ (.tail _ (.tail _ (.tail _ (.tail _ (.tail _ (.tail _ (.tail _ (.tail _ (.head _)))))))))) (h _ (.tail _ (.tail _ (.tail _ (.tail _ (.tail _ (.tail _ (.tail _ (.tail _ (.tail _ (.head _))))))))))) (h _ (.tail _ (.tail _ (.tail _ (.tail _ (.tail _ (.tail _ (.tail _ (.tail _ (.tail _ (.tail _ (.head _)))))))))))) (h _ (.tail _ (.tail _ (.tail _ (.tail _ (.tail _ (.tail _ (.tail _ (.tail _ (.tail _ (.tail _ (.tail _ (.head _))))))))))))) (h _ (.tail _ (.tail _ (.tail _ (.tail _ (.tail _ (.tail _ (.tail _ (.tail _ (.tail _ (.tail _ (.tail _ (.tail _ (.head _)))))))))))))) (h _ (.tail _ (.tail _ (.tail _ (.tail _ (.tail _ (.tail _ (.tail _ (.tail _ (.tail _ (.tail _ (.tail _ (.tail _ (.tail _ (.head _))))))))))))))) (h _ (.tail _ (.tail _ (.tail _ (.tail _ (.tail _ (.tail _ (.tail _ (.tail _ (.tail _ (.tail _ (.tail _ (.tail _ (.tail _ (.tail _ (.head _)))))))))))))))) (h _ (.tail _ (.tail _ (.tail _ (.tail _ (.tail _ (.tail _ (.tail _ (.tail _ (.tail _ (.tail _ (.tail _ (.tail _ (.tail _ (.tail _ (.tail _ (.head _))))))))))))))))) fun q hq => h q (.tail _ (.tail _ (.tail _ (.tail _ (.tail _ (.tail _ (.tail _ (.tail _ (.tail _ (.tail _ (.tail _ (.tail _ (.tail _ (.tail _ (.tail _ (.tail _ hq))))))))))))))))
theorem fd_0 {P : Addr × Obj → Prop} {l : Led} {C : Prop} (_h : ∀ q ∈ l, P q) (k : C) : C := k 
theorem fd_1 {P : Addr × Obj → Prop} {a0 : Addr × Obj} {l : Led} {C : Prop} (h : ∀ q ∈ a0 :: l, P q) (k : P a0 → C) : C := k (h _ (.head _))
theorem fd_2 {P : Addr × Obj → Prop} {a0 a1 : Addr × Obj} {l : Led} {C : Prop} (h : ∀ q ∈ a0 :: a1 :: l, P q) (k : P a0 → P a1 → C) : C := k (h _ (.head _)) (h _ (.tail _ (.head _)))
theorem fd_3 {P : Addr × Obj → Prop} {a0 a1 a2 : Addr × Obj} {l : Led} {C : Prop} (h : ∀ q ∈ a0 :: a1 :: a2 :: l, P q) (k : P a0 → P a1 → P a2 → C) : C := k (h _ (.head _)) (h _ (.tail _ (.head _))) (h _ (.tail _ (.tail _ (.head _))))
theorem fd_4 {P : Addr × Obj → Prop} {a0 a1 a2 a3 : Addr × Obj} {l : Led} {C : Prop} (h : ∀ q ∈ a0 :: a1 :: a2 :: a3 :: l, P q) (k : P a0 → P a1 → P a2 → P a3 → C) : C := k (h _ (.head _)) (h _ (.tail _ (.head _))) (h _ (.tail _ (.tail _ (.head _)))) (h _ (.tail _ (.tail _ (.tail _ (.head _)))))
theorem fd_5 {P : Addr × Obj → Prop} {a0 a1 a2 a3 a4 : Addr × Obj} {l : Led} {C : Prop} (h : ∀ q ∈ a0 :: a1 :: a2 :: a3 :: a4 :: l, P q) (k : P a0 → P a1 → P a2 → P a3 → P a4 → C) : C := k (h _ (.head _)) (h _ (.tail _ (.head _))) (h _ (.tail _ (.tail _ (.head _)))) (h _ (.tail _ (.tail _ (.tail _ (.head _))))) (h _ (.tail _ (.tail _ (.tail _ (.tail _ (.head _))))))
theorem fd_6 {P : Addr × Obj → Prop} {a0 a1 a2 a3 a4 a5 : Addr × Obj} {l : Led} {C : Prop} (h : ∀ q ∈ a0 :: a1 :: a2 :: a3 :: a4 :: a5 :: l, P q) (k : P a0 → P a1 → P a2 → P a3 → P a4 → P a5 → C) : C := k (h _ (.head _)) (h _ (.tail _ (.head _))) (h _ (.tail _ (.tail _ (.head _)))) (h _ (.tail _ (.tail _ (.tail _ (.head _))))) (h _ (.tail _ (.tail _ (.tail _ (.tail _ (.head _)))))) (h _ (.tail _ (.tail _ (.tail _ (.tail _ (.tail _ (.head _)))))))
theorem fd_7 {P : Addr × Obj → Prop} {a0 a1 a2 a3 a4 a5 a6 : Addr × Obj} {l : Led} {C : Prop} (h : ∀ q ∈ a0 :: a1 :: a2 :: a3 :: a4 :: a5 :: a6 :: l, P q) (k : P a0 → P a1 → P a2 → P a3 → P a4 → P a5 → P a6 → C) : C := k (h _ (.head _)) (h _ (.tail _ (.head _))) (h _ (.tail _ (.tail _ (.head _)))) (h _ (.tail _ (.tail _ (.tail _ (.head _))))) (h _ (.tail _ (.tail _ (.tail _ (.tail _ (.head _)))))) (h _ (.tail _ (.tail _ (.tail _ (.tail _ (.tail _ (.head _))))))) (h _ (.tail _ (.tail _ (.tail _ (.tail _ (.tail _ (.tail _ (.head _))))))))
/-! small side proofs, in place of omega -/
theorem rmU {d n R x : Nat} (c : Nat) (h : d + n < R) (e : x = d + c) (k : Nat.ble c n = true) : x < R := by have := Nat.le_of_ble_eq_true k; omega
theorem umU {u N M C p : Nat} (c : Nat) (h : u + N + 100 < C) (e : p = u + c) (k : Nat.ble (c + M) N = true) : p + M + 100 < C := by have := Nat.le_of_ble_eq_true k; omega
theorem umV {u N C p : Nat} (c : Nat) (h : u + N + 100 < C) (e : p = u + c) (k : Nat.ble (c + 64) (N + 100) = true) : p + 64 < C := by have := Nat.le_of_ble_eq_true k; omega
theorem ltM {l : Led} {T a : Addr} {o : Obj} (h : ∀ p ∈ l, p.1 < T) (m : List.Mem (a, o) l) : a < T := h _ m
theorem ltB {a b : Nat} (k : Nat.ble (a + 1) b = true) : a < b := Nat.le_of_ble_eq_true k
theorem ltT {l : Led} {T b a : Addr} {o : Obj} (e : T < b) (h : ∀ p ∈ l, p.1 < T) (m : List.Mem (a, o) l) : a < b := Nat.lt_trans (h _ m) e
theorem neS2 {a b : Nat} (h : b < a) : a + 1 + 1 ≠ b := by omega
theorem neT2 {a b : Nat} (h : b < a) : b ≠ a + 1 + 1 := by omega
theorem neS3 {a b : Nat} (h : b < a) : a + 1 + 1 + 1 ≠ b := by omega
theorem neT3 {a b : Nat} (h : b < a) : b ≠ a + 1 + 1 + 1 := by omega
theorem neM {l : Led} {T a : Addr} {o : Obj} (h : ∀ p ∈ l, p.1 ≠ T) (m : List.Mem (a, o) l) : a ≠ T := h _ m
theorem neN {l : Led} {T a : Addr} {o : Obj} (h : ∀ p ∈ l, p.1 ≠ T) (m : List.Mem (a, o) l) : T ≠ a := (h _ m).symm
theorem i0_1 {k : Int} (h : 0 ≤ k) : 0 ≤ k + 1 := by omega
theorem i0_2 {k : Int} (h : 0 ≤ k) : 0 ≤ k + 1 + 1 := by omega
theorem i0_3 {k : Int} (h : 0 ≤ k) : 0 ≤ k + 1 + 1 + 1 := by omega
theorem il_0 {k a b : Int} (h : k ≤ a) (e : a < b) : k < b := by omega
theorem il_1 {k a b : Int} (h : k ≤ a) (e : a + 1 < b) : k + 1 < b := by omega
theorem il_2 {k a b : Int} (h : k ≤ a) (e : a + 2 < b) : k + 1 + 1 < b := by omega
theorem il_3 {k a b : Int} (h : k ≤ a) (e : a + 3 < b) : k + 1 + 1 + 1 < b := by omega
theorem ia_3 {k : Int} : k ≤ k + 1 + 1 + 1 := by omega
theorem ia_5 {k : Int} : k + 1 + 1 + 1 ≤ k + 5 := by omega
theorem ic_0 {n : Nat} : (0 : Int) ≤ (n : Int) := Int.natCast_nonneg n
theorem eqB {n a m : Nat} (e : n = a) (h : a ≤ m) : n ≤ m := e ▸ h
theorem nc12 {a : Nat} : a + 1 ≠ a + 1 + 1 := by omega
theorem nc21 {a : Nat} : a + 1 + 1 ≠ a + 1 := by omega
theorem nc13 {a : Nat} : a + 1 ≠ a + 1 + 1 + 1 := by omega
theorem nc31 {a : Nat} : a + 1 + 1 + 1 ≠ a + 1 := by omega
theorem nc23 {a : Nat} : a + 1 + 1 ≠ a + 1 + 1 + 1 := by omega
theorem nc32 {a : Nat} : a + 1 + 1 + 1 ≠ a + 1 + 1 := by omega
theorem leB {n m k : Nat} (h : n ≤ m) (e : Nat.ble m k = true) : n ≤ k := Nat.le_trans h (Nat.le_of_ble_eq_true e)
theorem leS {n m k : Nat} (h : n < m) (e : Nat.ble m (k + 1) = true) : n ≤ k := by have := Nat.le_of_ble_eq_true e; omega
theorem ltL {n m k : Nat} (h : n ≤ m) (e : Nat.ble (m + 1) k = true) : n < k := by have := Nat.le_of_ble_eq_true e; omega
theorem neG {a b : Nat} (h : b < a) : a ≠ b := Nat.ne_of_gt h
theorem neL {a b : Nat} (h : a < b) : a ≠ b := Nat.ne_of_lt h
theorem neS {a b : Nat} (h : b < a) : a + 1 ≠ b := by omega
theorem neT {a b : Nat} (h : b < a) : b ≠ a + 1 := by omega
section
open PyProof.Rows.LCg
abbrev tupO (vs : List Value) (n : Nat) : Obj := { cls := .type "tuple", data := .seq vs.toArray n }
section
variable {prog : Program} {w : World} {A : Around} {E : Value → Shared → Prop} {s : Shared} {h₀ : Heap} {L : Addr} {m : Str → Option Value} {env : Env}
/-- one turn of a comprehension over a tuple of pairs, with a test: what the test and the element must do -/
def PairTurn (prog : Program) (w : World) (A : Around) (h₀ : Heap) (L : Addr) (m : Str → Option Value) (env : Env) (c elt : PySem.Expr) (a b : Str) (scope : Scope) (cl : List (Str × Addr)) (s : Shared) (Inv : Nat → List Value → Led → Prop) (i : Nat) (v₁ v₂ : Value) (ys : List Value) (nw : Led) : Prop :=
  ∀ I oI C oC D m₂ h tk (E' : Value → Shared → Prop), NsObj oC m₂ → m₂ a = some v₁ → m₂ b = some v₂ → Fr h₀ L h m → News h₀ L h ((I, oI) :: (C, oC) :: (D, lst ys) :: nw) → Off3 I C D nw → ((@Ne Nat I C) ∧ (@Ne Nat I D) ∧ (@Ne Nat C D)) →
    wpAny (model prog w) A (isTrue c (compEnvC scope cl C env) (eval c (compEnvC scope cl C env))) (fun okb s₃ => if okb = true then
      wpAny (model prog w) A (eval elt (compEnvC scope cl C env)) (CompEnd h₀ L m { s with heap := h, toks := tk } I oI C oC D (lst ys) (fun _ => True) (fun y nw' => Inv (i + 1) (ys ++ [y]) nw')) E' s₃
      else CompEnd h₀ L m { s with heap := h, toks := tk } I oI C oC D (lst ys) (fun _ => True) (fun _ nw' => Inv (i + 1) ys nw') .none s₃) E' { s with heap := h, toks := tk }
/-- a tuple of pairs in the ledger as a comprehension's source -/
def PairSrc (prog : Program) (w : World) (A : Around) (h₀ : Heap) (L : Addr) (m : Str → Option Value) (env : Env) (c elt : PySem.Expr) (a b : Str) (scope : Scope) (cl : List (Str × Addr)) (Q : Value → Shared → Prop) (xv : Value) (s₁ : Shared) : Prop :=
  ∃ (ax : Addr) (its : Array Value) (news : Led) (Inv : Nat → List Value → Led → Prop), xv = .ref ax ∧ A.handled = none ∧ Fr h₀ L s₁.heap m ∧ News h₀ L s₁.heap news ∧ its.size ≤ sizeLine ∧
    (∀ i ys nw, Inv i ys nw → ∃ n, (ax, ({ cls := .type "tuple", data := .seq its n } : Obj)) ∈ nw) ∧ Inv 0 [] news ∧
    (∀ i v ys nw, its[i]? = some v → Inv i ys nw → ∃ t v₁ v₂ n, v = .ref t ∧ (t, tupO [v₁, v₂] n) ∈ nw ∧ PairTurn prog w A h₀ L m env c elt a b scope cl s₁ Inv i v₁ v₂ ys nw) ∧
    (∀ D h tk ys nw, Inv its.size ys nw → Fr h₀ L h m → News h₀ L h ((D, lst ys) :: nw) → Off1 D nw → Q (.ref D) { s₁ with heap := h, toks := tk })
end
/-- three addresses of a comprehension under way (iterator, cells, list): apart from each other and from the caller's names, none of them old -/
structure Spot (h₀ : Heap) (L I C D : Addr) : Prop where
  ic : I ≠ C
  id : I ≠ D
  cd : C ≠ D
  li : L ≠ I
  lc : L ≠ C
  ld : L ≠ D
  i0 : h₀.get? I = none
  c0 : h₀.get? C = none
  d0 : h₀.get? D = none
/-- what holds at the head of turn i, with ys collected and the ledger nw -/
structure Head (h₀ : Heap) (L : Addr) (m : Str → Option Value) (I C D ax : Addr) (its : Array Value) (Inv : Nat → List Value → Led → Prop) (i : Nat) (ys : List Value) (nw : Led) (h : Heap) : Prop where
  le : i ≤ its.size
  few : ys.length ≤ i
  iter : h.IsTupleIter I ax i
  cells : ∃ q, h.Ns C q
  fr : Fr h₀ L h m
  led : News h₀ L h ((D, lst ys) :: nw)
  off : Off3 I C D nw
  inv : Inv i ys nw
section
variable {prog : Program} {w : World} {A : Around} {E : Value → Shared → Prop} {s : Shared} {h₀ h h' : Heap} {L I C D ax : Addr} {m q : Str → Option Value} {env : Env} {its : Array Value} {Inv : Nat → List Value → Led → Prop} {i : Nat} {ys : List Value} {y : Value} {nw : Led} {oI oC : Obj}
/-- the next head, out of the three entries and the ledger -/
theorem Head.of (hI : ∀ g : Heap, g.get? I = some oI → g.IsTupleIter I ax i) (hC : NsObj oC q) (le : i ≤ its.size) (few : ys.length ≤ i) (F : Fr h₀ L h m) (N : News h₀ L h ((I, oI) :: (C, oC) :: (D, lst ys) :: nw)) (off : Off3 I C D nw) (inv : Inv i ys nw) : Head h₀ L m I C D ax its Inv i ys nw h where
  le := le
  few := few
  iter := hI h (N (I, oI) (.head _)).1
  cells := ⟨q, hC.ns (N (C, oC) (.tail _ (.head _))).1⟩
  fr := F
  led := fun p hp => N p (.tail _ (.tail _ hp))
  off := off
  inv := inv
theorem mem_turn {α : Type} {a b c p : α} {l : List α} (h : p ∈ a :: b :: c :: l) : p ∈ c :: a :: b :: l := by
  simp only [List.mem_cons] at h ⊢
  rcases h with h | h | h | h <;> simp [h]
/-- one value more in the list: the other entries stay -/
theorem led_push (sp : Spot h₀ L I C D) (N : News h₀ L h ((I, oI) :: (C, oC) :: (D, lst ys) :: nw)) (off : Off3 I C D nw) (hs : Heap.SameBut D h h') (hD : h'.get? D = some (lst (ys ++ [y]))) : News h₀ L h' ((I, oI) :: (C, oC) :: (D, lst (ys ++ [y])) :: nw) := by
  have N' : News h₀ L h ((D, lst ys) :: (I, oI) :: (C, oC) :: nw) := fun p hp => N p (mem_turn (mem_turn hp))
  have ap : ∀ p ∈ (I, oI) :: (C, oC) :: nw, p.1 ≠ D := List.forall_mem_cons.mpr ⟨sp.id, List.forall_mem_cons.mpr ⟨sp.cd, fun p hp => (off.mem p hp).2.2⟩⟩
  exact fun p hp => N'.setHead ap hs hD p (mem_turn hp)
/-- the loop of a comprehension over a tuple of pairs, with a test -/
theorem pc_loop {c elt iter : PySem.Expr} {a b : Str} {pa pb tp pos : Pos} {kk : Nat} {scope : Scope} {cl : List (Str × Addr)} {R : Result → Shared → Prop} {tk : Nat}
    (hh : A.handled = none) (sp : Spot h₀ L I C D) (hne : ax ≠ I) (hsz : its.size ≤ sizeLine) (hsrc : ∀ i ys nw, Inv i ys nw → ∃ n, (ax, ({ cls := .type "tuple", data := .seq its n } : Obj)) ∈ nw)
    (hkind : scope.kind = .function) (hxa : scope.names.lookup a = some .local) (hxb : scope.names.lookup b = some .local) (hab : ¬ a = b)
    (item : ∀ i v ys nw, its[i]? = some v → Inv i ys nw → ∃ t v₁ v₂ n, v = .ref t ∧ (t, tupO [v₁, v₂] n) ∈ nw ∧ PairTurn prog w A h₀ L m env c elt a b scope cl s Inv i v₁ v₂ ys nw)
    (out : ∀ h tk ys nw, Fr h₀ L h m → News h₀ L h ((D, lst ys) :: nw) → Off3 I C D nw → (∃ q, h.Ns C q) → Inv its.size ys nw → R (.ok .next) { s with heap := h, toks := tk })
    (st : Head h₀ L m I C D ax its Inv 0 [] nw h) :
    codeAny (model prog w) A (.compLoop (.ListComp elt [⟨.Tuple [.Name a pa, .Name b pb] kk tp, iter, [c], 0⟩] scope pos) 0 (.ref I) (.ref D) (compEnvC scope cl C env)) R { s with heap := h, toks := tk } := by
  have W := Walks.tuple (prog := prog) (w := w) hh I ax hne its
  refine kct_loop (fun k z => ∃ h tk i ys nw, z = { s with heap := h, toks := tk } ∧ k + i = its.size + 1 ∧ Head h₀ L m I C D ax its Inv i ys nw h) ?_ (its.size + 1) ⟨h, tk, 0, [], nw, rfl, rfl, st⟩
  rintro k _ ⟨h, tk, i, ys, nw, rfl, hk, st⟩
  obtain ⟨n, hax⟩ := hsrc i ys nw st.inv
  have tup : h.IsTuple ax its := ⟨_, (st.led _ (.tail _ hax)).1, rfl, n, rfl⟩
  have offI : ∀ p ∈ (D, lst ys) :: nw, p.1 ≠ I := List.forall_mem_cons.mpr ⟨sp.id.symm, fun p hp => (st.off.mem p hp).1⟩
  have offC : ∀ p ∈ (D, lst ys) :: nw, p.1 ≠ C := List.forall_mem_cons.mpr ⟨sp.cd.symm, fun p hp => (st.off.mem p hp).2.1⟩
  obtain ⟨q, hq⟩ := st.cells
  rcases Nat.lt_or_eq_of_le st.le with lt | rfl
  · refine W.item i _ _ _ lt ⟨st.iter, tup⟩ fun v g tg hv sg kg => ?_
    obtain ⟨t, v₁, v₂, n, rfl, ht, T⟩ := item i v ys nw hv st.inv
    have Ng := news_but st.led kg offI
    have qg : g.Ns C q := hq.at' fun o e => kg C o (by simpa using sp.ic.symm) e
    refine letGo_tupleiter sg.1 ?_
    refine kcp_assign (env := compEnvC scope cl C env) hh ⟨_, (Ng _ (.tail _ ht)).1, rfl, n, rfl⟩ (lookup_relabel_local hxa) (lookup_relabel_local hxb) (by simp [compEnvC, relabel, hkind]) qg fun f tf nf kf' => ?_
    have kf : ∀ b o, b ∉ [C] → g.get? b = some o → f.get? b = some o := fun b o hb => kf' b o fun e => hb (List.mem_singleton.mpr e)
    obtain ⟨oI, eI, hI⟩ := sg.1
    obtain ⟨oC, eC, hC⟩ := ns_obj nf
    have Nf : News h₀ L f ((I, oI) :: (C, oC) :: (D, lst ys) :: nw) := List.forall_mem_cons.mpr ⟨⟨kf I oI (by simpa using sp.ic) eI, sp.li.symm, sp.i0⟩, List.forall_mem_cons.mpr ⟨⟨eC, sp.lc.symm, sp.c0⟩, news_but Ng kf offC⟩⟩
    have again : ∀ ys' h' tk' nw', ys'.length ≤ i + 1 → Fr h₀ L h' m → News h₀ L h' ((I, oI) :: (C, oC) :: (D, lst ys') :: nw') → Off3 I C D nw' → Inv (i + 1) ys' nw' →
        ∃ k', k' < k ∧ ∃ h tk i ys nw, ({ s with heap := h', toks := tk' } : Shared) = { s with heap := h, toks := tk } ∧ k' + i = its.size + 1 ∧ Head h₀ L m I C D ax its Inv i ys nw h :=
      fun ys' h' tk' nw' few F N off inv => ⟨k - 1, by omega, h', tk', i + 1, ys', nw', rfl, by omega, Head.of (fun _ e => ⟨oI, e, hI⟩) hC lt few F N off inv⟩
    refine wpAny_mono (T I oI C oC D _ f tf _ hC (by simp [hab]) (by simp) (fr_but (fr_but st.fr kg sp.li sp.i0) kf sp.lc sp.c0) Nf st.off ⟨sp.ic, sp.id, sp.cd⟩) (fun yes z hz => ?_) fun _ _ e => e
    cases yes
    · obtain ⟨h', tk', nw', rfl, F, N, off, _, inv⟩ := hz
      exact again ys h' tk' nw' (Nat.le_succ_of_le st.few) F N off inv
    · refine wpAny_mono hz (fun y z hy => ?_) fun _ _ e => e
      obtain ⟨h', tk', nw', rfl, F, N, off, _, inv⟩ := hy
      refine append_at (its := ys.toArray) (n := ys.length) (N (D, lst ys) (.tail _ (.tail _ (.head _)))).1 (fun h'' same e => ?_) (Nat.le_trans st.few (Nat.le_trans st.le hsz))
      rw [lst_snoc] at e
      exact again (ys ++ [y]) h'' tk' nw' (by have := st.few; simp only [List.length_append, List.length_singleton]; omega) (F.change same sp.ld.symm sp.d0) (led_push sp N off same e) off inv
  · refine W.done _ _ _ ⟨st.iter, tup⟩ fun g tg kg => ?_
    exact out g tg ys nw (fr_but st.fr kg sp.li sp.i0) (news_but st.led kg offI) st.off ⟨q, hq.at' fun o e => kg C o (by simpa using sp.ic.symm) e⟩ st.inv
/-- the list at D and the cells at C, made behind all that was there -/
theorem made {g : Heap} {news : Led} (hD : D = h.objs.size) (hC : C = D + 1) (F : Fr h₀ L h m) (N : News h₀ L h news) (it : h.IsTupleIter I ax 0) (li : L ≠ I) (i0 : h₀.get? I = none) (off : ∀ p ∈ news, p.1 ≠ I)
    (up : ∀ b o, h.get? b = some o → g.get? b = some o) (acc : g.get? D = some (lst [])) (ns : g.Ns C q) (inv : Inv 0 [] news) : Spot h₀ L I C D ∧ Head h₀ L m I C D ax its Inv 0 [] news g := by
  have ltD : ∀ b, b < h.objs.size → b ≠ D := fun b hb => hD ▸ Nat.ne_of_lt hb
  have ltC : ∀ b, b < h.objs.size → b ≠ C := fun b hb => hC ▸ hD ▸ Nat.ne_of_lt (Nat.lt_succ_of_lt hb)
  have new : ∀ b, h.objs.size ≤ b → h₀.get? b = none := fun b hb => Option.eq_none_iff_forall_ne_some.mpr fun o e => Nat.not_lt.mpr hb (Heap.lt_size (F.keep b o e))
  have bI : I < h.objs.size := by obtain ⟨_, e, _⟩ := it; exact Heap.lt_size e
  have bN : ∀ p ∈ news, p.1 < h.objs.size := fun p hp => Heap.lt_size (N p hp).1
  have sp : Spot h₀ L I C D :=
    { ic := ltC _ bI, id := ltD _ bI, cd := hC ▸ Nat.succ_ne_self D, li := li, lc := ltC _ F.ns.lt, ld := ltD _ F.ns.lt, i0 := i0
      c0 := new _ (hC ▸ hD ▸ Nat.le_succ _), d0 := new _ (Nat.le_of_eq hD.symm) }
  refine ⟨sp, ⟨Nat.zero_le _, Nat.le_refl _, ?_, ⟨q, ns⟩, F.keeps up, List.forall_mem_cons.mpr ⟨⟨acc, sp.ld.symm, sp.d0⟩, N.grown up⟩, Off3.of fun p hp => ⟨off p hp, ltC _ (bN p hp), ltD _ (bN p hp)⟩, inv⟩⟩
  obtain ⟨o, e, r⟩ := it
  exact ⟨o, up _ _ e, r⟩
/-- the cells are given back: names and ledger stay -/
theorem left_cells {g : Heap} (cl : C ≠ L) (c0 : h₀.get? C = none) (cd : C ≠ D) (F : Fr h₀ L h m) (N : News h₀ L h ((D, lst ys) :: nw)) (off : ∀ p ∈ nw, p.1 ≠ C) (same : Heap.SameBut C h g) : Fr h₀ L g m ∧ News h₀ L g ((D, lst ys) :: nw) :=
  ⟨F.change same cl c0, fun p hp => ⟨(same.2 p.1 ((List.mem_cons.mp hp).elim (fun e => e ▸ cd.symm) (off p))).trans (N p hp).1, (N p hp).2⟩⟩
theorem pc_ListComp {elt iter c : PySem.Expr} {a b : Str} {pa pb tp : Pos} {kk : Nat} {scope : Scope} {cl : List (Str × Addr)} {pos : Pos} {Q : Value → Shared → Prop} (_F₀ : Fr h₀ L s.heap m)
    (hclos : closureFor scope env = pure cl) (hcell : ∀ y ∈ scope.names, y.2 ≠ .cell) (hkind : scope.kind = .function)
    (hnames : ∀ y ∈ scope.names, y.2 = .local → scope.names.lookup y.1 = some .local) (hxa : scope.names.lookup a = some .local) (hxb : scope.names.lookup b = some .local) (hab : ¬ a = b)
    (h : wpAny (model prog w) A (eval iter env) (PairSrc prog w A h₀ L m env c elt a b scope cl Q) E s)
    (hs : ∀ x, foldedSetIterable iter env x = pure x := by intro _; rfl) :
    wpAny (model prog w) A (eval (.ListComp elt [⟨.Tuple [.Name a pa, .Name b pb] kk tp, iter, [c], 0⟩] scope pos) env) Q E s := by
  rw [eval_ListComp]
  refine wpAny_comprehension_free (use := none) rfl hs hclos hkind hnames (wpAny_mono h (fun v z hz => ?_) fun _ _ e => e)
  obtain ⟨ax, its, news, Inv, rfl, hh, F, N, hsz, hsrc, inv, item, fin⟩ := hz
  obtain ⟨n, hax⟩ := hsrc 0 [] news inv
  have eax := (N _ hax).1
  refine wpAny_pyIter_tuple ⟨_, eax, rfl, n, rfl⟩ ?_
  refine wpAny_newObj_type (wpAny_newFunctionEnv hcell (fun _ hy => absurd hy List.not_mem_nil) (fun g ns same => ?_) hkind)
  dsimp only at ns same ⊢
  generalize hH : z.heap.push { cls := .type "tuple_iterator", data := .fields #[.ref ax, .int 0 0] } = H at ns same ⊢
  generalize hG : H.push { cls := .type "list", data := .seq #[] } = G at ns same ⊢
  have eC : G.objs.size = H.objs.size + 1 := by rw [← hG, Heap.size_push]
  have upH : ∀ b o, z.heap.get? b = some o → H.get? b = some o := fun b o e => hH ▸ Heap.get?_push_of_some _ e
  have upg : ∀ b o, b ≠ G.objs.size → G.get? b = some o → g.get? b = some o := fun b o ne e => same.extBut b o ne (Heap.get?_push_of_some _ e)
  have up : ∀ b o, H.get? b = some o → g.get? b = some o := fun b o e => upg b o (Nat.ne_of_lt (eC ▸ Nat.lt_succ_of_lt (Heap.lt_size e))) (hG ▸ Heap.get?_push_of_some _ e)
  have acc : g.get? H.objs.size = some (lst []) := upg _ _ (Nat.ne_of_lt (eC ▸ Nat.lt_succ_self _)) (hG ▸ Heap.get?_push_size _ rfl)
  have it : H.IsTupleIter z.heap.objs.size ax 0 := hH ▸ ⟨_, Heap.get?_push_size _ rfl, rfl, rfl⟩
  obtain ⟨sp, st⟩ := made (its := its) rfl eC (F.keeps upH) (N.grown upH) it (Nat.ne_of_lt F.ns.lt) (next_is_new F) (fun p hp => Nat.ne_of_lt (Heap.lt_size (N p hp).1)) up acc ns inv
  have loop : ∀ tk, codeAny (model prog w) A (.compLoop (.ListComp elt [⟨.Tuple [.Name a pa, .Name b pb] kk tp, iter, [c], 0⟩] scope pos) 0 (.ref z.heap.objs.size) (.ref H.objs.size) (compEnvC scope cl G.objs.size env))
      (compPost (model prog w) A E none Q (.ref H.objs.size) G.objs.size) { z with heap := g, toks := tk } := fun tk =>
    pc_loop hh sp (Nat.ne_of_lt (Heap.lt_size eax)) hsz hsrc hkind hxa hxb hab item (fun h' tk ys nw F' N' off ⟨q, hq⟩ hi => ⟨q, hq, fun f same => by
      obtain ⟨F₂, N₂⟩ := left_cells sp.lc.symm sp.c0 sp.cd F' N' (fun p hp => (off.mem p hp).2.1) same
      exact fin _ f tk ys nw hi F₂ N₂ off.one⟩) st
  exact codeAny_compStart_list (loop _) (wpAny_pyIter_tupleiter st.iter (loop _))
end
/-! domains: tuples of pairs of ints -/
abbrev Dom := List (Int × Int)
def ivD (p : Int × Int) : Dat := .tuple [.int p.1, .int p.2]
def domD (d : Dom) : Dat := .tuple (d.map ivD)
theorem datIn_iv {r : Led} {v : Value} {p : Int × Int} (h : DatIn r v (ivD p)) : ∃ a n t₁ t₂, v = .ref a ∧ (a, tupO [.int p.1 t₁, .int p.2 t₂] n) ∈ r := by
  cases h with
  | tuple hm hr =>
    cases hr with
    | cons h1 hr =>
      cases h1
      cases hr with
      | cons h2 hr =>
        cases h2
        cases hr
        exact ⟨_, _, _, _, rfl, hm⟩
theorem datIn_tuple {r : Led} {a : Addr} {ds : List Dat} (h : DatIn r (.ref a) (.tuple ds)) : ∃ vs n, (a, tupO vs n) ∈ r ∧ DatAll r vs ds := by
  cases h with
  | tuple hm hr => exact ⟨_, _, hm, hr⟩
theorem datAll_get {r : Led} {vs : List Value} {ds : List Dat} (h : DatAll r vs ds) {i : Nat} {v : Value} (hv : vs[i]? = some v) : ∃ d, ds[i]? = some d ∧ DatIn r v d := by
  have hi : i < ds.length := by
    have := (List.getElem?_eq_some_iff.mp hv).1
    rw [h.length] at this
    exact this
  obtain ⟨v', e, hd⟩ := h.get hi
  rw [hv] at e
  cases e
  exact ⟨_, List.getElem?_eq_getElem hi, hd⟩
def ElEnd (h₀ : Heap) (L : Addr) (m : Str → Option Value) (s₁ : Shared) (I : Addr) (oI : Obj) (C : Addr) (oC : Obj) (D : Addr) (oD : Obj) (ct : Addr) (co : Obj) (tl news rest : Led) (b : Prop) (d : Dat) (y : Value) (s₂ : Shared) : Prop :=
  b ∧ ∃ h' tk T o, s₂ = { s₁ with heap := h', toks := tk } ∧ Fr h₀ L h' m ∧ News h₀ L h' ((I, oI) :: (C, oC) :: (D, oD) :: (T, o) :: (ct, co) :: (tl ++ news)) ∧ (T ≠ I ∧ T ≠ C ∧ T ≠ D ∧ T ≠ ct) ∧ (∀ q ∈ tl ++ news, q.1 ≠ T) ∧ y = .ref T ∧ DatIn ((T, o) :: rest) y d
def SkEnd (h₀ : Heap) (L : Addr) (m : Str → Option Value) (s₁ : Shared) (I : Addr) (oI : Obj) (C : Addr) (oC : Obj) (D : Addr) (oD : Obj) (ct : Addr) (co : Obj) (tl news : Led) (b : Prop) (s₂ : Shared) : Prop :=
  b ∧ ∃ h' tk, s₂ = { s₁ with heap := h', toks := tk } ∧ Fr h₀ L h' m ∧ News h₀ L h' ((I, oI) :: (C, oC) :: (D, oD) :: (ct, co) :: (tl ++ news))
section
variable {prog : Program} {w : World} {A : Around} {E : Value → Shared → Prop} {s : Shared} {h₀ : Heap} {L : Addr} {m : Str → Option Value} {env : Env}
/-- a comprehension over a domain that tests each pair and makes a pair of it; the block closes over one cell -/
theorem dom_src {c elt : PySem.Expr} {a b : Str} {scope : Scope} {cl : List (Str × Addr)} {Q : Value → Shared → Prop} {da ct : Addr} {co : Obj} {d : Dom} {news rest : Led} (P : Int × Int → Bool) (f : Int × Int → Dat)
    (hh : A.handled = none) (F : Fr h₀ L s.heap m) (N : News h₀ L s.heap ((ct, co) :: news)) (D₀ : DatIn rest (.ref da) (domD d)) (hs : ∀ p ∈ rest, p ∈ news) (hlen : d.length ≤ 1000)
    (turn : ∀ (p : Int × Int) t₁ t₂ tl ys I oI C oC D m₂ h tk (E' : Value → Shared → Prop), p ∈ d → NsObj oC m₂ → m₂ a = some (.int p.1 t₁) → m₂ b = some (.int p.2 t₂) → Fr h₀ L h m →
      News h₀ L h ((I, oI) :: (C, oC) :: (D, lst ys) :: (ct, co) :: (tl ++ news)) → ((@Ne Nat I C) ∧ (@Ne Nat I D) ∧ (@Ne Nat C D)) → ((@Ne Nat ct I) ∧ (@Ne Nat ct C) ∧ (@Ne Nat ct D)) →
      wpAny (model prog w) A (isTrue c (compEnvC scope cl C env) (eval c (compEnvC scope cl C env))) (fun okb s₃ => if okb = true then
        wpAny (model prog w) A (eval elt (compEnvC scope cl C env)) (ElEnd h₀ L m { s with heap := h, toks := tk } I oI C oC D (lst ys) ct co tl news rest (P p = true) (f p)) E' s₃
        else SkEnd h₀ L m { s with heap := h, toks := tk } I oI C oC D (lst ys) ct co tl news (P p = false) s₃) E' { s with heap := h, toks := tk })
    (fin : ∀ D h tk tl ys, Fr h₀ L h m → News h₀ L h ((D, lst ys) :: (ct, co) :: (tl ++ news)) → (∀ p ∈ tl, ∀ q ∈ news, p.1 ≠ q.1) → (@Ne Nat ct D) → (∀ q ∈ tl ++ news, q.1 ≠ D) → ys.length ≤ 1000 → DatAll (tl ++ rest) ys ((d.filter P).map f) → Q (.ref D) { s with heap := h, toks := tk }) :
    PairSrc prog w A h₀ L m env c elt a b scope cl Q (.ref da) s := by
  obtain ⟨vs, n, hm, hall⟩ := datIn_tuple D₀
  have hvl : vs.length = d.length := by have := hall.length; rwa [List.length_map] at this
  refine ⟨da, vs.toArray, (ct, co) :: news, fun i ys nw => ∃ tl, nw = (ct, co) :: (tl ++ news) ∧ (∀ p ∈ tl, ∀ q ∈ news, p.1 ≠ q.1) ∧ ys.length ≤ i ∧ DatAll (tl ++ rest) ys (((d.take i).filter P).map f), rfl, hh, F, N, ?_, ?_, ?_, ?_, ?_⟩
  · rw [List.size_toArray, hvl]
    exact Nat.le_trans hlen (by rw [sizeLine_eq]; decide)
  · rintro i ys nw ⟨tl, rfl, _⟩
    exact ⟨n, List.mem_cons_of_mem _ (List.mem_append.mpr (.inr (hs _ hm)))⟩
  · exact ⟨[], rfl, fun _ h => absurd h List.not_mem_nil, Nat.le_refl _, DatAll.nil⟩
  · rintro i v ys nw hv ⟨tl, rfl, hfr, hyl, hys⟩
    have hv' : vs[i]? = some v := by simpa using hv
    obtain ⟨dd, hd, hdat⟩ := datAll_get hall hv'
    rw [List.getElem?_map] at hd
    obtain ⟨p, hp, rfl⟩ := Option.map_eq_some_iff.mp hd
    obtain ⟨t, k, t₁, t₂, rfl, hmt⟩ := datIn_iv hdat
    refine ⟨t, .int p.1 t₁, .int p.2 t₂, k, rfl, List.mem_cons_of_mem _ (List.mem_append.mpr (.inr (hs _ hmt))), ?_⟩
    have htake : d.take (i + 1) = d.take i ++ [p] := by rw [List.take_add_one, hp]; rfl
    intro I oI C oC D m₂ h tk E' hC ha hb F' N' off ne
    have off3 := off.mem
    have hc := off3 (ct, co) (.head _)
    refine wpAny_mono (turn p t₁ t₂ tl ys I oI C oC D m₂ h tk E' (List.mem_of_getElem? hp) hC ha hb F' N' ne hc) (fun okb s₃ h₃ => ?_) fun _ _ e => e
    cases okb with
    | true =>
      simp only [if_true] at h₃ ⊢
      refine wpAny_mono h₃ (fun y s₄ h₄ => ?_) fun _ _ e => e
      obtain ⟨hP, h', tk', T, o, rfl, F₄, N₄, ⟨hI, hC', hD, hT⟩, hn, rfl, hd⟩ := h₄
      have e9 : (((d.take (i + 1)).filter P).map f) = (((d.take i).filter P).map f) ++ [f p] := by rw [htake]; simp [List.filter_append, hP]
      refine ⟨h', tk', (ct, co) :: (((T, o) :: tl) ++ news), rfl, F₄, ?_, ?_, trivial, (T, o) :: tl, rfl, ?_, by rw [List.length_append, List.length_singleton]; exact Nat.succ_le_succ hyl, ?_⟩
      · intro q hq
        apply N₄ q
        simp only [List.cons_append, List.mem_cons] at hq ⊢
        rcases hq with h | h | h | h | h | h <;> simp [h]
      · refine Off3.of fun q hq => ?_
        rcases List.mem_cons.mp hq with rfl | hq
        · exact hc
        · rcases List.mem_cons.mp hq with rfl | hq
          · exact ⟨hI, hC', hD⟩
          · exact off3 q (List.mem_cons_of_mem _ hq)
      · intro q hq r hr
        rcases List.mem_cons.mp hq with rfl | hq
        · exact fun e => hn r (List.mem_append.mpr (.inr hr)) e.symm
        · exact hfr q hq r hr
      · rw [e9]
        exact (hys.mono fun q hq => List.mem_cons_of_mem _ hq).append (.one (hd.mono fun q hq => by
          rcases List.mem_cons.mp hq with rfl | hq
          · exact .head _
          · exact List.mem_cons_of_mem _ (List.mem_append.mpr (.inr hq))))
    | false =>
      simp only [Bool.false_eq_true, if_false] at h₃ ⊢
      obtain ⟨hP, h', tk', rfl, F₄, N₄⟩ := h₃
      have e9 : (((d.take (i + 1)).filter P).map f) = (((d.take i).filter P).map f) := by rw [htake]; simp [List.filter_append, hP]
      exact ⟨h', tk', (ct, co) :: (tl ++ news), rfl, F₄, N₄, off, trivial, tl, rfl, hfr, Nat.le_succ_of_le hyl, by rw [e9]; exact hys⟩
  · rintro D h tk ys nw ⟨tl, rfl, hfr, hyl, hys⟩ F' N' o1
    have e9 : d.take vs.toArray.size = d := by rw [List.size_toArray, hvl, List.take_length]
    rw [e9] at hys
    have off : ∀ (l : Led), Off1 D l → ∀ q ∈ l, q.1 ≠ D := by
      intro l
      induction l with
      | nil => exact fun _ _ h => nomatch h
      | cons x l ih =>
        intro hx q hq
        rcases List.mem_cons.mp hq with rfl | hq
        · exact hx.1
        · exact ih hx.2 q hq
    have o1' := off _ o1
    exact fin D h tk tl ys F' N' hfr (o1' (ct, co) (.head _)) (fun q hq => o1' q (List.mem_cons_of_mem _ hq)) (by rw [List.size_toArray, hvl] at hyl; omega) hys
end
theorem allLt_mem {d : Addr} {l : Led} (h : AllLt d l) : ∀ p ∈ l, p.1 < d := by
  induction l with
  | nil => exact fun _ h => absurd h List.not_mem_nil
  | cons x l ih =>
    intro p hp
    rcases List.mem_cons.mp hp with e | hp
    · rw [e]; exact h.1
    · exact ih h.2 p hp
theorem rot3 {h₀ h : Heap} {L : Addr} {a b c t : Addr × Obj} {r : Led} (N : News h₀ L h (t :: a :: b :: c :: r)) : News h₀ L h (a :: b :: c :: t :: r) := fun q hq => N q (by
  rcases List.mem_cons.mp hq with e | hq
  · rw [e]; exact .tail _ (.head _)
  rcases List.mem_cons.mp hq with e | hq
  · rw [e]; exact .tail _ (.tail _ (.head _))
  rcases List.mem_cons.mp hq with e | hq
  · rw [e]; exact .tail _ (.tail _ (.tail _ (.head _)))
  rcases List.mem_cons.mp hq with e | hq
  · rw [e]; exact .head _
  · exact .tail _ (.tail _ (.tail _ (.tail _ hq))))
theorem done_pure {g : Led → Led} {ex rest news new l : Led} {h₀ h : Heap} {L : Addr} (hex : ∀ x, g x = ex ++ x) (hen : ∀ p ∈ ex, p ∈ news) (hsub : ∀ p ∈ rest, p ∈ news) (N : News h₀ L h l) (h1 : ∀ p ∈ new, p ∈ l) (h2 : ∀ p ∈ news, p ∈ l) : News h₀ L h (g (new ++ rest)) := fun p hp => by
  rw [hex] at hp
  rcases List.mem_append.mp hp with hp | hp
  · exact N p (h2 p (hen p hp))
  · rcases List.mem_append.mp hp with hp | hp
    · exact N p (h1 p hp)
    · exact N p (h2 p (hsub p hp))
theorem grow_new {news r0 rest new : Led} {g : Led → Led} (TI : TailIs news r0 rest g) (h : ∀ p ∈ new, ∀ q ∈ news, p.1 ≠ q.1) : Grow news r0 rest (new ++ rest) :=
  ⟨fun p hp => List.mem_append.mpr (.inr (TI.base p hp)), fun p hp => List.mem_append.mpr (.inr hp), fun d ⟨o, hd⟩ ho p hp => by
    rcases List.mem_append.mp hp with hp | hp
    · exact h p hp (d, o) hd
    · exact ho p hp⟩
section
variable {prog : Program} {w : World} {A : Around} {E : Value → Shared → Prop} {s : Shared} {h₀ : Heap} {L : Addr} {m : Str → Option Value}
theorem add_dat {a b : Addr} {da db : List Dat} {l r0 imm : Led} {g : Led → Led} {Q : Value → Shared → Prop} (F : Fr h₀ L s.heap m) (N : News h₀ L s.heap l) (TI : TailIs l r0 imm g) (Da : DatIn imm (.ref a) (.tuple da)) (Db : DatIn imm (.ref b) (.tuple db)) (hz : da.length + db.length ≤ 16384)
    (h : ∀ c rest' h', Fr h₀ L h' m → News h₀ L h' (g rest') → Grow l r0 imm rest' → DatIn rest' (.ref c) (.tuple (da ++ db)) → Q (.ref c) { s with heap := h' }) :
    wpAny (model prog w) A (binaryOp .Add (.ref a) (.ref b)) Q E s := by
  obtain ⟨vs, n, hm, hv⟩ := datIn_tuple Da
  obtain ⟨ws, n', hm', hw⟩ := datIn_tuple Db
  obtain ⟨ex, hex, hen⟩ := TI.split
  have hlv := hv.length
  have hlw := hw.length
  have same : News h₀ L s.heap (g imm) := by
    have := done_pure (new := []) hex hen TI.sub N (fun _ h => absurd h List.not_mem_nil) (fun _ h => h)
    rwa [List.nil_append] at this
  refine add_tuples F N (News.isTup N (TI.sub _ hm)) (News.isTup N (TI.sub _ hm')) (fun e => ?_) (fun _ e => ?_) (fun _ _ h' F' N' => ?_) (by rw [sizeLine_eq]; omega)
  · have e' : da = [] := by rw [e] at hlv; exact List.length_eq_zero_iff.mp hlv.symm
    rw [e'] at h
    exact h b imm s.heap F same (Grow.refl TI.base) Db
  · have e' : db = [] := by rw [e] at hlw; exact List.length_eq_zero_iff.mp hlw.symm
    rw [e', List.append_nil] at h
    exact h a imm s.heap F same (Grow.refl TI.base) Da
  · have hlt : ∀ q ∈ l, q.1 < s.heap.objs.size := fun q hq => Heap.lt_size (N q hq).1
    refine h _ ([(s.heap.objs.size, tupO (vs ++ ws) 0)] ++ imm) h' F' (done_pure hex hen TI.sub N' (fun q hq => ?_) (fun q hq => .tail _ hq)) (grow_new TI fun q hq r hr => ?_) ?_
    · rw [List.mem_singleton.mp hq]; exact .head _
    · rw [List.mem_singleton.mp hq]; exact Ne.symm (Nat.ne_of_lt (hlt r hr))
    · have up : ∀ p ∈ imm, p ∈ [(s.heap.objs.size, tupO (vs ++ ws) 0)] ++ imm := fun p hp => .tail _ hp
      exact DatIn.tuple (.head _) ((hv.mono up).append (hw.mono up))
theorem shaped_ok {d : Dat} (h : kqdOk 8 d = true) : SeqAt.shaped (kqdP d) = true := by
  have l := kqd_lay 8 d h
  simp only [SeqAt.shaped, l.1, Bool.true_and, decide_eq_true_eq]
  exact Nat.le_trans l.2 (by decide)
theorem dat_eq {a b : Value} {da db : Dat} {l n₁ n₂ : Led} {Q : Value → Shared → Prop} (N : News h₀ L s.heap l) (Da : DatIn n₁ a da) (sa : ∀ p ∈ n₁, p ∈ l) (Db : DatIn n₂ b db) (sb : ∀ p ∈ n₂, p ∈ l) (ha : kqdOk 8 da = true) (hb : kqdOk 8 db = true) (hu : A.units + 64 < cLine)
    (h : ∀ t : Bool, (t = true ↔ da = db) → Q (.bool t) s) : wpAny (model prog w) A (compareOp .Eq a b) Q E s := by
  obtain ⟨_, ra⟩ := kqd_in N 8 (Da.mono sa) ha
  obtain ⟨_, rb⟩ := kqd_in N 8 (Db.mono sb) hb
  exact eq_dataH ra rb (shaped_ok ha) (shaped_ok hb) hu (h _ (kqd_eqv 8 da db 8 ha hb))
theorem dat_ne {a b : Value} {da db : Dat} {l n₁ n₂ : Led} {Q : Value → Shared → Prop} (N : News h₀ L s.heap l) (Da : DatIn n₁ a da) (sa : ∀ p ∈ n₁, p ∈ l) (Db : DatIn n₂ b db) (sb : ∀ p ∈ n₂, p ∈ l) (ha : kqdOk 8 da = true) (hb : kqdOk 8 db = true) (hu : A.units + 64 < cLine)
    (h : ∀ t : Bool, (t = true ↔ da ≠ db) → Q (.bool t) s) : wpAny (model prog w) A (compareOp .NotEq a b) Q E s := by
  obtain ⟨_, ra⟩ := kqd_in N 8 (Da.mono sa) ha
  obtain ⟨_, rb⟩ := kqd_in N 8 (Db.mono sb) hb
  refine ne_dataH ra rb (shaped_ok ha) (shaped_ok hb) hu (h _ ?_)
  rw [Bool.not_eq_true', ← Bool.not_eq_true, kqd_eqv 8 da db 8 ha hb]
end
theorem domD_ok (d : Dom) : kqdOk 8 (domD d) = true := by
  simp only [domD, kqdOk, List.all_map, List.all_eq_true]
  intro p _
  rfl
theorem domD_inj {d e : Dom} : domD d = domD e ↔ d = e := by
  constructor
  · intro h
    simp only [domD, Dat.tuple.injEq] at h
    induction d generalizing e with
    | nil => cases e with
      | nil => rfl
      | cons x e => simp at h
    | cons y d ih => cases e with
      | nil => simp at h
      | cons x e =>
        simp only [List.map_cons, List.cons.injEq, ivD, Dat.tuple.injEq, Dat.int.injEq, and_true] at h
        rw [ih h.2, Prod.ext h.1.1 h.1.2]
  · rintro rfl; rfl
theorem domD_nil {d : Dom} : domD d = Dat.tuple [] ↔ d = [] := domD_inj (e := [])
theorem add_dom {prog : Program} {w : World} {A : Around} {E : Value → Shared → Prop} {s : Shared} {h₀ : Heap} {L : Addr} {m : Str → Option Value} {a b : Addr} {x y : Dom} {l r0 imm : Led} {g : Led → Led} {Q : Value → Shared → Prop} (F : Fr h₀ L s.heap m) (N : News h₀ L s.heap l) (TI : TailIs l r0 imm g) (Da : DatIn imm (.ref a) (domD x)) (Db : DatIn imm (.ref b) (domD y)) (hz : x.length + y.length ≤ 16384)
    (h : ∀ c rest' h', Fr h₀ L h' m → News h₀ L h' (g rest') → Grow l r0 imm rest' → DatIn rest' (.ref c) (domD (x ++ y)) → Q (.ref c) { s with heap := h' }) :
    wpAny (model prog w) A (binaryOp .Add (.ref a) (.ref b)) Q E s :=
  add_dat F N TI Da Db (by simpa using hz) fun c rest' h' F' N' G D => h c rest' h' F' N' G (by simpa only [domD, List.map_append] using D)
theorem append_L {prog : Program} {w : World} {A : Around} {E : Value → Shared → Prop} {s : Shared} {h₀ : Heap} {L D : Addr} {m : Str → Option Value} {news news' : Led} {vs : List Value} {n : Nat} {x : Value} {Q : Value → Shared → Prop} (F : Fr h₀ L s.heap m) (N : News h₀ L s.heap news) (U : Upd D (listOf vs.toArray n) (listOf (vs ++ [x]).toArray (n + 1)) news news')
    (hsz : vs.length ≤ 16384) (h : ∀ h', Fr h₀ L h' m → News h₀ L h' news' → Q .none { s with heap := h' }) : wpAny (model prog w) A (call (.builtin "list.append") [.ref D, x]) Q E s := by
  have e : vs.toArray.push x = (vs ++ [x]).toArray := by simp
  rw [← e] at U
  exact append_K F N U h (by rw [List.size_toArray, sizeLine_eq]; omega)
theorem tuple_dat {prog : Program} {w : World} {A : Around} {E : Value → Shared → Prop} {s : Shared} {h₀ : Heap} {L : Addr} {c : Addr} {ds : List Dat} {l : Led} {Q : Value → Shared → Prop} (N : News h₀ L s.heap l) (D : DatIn l (.ref c) (.tuple ds)) (h : Q (.ref c) s) : wpAny (model prog w) A (call (.type "tuple") [.ref c]) Q E s := by
  obtain ⟨vs, n, hm, _⟩ := datIn_tuple D
  exact call_tuple_tup (News.isTup N hm) h
def minI : List Int → Int
  | [] => 0
  | [a] => a
  | a :: b :: r => if a ≤ minI (b :: r) then a else minI (b :: r)
def maxI : List Int → Int
  | [] => 0
  | [a] => a
  | a :: b :: r => if maxI (b :: r) ≤ a then a else maxI (b :: r)
theorem minI_spec : ∀ {ns : List Int}, 0 < ns.length → minI ns ∈ ns ∧ ∀ a ∈ ns, minI ns ≤ a
  | [], h => absurd h (by simp)
  | [a], _ => by simp [minI]
  | a :: b :: r, _ => by
    have ih := minI_spec (ns := b :: r) (by simp)
    unfold minI
    split
    · refine ⟨.head _, fun c hc => ?_⟩
      rcases List.mem_cons.mp hc with e | hc
      · rw [e]; exact Int.le_refl _
      · exact Int.le_trans (by assumption) (ih.2 c hc)
    · refine ⟨.tail _ ih.1, fun c hc => ?_⟩
      rcases List.mem_cons.mp hc with e | hc
      · rw [e]; omega
      · exact ih.2 c hc
theorem maxI_spec : ∀ {ns : List Int}, 0 < ns.length → maxI ns ∈ ns ∧ ∀ a ∈ ns, a ≤ maxI ns
  | [], h => absurd h (by simp)
  | [a], _ => by simp [maxI]
  | a :: b :: r, _ => by
    have ih := maxI_spec (ns := b :: r) (by simp)
    unfold maxI
    split
    · refine ⟨.head _, fun c hc => ?_⟩
      rcases List.mem_cons.mp hc with e | hc
      · rw [e]; exact Int.le_refl _
      · exact Int.le_trans (ih.2 c hc) (by assumption)
    · refine ⟨.tail _ ih.1, fun c hc => ?_⟩
      rcases List.mem_cons.mp hc with e | hc
      · rw [e]; omega
      · exact ih.2 c hc
theorem minI_uniq {ns : List Int} {M : Int} (h : M ∈ ns) (hl : ∀ a ∈ ns, M ≤ a) : M = minI ns := by
  have hz : 0 < ns.length := List.length_pos_of_mem h
  have s := minI_spec hz
  exact Int.le_antisymm (hl _ s.1) (s.2 _ h)
theorem maxI_uniq {ns : List Int} {M : Int} (h : M ∈ ns) (hl : ∀ a ∈ ns, a ≤ M) : M = maxI ns := by
  have hz : 0 < ns.length := List.length_pos_of_mem h
  have s := maxI_spec hz
  exact Int.le_antisymm (s.2 _ h) (hl _ s.1)
section
variable {prog : Program} {w : World} {A : Around} {E : Value → Shared → Prop} {s : Shared} {h₀ : Heap} {L l : Addr} {m : Str → Option Value} {news : Led} {vs : List Value} {ns : List Int} {n : Nat} {Q : Value → Shared → Prop}
theorem min_L (F : Fr h₀ L s.heap m) (N : News h₀ L s.heap news) (hm : (l, listOf vs.toArray n) ∈ news) (hi : IntsAre vs ns) (hne : 0 < ns.length) (hh : A.handled = none)
    (h : ∀ h' (t : Tok) tk, Fr h₀ L h' m → News h₀ L h' news → Q (.int (minI ns) t) { s with heap := h', toks := tk }) : wpAny (model prog w) A (call (.builtin "min") [.ref l]) Q E s :=
  kso_min F N (News.isList N hm) hi hne hh fun h' M t tk F' N' a b => by rw [minI_uniq a b]; exact h h' t tk F' N'
theorem max_L (F : Fr h₀ L s.heap m) (N : News h₀ L s.heap news) (hm : (l, listOf vs.toArray n) ∈ news) (hi : IntsAre vs ns) (hne : 0 < ns.length) (hh : A.handled = none)
    (h : ∀ h' (t : Tok) tk, Fr h₀ L h' m → News h₀ L h' news → Q (.int (maxI ns) t) { s with heap := h', toks := tk }) : wpAny (model prog w) A (call (.builtin "max") [.ref l]) Q E s :=
  kso_max F N (News.isList N hm) hi hne hh fun h' M t tk F' N' a b => by rw [maxI_uniq a b]; exact h h' t tk F' N'
end
theorem datLen {r : Led} {vs : List Value} {ds : List Dat} {n : Nat} (h : DatAll r vs ds) (hb : ds.length ≤ n) : vs.length ≤ n := by rw [h.length]; exact hb
section
variable {prog : Program} {w : World} {A : Around} {E : Value → Shared → Prop} {s : Shared} {h₀ : Heap} {L l : Addr} {m : Str → Option Value} {news news' : Led} {fi : List Value} {v v' : Value} {n : Nat}
theorem last_get {value slice : PySem.Expr} {u : Tok} {Q : Value → Shared → Prop} (N : News h₀ L s.heap news) (hm : (l, listOf (fi ++ [v]).toArray n) ∈ news) (h : Q v s)
    (hs : subscripted slice false (.ref l) (.int (-1) u) = operate [.ref l, .int (-1) u] (getItem (.ref l) (.int (-1) u)) := by with_unfolding_all rfl) :
    wpAny (model prog w) A (subscriptTail value slice (.ref l) (.int (-1) u)) Q E s := by
  refine kde_neg (News.isList N hm) (by decide) (by decide) (j := fi.length) ?_ ?_ h hs
  · rw [PySem.seqIndex_neg (by decide) (by rw [List.length_append, List.length_singleton]; omega)]
    rw [List.length_append, List.length_singleton]
    congr 1
    omega
  · simp
theorem last_set {t : Tok} {Q : Unit → Shared → Prop} (F : Fr h₀ L s.heap m) (N : News h₀ L s.heap news) (U : Upd l (listOf (fi ++ [v]).toArray n) (listOf (fi ++ [v']).toArray n) news news')
    (h : ∀ h', Fr h₀ L h' m → News h₀ L h' news' → Q () { s with heap := h' }) : wpAny (model prog w) A (setItem (.ref l) (.int (-1) t) v') Q E s := by
  obtain ⟨pre, post, rfl, rfl, a, b⟩ := U.split
  have z := N (l, listOf (fi ++ [v]).toArray n) (List.mem_append.mpr (.inr (.head _)))
  have e1 : ((-1 : Int) + ((fi ++ [v]).toArray.size : Nat)).toNat = fi.length := by
    rw [List.size_toArray, List.length_append, List.length_singleton]; omega
  refine ki_setBack z.1 (by decide) (by rw [List.size_toArray, List.length_append, List.length_singleton]; omega) (by decide) ?_
  rw [e1]
  refine h _ (F.change (Heap.SameBut.update ..) z.2.1 z.2.2) (ki_turn _ N a b ?_ ?_)
  · apply Array.toList_inj.mp
    simp
  · simp
theorem len_L {vs : List Value} {Q : Value → Shared → Prop} (N : News h₀ L s.heap news) (hm : (l, listOf vs.toArray n) ∈ news) (hz : vs.length ≤ 16777216)
    (h : Q (.int (vs.length : Nat) (s.toks + 1)) { s with toks := s.toks + 1 + 1 }) : wpAny (model prog w) A (call (.builtin "len") [.ref l]) Q E s := by
  refine len_list (News.isList N hm) (by rw [List.size_toArray]; omega) ?_
  rw [List.size_toArray]
  exact h
end
end
theorem rows_C1_0 : True := by
  k_with_none
  w_top off
  trivial
local macro_rules | `(tactic| walk_at $s:str) => `(tactic| k_extra $s)
theorem rows_C1_1 : True := by
  k_with "LT9" => (first | (with_reducible assumption) | (refine' ltM ?lt1 ?lt2; (case lt1 => (with_reducible assumption)); (case lt2 => (repeat (first | exact List.Mem.head _ | refine List.Mem.tail _ ?_)); done)) | (refine' ltT ?lt0 ?lt1 ?lt2; (case lt0 => (with_reducible assumption)); (case lt1 => (with_reducible assumption)); (case lt2 => (repeat (first | exact List.Mem.head _ | refine List.Mem.tail _ ?_)); done)) | fail "LT9")
  k_with "k_ne" => (first | (with_reducible assumption) | (refine' Ne.symm ?ne1; (case ne1 => (with_reducible assumption))) | (refine neG ?_; walk_at "LT9") | (refine neL ?_; walk_at "LT9") | (refine neS ?_; walk_at "LT9") | (refine neT ?_; walk_at "LT9") | (refine neS2 ?_; walk_at "LT9") | (refine neT2 ?_; walk_at "LT9") | (refine neS3 ?_; walk_at "LT9") | (refine neT3 ?_; walk_at "LT9") | (refine' neM (l := _ :: _) ?lt1 ?lt2; (case lt1 => (with_reducible assumption)); (case lt2 => (repeat (first | exact List.Mem.head _ | refine List.Mem.tail _ ?_)); done)) | (refine' neN (l := _ :: _) ?lt1 ?lt2; (case lt1 => (with_reducible assumption)); (case lt2 => (repeat (first | exact List.Mem.head _ | refine List.Mem.tail _ ?_)); done)) | exact nc12 | exact nc21 | exact nc13 | exact nc31 | exact nc23 | exact nc32 | fail "k_ne")
  k_with "ktr_room" => (first | (rename (_ + _ < recursionLimit) => zzh9; first | exact rmU 0 zzh9 rfl rfl | exact rmU 1 zzh9 rfl rfl | exact rmU 2 zzh9 rfl rfl | exact rmU 3 zzh9 rfl rfl | exact rmU 4 zzh9 rfl rfl | exact rmU 5 zzh9 rfl rfl | exact rmU 6 zzh9 rfl rfl | exact rmU 7 zzh9 rfl rfl | exact rmU 8 zzh9 rfl rfl | exact rmU 9 zzh9 rfl rfl) | exact ltB rfl)
  k_with "ktr_units" => (first | (rename (_ + _ + _ < cLine) => zzh9; first | exact umU 0 zzh9 rfl rfl | exact umU 3 zzh9 rfl rfl | exact umU 6 zzh9 rfl rfl | exact umU 9 zzh9 rfl rfl | exact umU 12 zzh9 rfl rfl | exact umU 1 zzh9 rfl rfl | exact umU 4 zzh9 rfl rfl | exact umU 7 zzh9 rfl rfl | exact umU 10 zzh9 rfl rfl | exact umU 2 zzh9 rfl rfl | exact umU 5 zzh9 rfl rfl | exact umU 8 zzh9 rfl rfl | exact umU 11 zzh9 rfl rfl | exact umU 13 zzh9 rfl rfl | exact umU 14 zzh9 rfl rfl | exact umU 15 zzh9 rfl rfl | exact umV 0 zzh9 rfl rfl | exact umV 3 zzh9 rfl rfl | exact umV 6 zzh9 rfl rfl | exact umV 9 zzh9 rfl rfl | exact umV 12 zzh9 rfl rfl | exact umV 1 zzh9 rfl rfl | exact umV 4 zzh9 rfl rfl | exact umV 7 zzh9 rfl rfl | exact umV 10 zzh9 rfl rfl | exact umV 2 zzh9 rfl rfl | exact umV 5 zzh9 rfl rfl | exact umV 8 zzh9 rfl rfl | exact umV 11 zzh9 rfl rfl | exact umV 13 zzh9 rfl rfl | exact umV 14 zzh9 rfl rfl | exact umV 15 zzh9 rfl rfl) | exact ltB rfl)
  k_with "OM" => (first | (with_reducible assumption) | exact Nat.zero_le _ | (refine' leB ?om1 ?om2; (case om1 => (with_reducible assumption)); (case om2 => (fail_if_success (fail_if_success decide)); exact rfl)) | (refine' leS ?om1 ?om2; (case om1 => (with_reducible assumption)); (case om2 => (fail_if_success (fail_if_success decide)); exact rfl)) | (with_reducible refine' ltL ?om1 ?om2; (case om1 => (with_reducible assumption)); (case om2 => (fail_if_success (fail_if_success decide)); exact rfl)) | ((fail_if_success (fail_if_success decide)); exact ltB rfl) | (refine' i0_1 ?om1; (case om1 => (with_reducible assumption))) | (refine' i0_2 ?om1; (case om1 => (with_reducible assumption))) | (refine' i0_3 ?om1; (case om1 => (with_reducible assumption))) | (refine' il_0 ?om1 ?om2; (case om1 => (with_reducible assumption)); (case om2 => decide)) | (refine' il_1 ?om1 ?om2; (case om1 => (with_reducible assumption)); (case om2 => decide)) | (refine' il_2 ?om1 ?om2; (case om1 => (with_reducible assumption)); (case om2 => decide)) | (refine' il_3 ?om1 ?om2; (case om1 => (with_reducible assumption)); (case om2 => decide)) | exact ia_3 | exact ia_5 | exact ic_0 | decide | omega)
  k_with "k_all" => (first
  | (with_reducible assumption)
  | (refine' OffL.out ?ko1; (case ko1 => (with_reducible assumption)))
  | (refine' offA ?ko1; (case ko1 => (with_reducible assumption)))
  | (refine' TailIs.offAtL ?ko1 ?ko2 ?ko3; (case ko1 => (with_reducible assumption)); (case ko2 => (with_reducible assumption)); (case ko3 => (with_reducible assumption)))
  | (refine' offC ?ka1 ?ka2; (case ka1 => first | (refine' Apart.l ?kp1; (case kp1 => (with_reducible assumption))) | (refine' Apart.r ?kp1; (case kp1 => (with_reducible assumption))) | k_ne); (case ka2 => k_all))
  | assumption)
  k_with "k_upd" => (first | (refine' Upd.head ?ku1; (case ku1 => k_all)) | (refine' Upd.tail ?ku1 ?ku2; (case ku1 => first | (refine' Apart.l ?kp1; (case kp1 => (with_reducible assumption))) | (refine' Apart.r ?kp1; (case kp1 => (with_reducible assumption))) | k_ne); (case ku2 => k_upd)) | fail "k_upd")
  k_with "k_updF" => (first | (refine' Pull.head ?kf1; (case kf1 => k_all)) | (refine' Pull.tail ?_ ?kf2; (case kf2 => k_updF); (first | (refine' Apart.l ?kp1; (case kp1 => (with_reducible assumption))) | (refine' Apart.r ?kp1; (case kp1 => (with_reducible assumption))) | k_ne)) | (refine' UpdF.head ?kf1; (case kf1 => k_all)) | (refine' UpdF.tail ?_ ?kf2; (case kf2 => k_updF); (first | (refine' Apart.l ?kp1; (case kp1 => (with_reducible assumption))) | (refine' Apart.r ?kp1; (case kp1 => (with_reducible assumption))) | k_ne)) | fail "k_updF")
  k_with "k_mem" => (first | (refine mem_of ?_; (with_reducible assumption)) | (refine mem_of ?_; refine' TailIs.sub ?km1 _ ?km2; (case km1 => first | (refine' TailIs.rebase ?tr1; (case tr1 => (with_reducible assumption))) | (refine' TailIs.at ?tr1 _; (case tr1 => (with_reducible assumption)))); (case km2 => (with_reducible assumption))) | fail "k_mem")
  k_with "call builtin:len" => ((k_here; (with_reducible show wpAny _ _ (call (Value.builtin "len") [Value.ref _]) _ _ _); k_dflt (refine' len_ints_fit (News.isList ?n ?m) ?i ?f ?_; (case n => k_asm); (case m => k_mem); (case i => (with_reducible assumption)); (case f => k_extra "OM"); k_whole)))
  k_with "subscriptTail Name Name ref int" => ((k_here; (with_reducible show wpAny _ _ (subscriptTail _ _ (Value.ref _) (Value.int _ _)) _ _ _); (with_unfolding_all refine' item_list_ints (News.isList ?n ?m) ?k2 ?k3 ?k4 ?k5 ?_; (case n => k_asm); (case m => k_mem); (case k2 => (with_reducible assumption)); (case k3 => k_extra "OM"); (case k4 => k_extra "OM"); (case k5 => k_extra "OM"); k_whole); intro _))
  k_with "k_enter" => (first
  | (refine' code_def ?k1 ?k2 ?k3 ?k4 ?k5 ?kA ?kF ?kK ?k6 ?k7 ?k8 ?k9 ?kB ?_ ?c2 ?c3 ?c4 ?c5; (case kA => exact rfl); (case kF => exact rfl); (case kK => first | exact rfl | (with_reducible assumption)); (case k1 => k_asm); (case k2 => k_asm); (case k3 => k_asm); (case k4 => k_asm); (case k5 => k_asm); (case k6 => k_is); (case k7 => k_is); (case k8 => ktr_room); (case k9 => first | exact BindsTo.of_eq rfl | exact binds_K (by k_in) rfl (by k_is) rfl rfl rfl | fail "k_enter: no rule for these arguments"); (case c5 => decide); (case kB => exact locs rfl); (case c2 => exact rfl); (case c3 => exact rfl); (case c4 => exact rfl); k_whole; intro _ _ _ _ _ zzN' _ _ _; (try dsimp only); (try k_fold))
  | (refine' code_defC ?k1 ?k2 ?k3 ?k4 ?k5 ?kA ?kF ?kK ?k6 ?k7 ?k8 ?k9 ?kB ?kD ?_ ?c2 ?c3 ?c4; (case kA => exact rfl); (case kF => exact rfl); (case kK => first | exact rfl | (with_reducible assumption)); (case k1 => k_asm); (case k2 => k_asm); (case k3 => k_asm); (case k4 => k_asm); (case k5 => k_asm); (case k6 => k_is); (case k7 => k_is); (case k8 => ktr_room); (case k9 => first | exact BindsTo.of_eq rfl | exact binds_K (by k_in) rfl (by k_is) rfl rfl rfl | fail "k_enter: no rule for these arguments"); (case kB => exact rfl); (case kD => decide +kernel); (case c2 => exact rfl); (case c3 => exact rfl); (case c4 => exact rfl); k_whole; intro _ _ _ _ _ _ _ zzN' zzY' _ _ _ zzl1; revert zzl1; intro _; (have _ := Mk9.mk); k_cells zzY'; (try (simp only [List.cons_append, List.nil_append] at zzN'; revert zzN'; intro _)); (try dsimp only); (try k_fold)))
  k_with "call type:tuple" => ((k_here; (with_reducible show wpAny _ _ (call (Value.type _) [Value.ref _]) _ _ _); k_dflt (refine' kde_tupleOf ?k1 ?k2 (News.isList ?k3 ?k6) ?k4 ?k5 ?_; (case k1 => k_asm); (case k2 => k_asm); (case k3 => k_asm); (case k6 => k_mem); (case k4 => (simp only [List.size_toArray]; k_extra "OM")); (case k5 => exact rfl); k_whole); intro _ _ _ _ zzl1; revert zzl1; intro _; (have _ := Mk9.mk); (try k_sweep)))
  k_with "tb_rel" => (first | (refine' TailIs.rebase ?tr1; (case tr1 => (with_reducible assumption))) | (refine' TailIs.at ?tr1 _; (case tr1 => (with_reducible assumption))) | (refine' TailIs.moveT ?tb1; (case tb1 => tb_rel)) | (refine' TailIs.cons ?tb1; (case tb1 => tb_rel)) | exact TailIs.nil)
  trivial
local macro_rules | `(tactic| k_ne) => `(tactic| k_extra "k_ne")
local macro_rules | `(tactic| ktr_room) => `(tactic| k_extra "ktr_room")
local macro_rules | `(tactic| ktr_units) => `(tactic| k_extra "ktr_units")
local macro_rules | `(tactic| k_all) => `(tactic| k_extra "k_all")
local macro_rules | `(tactic| k_upd) => `(tactic| k_extra "k_upd")
local macro_rules | `(tactic| k_updF) => `(tactic| k_extra "k_updF")
local macro_rules | `(tactic| k_mem) => `(tactic| k_extra "k_mem")
local macro_rules | `(tactic| k_enter) => `(tactic| k_extra "k_enter")
local macro_rules | `(tactic| tb_rel) => `(tactic| k_extra "tb_rel")
local macro_rules | `(tactic| k_lt $h:ident) => `(tactic| (revert $h:ident; intro hL9; have hT9 := Mk9.mk))
-- every old address stands in the ledger
theorem rows_C1_2 : True := by
  k_with "kcf_m" => (first
  | (refine' covC ?kc1 ?kc2; (case kc1 => k_mem); (case kc2 => kcf_m))
  | exact List.forall_mem_nil _
  | (intro zzq9 zzhq9; refine ⟨Prod.snd zzq9, ?_⟩; repeat (first | exact zzhq9 | (refine' TailIs.coverAt ?tc1 (Run.sub ?tc2) zzq9 zzhq9; (case tc1 => (with_reducible assumption)); (case tc2 => (with_reducible assumption))) | refine List.mem_cons_of_mem _ ?_)))
  trivial
local macro_rules | `(tactic| kcf_m) => `(tactic| k_extra "kcf_m")
-- what is made here is none of the old
theorem rows_C1_3 : True := by
  k_with "kcf_all" => ((intro zzq9 zzhq9 zzho9; repeat (first | exact zzho9 | refine List.forall_mem_cons.mpr ⟨tmp_ne (by (with_reducible assumption)) (by kcf_m) zzq9 zzhq9, ?_⟩)))
  k_with "tb_start" => ((
  (rename Grow _ _ _ _ => zzG9)
  (have zzgB9 := Grow.base zzG9)
  (repeat (rename Run _ _ (Grow.R zzG9) => zzR9; have _ := Run.step zzR9 zzG9 (by kcf_m) (by kcf_all); clear zzR9))
  (repeat (rename DatIn (Grow.R zzG9) _ _ => zzhX9; have _ := DatIn.mono zzgB9 zzhX9; clear zzhX9))
  (repeat (rename DatAll (Grow.R zzG9) _ _ => zzhX9; have _ := DatAll.mono zzgB9 zzhX9; clear zzhX9))
  (repeat (rename IntsAt (Grow.R zzG9) _ _ => zzhX9; have _ := IntsAt.mono zzhX9 zzgB9; clear zzhX9))
  (repeat (rename (_ ∈ Grow.R zzG9) => zzhX9; have _ := zzgB9 _ zzhX9; clear zzhX9))
  (repeat (rename OffL (Grow.R zzG9) _ => zzhX9; have _ := Grow.offL zzG9 zzhX9 ⟨_, by k_mem⟩ (by k_all); clear zzhX9))
  (have zzhS9 := Grow.sub zzG9; (first | refine fd_6 zzhS9 ?_ | refine fd_5 zzhS9 ?_ | refine fd_4 zzhS9 ?_ | refine fd_3 zzhS9 ?_ | refine fd_2 zzhS9 ?_ | refine fd_1 zzhS9 ?_ | refine fd_0 zzhS9 ?_); clear zzhS9)
  clear zzgB9 zzG9
  intros))
  k_with "kqd_in" => (first | (refine' DatIn.mono ?kd1 ?kd2; (case kd2 => first | (with_reducible assumption) | assumption); (case kd1 => (intro _ zzhp9; repeat (first | exact zzhp9 | (refine' TailIs.sub ?kd3 _ zzhp9; (case kd3 => first | (refine' TailIs.rebase ?tr1; (case tr1 => (with_reducible assumption))) | (refine' TailIs.at ?tr1 _; (case tr1 => (with_reducible assumption))))) | refine List.mem_cons_of_mem _ ?_)))) | fail "kqd_in")
  k_with "kqd_all" => (first | (refine' DatAll.mono ?kd1 ?kd2; (case kd2 => first | (with_reducible assumption) | assumption); (case kd1 => (intro _ zzhp9; repeat (first | exact zzhp9 | (refine' TailIs.sub ?kd3 _ zzhp9; (case kd3 => first | (refine' TailIs.rebase ?tr1; (case tr1 => (with_reducible assumption))) | (refine' TailIs.at ?tr1 _; (case tr1 => (with_reducible assumption))))) | refine List.mem_cons_of_mem _ ?_)))) | fail "kqd_all")
  k_with "compareOp Eq ref ref" => ((k_here; (with_reducible show wpAny _ _ (compareOp CmpOp.Eq (Value.ref _) (Value.ref _)) _ _ _); k_dflt (refine' dat_eq ?n9 ?da (fun _ h => h) ?db (fun _ h => h) ?oa ?ob ?u9 ?_; (case n9 => k_asm); (case da => kqd_in); (case db => kqd_in); (case oa => first | exact domD_ok _ | rfl | (with_reducible assumption)); (case ob => first | exact domD_ok _ | rfl | (with_reducible assumption)); (case u9 => ktr_units); intro _ _)))
  k_with "compareOp NotEq ref ref" => ((k_here; (with_reducible show wpAny _ _ (compareOp CmpOp.NotEq (Value.ref _) (Value.ref _)) _ _ _); k_dflt (refine' dat_ne ?n9 ?da (fun _ h => h) ?db (fun _ h => h) ?oa ?ob ?u9 ?_; (case n9 => k_asm); (case da => kqd_in); (case db => kqd_in); (case oa => first | exact domD_ok _ | rfl | (with_reducible assumption)); (case ob => first | exact domD_ok _ | rfl | (with_reducible assumption)); (case u9 => ktr_units); intro _ _)))
  k_with "call builtin:list.append" => ((k_here; (with_reducible show wpAny _ _ (call (Value.builtin _) [Value.ref _, _]) _ _ _); k_dflt (refine' append_L ?k1 ?k2 ?k3 ?z ?_; (case k1 => k_asm); (case k2 => k_asm); (case k3 => k_upd); (case z => first | k_extra "OM" | ((simp only [List.length_cons, List.length_nil, List.length_append]); k_extra "OM")); k_whole); intro _ _ _; (try k_sweep)))
  k_with "call builtin:min" => ((k_here; (with_reducible show wpAny _ _ (call (Value.builtin _) [Value.ref _]) _ _ _); k_dflt ((refine' min_L ?f9 ?n9 ?m9 ?i9 ?z9 ?h9 ?_; (case f9 => k_asm); (case n9 => k_asm); (case m9 => k_mem); (case i9 => (with_reducible assumption)); (case z9 => first | k_extra "OM" | (simp_all; k_extra "OM")); (case h9 => with_unfolding_all rfl)); intro _ _ _ _ _)))
  k_with "call builtin:max" => ((k_here; (with_reducible show wpAny _ _ (call (Value.builtin _) [Value.ref _]) _ _ _); k_dflt ((refine' max_L ?f9 ?n9 ?m9 ?i9 ?z9 ?h9 ?_; (case f9 => k_asm); (case n9 => k_asm); (case m9 => k_mem); (case i9 => (with_reducible assumption)); (case z9 => first | k_extra "OM" | (simp_all; k_extra "OM")); (case h9 => with_unfolding_all rfl)); intro _ _ _ _ _)))
  trivial
local macro_rules | `(tactic| kcf_all) => `(tactic| k_extra "kcf_all")
local macro_rules | `(tactic| tb_start) => `(tactic| k_extra "tb_start")
local macro_rules | `(tactic| kqd_in) => `(tactic| k_extra "kqd_in")
local macro_rules | `(tactic| kqd_all) => `(tactic| k_extra "kqd_all")
theorem draw_c0 {w : World} {fd ca : Addr} {o : Obj} {vs : List Value} {cells : List Int} {k : Int} {tk tm : Tok} {many : Int} {rest : Led} {nn : Nat}
  (hca : (ca, listOf vs.toArray nn) ∈ rest) (hrest : ∀ p ∈ rest, p.1 ≠ fd) (ho : o.IsDictOf (strKind PySem.Challenge.rw_nz0013_01.row.prog w) [(Str.ofString "cells", .ref ca), (Str.ofString "at", .int k tk)])
  (hi : IntsAre vs cells) (hm1 : 1 ≤ many) (hm2 : many ≤ 20) (hk1 : 0 ≤ k) (hk2 : k < 1000) (hln : cells.length ≤ 60) :
  Call w 2 276 [.ref fd, .int many tm] ((fd, o) :: rest) (fun r nw => ∃ v t o', r = .int v t ∧ 0 ≤ v ∧ v < many ∧ nw = (fd, o') :: rest ∧ FeedO w o' ca (k + 1)) := by
  intro p loose mean mg mb dp un gd cn cs a ccd cl outer A₀ base h₀ L m s Q E B F X T hk hd hu N hret
  revert X; k_fill; intro X
  w_strict (
    refine wpAny_call ?_
    k_dflt ktr_enter
    k_steps
    all_goals (
      refine hret _ _ _ _ (by k_asm) ?_ ⟨_, _, _, rfl, fmod_lo _ (by omega), fmod_hi _ (by omega), rfl, _, by assumption⟩
      intro p hp; (rename News _ _ _ _ => N9); apply N9; first | exact hp | exact List.mem_cons_of_mem _ hp | exact List.mem_cons_of_mem _ (List.mem_cons_of_mem _ hp)))
theorem rows_C2_0 : True := by
  k_with_none
  w_top off
  trivial
def upTo (d : Dom) (k : Int) : Dom := (d.filter (fun p => decide (p.1 ≤ k))).map fun p => (p.1, if k < p.2 then k else p.2)
def fromOn (d : Dom) (k : Int) : Dom := (d.filter (fun p => decide (k ≤ p.2))).map fun p => (if p.1 < k then k else p.1, p.2)
theorem rows_C2_1 : True := by
  k_with "LT9" => (first | (with_reducible assumption) | (refine' ltM ?lt1 ?lt2; (case lt1 => (with_reducible assumption)); (case lt2 => (repeat (first | exact List.Mem.head _ | refine List.Mem.tail _ ?_)); done)) | (refine' ltT ?lt0 ?lt1 ?lt2; (case lt0 => (with_reducible assumption)); (case lt1 => (with_reducible assumption)); (case lt2 => (repeat (first | exact List.Mem.head _ | refine List.Mem.tail _ ?_)); done)) | fail "LT9")
  k_with "k_ne" => (first | (with_reducible assumption) | (refine' Ne.symm ?ne1; (case ne1 => (with_reducible assumption))) | (refine neG ?_; walk_at "LT9") | (refine neL ?_; walk_at "LT9") | (refine neS ?_; walk_at "LT9") | (refine neT ?_; walk_at "LT9") | (refine neS2 ?_; walk_at "LT9") | (refine neT2 ?_; walk_at "LT9") | (refine neS3 ?_; walk_at "LT9") | (refine neT3 ?_; walk_at "LT9") | (refine' neM (l := _ :: _) ?lt1 ?lt2; (case lt1 => (with_reducible assumption)); (case lt2 => (repeat (first | exact List.Mem.head _ | refine List.Mem.tail _ ?_)); done)) | (refine' neN (l := _ :: _) ?lt1 ?lt2; (case lt1 => (with_reducible assumption)); (case lt2 => (repeat (first | exact List.Mem.head _ | refine List.Mem.tail _ ?_)); done)) | exact nc12 | exact nc21 | exact nc13 | exact nc31 | exact nc23 | exact nc32 | fail "k_ne")
  k_with "ktr_room" => (first | (rename (_ + _ < recursionLimit) => zzh9; first | exact rmU 0 zzh9 rfl rfl | exact rmU 1 zzh9 rfl rfl | exact rmU 2 zzh9 rfl rfl | exact rmU 3 zzh9 rfl rfl | exact rmU 4 zzh9 rfl rfl | exact rmU 5 zzh9 rfl rfl | exact rmU 6 zzh9 rfl rfl | exact rmU 7 zzh9 rfl rfl | exact rmU 8 zzh9 rfl rfl | exact rmU 9 zzh9 rfl rfl) | exact ltB rfl)
  k_with "ktr_units" => (first | (rename (_ + _ + _ < cLine) => zzh9; first | exact umU 0 zzh9 rfl rfl | exact umU 3 zzh9 rfl rfl | exact umU 6 zzh9 rfl rfl | exact umU 9 zzh9 rfl rfl | exact umU 12 zzh9 rfl rfl | exact umU 1 zzh9 rfl rfl | exact umU 4 zzh9 rfl rfl | exact umU 7 zzh9 rfl rfl | exact umU 10 zzh9 rfl rfl | exact umU 2 zzh9 rfl rfl | exact umU 5 zzh9 rfl rfl | exact umU 8 zzh9 rfl rfl | exact umU 11 zzh9 rfl rfl | exact umU 13 zzh9 rfl rfl | exact umU 14 zzh9 rfl rfl | exact umU 15 zzh9 rfl rfl | exact umV 0 zzh9 rfl rfl | exact umV 3 zzh9 rfl rfl | exact umV 6 zzh9 rfl rfl | exact umV 9 zzh9 rfl rfl | exact umV 12 zzh9 rfl rfl | exact umV 1 zzh9 rfl rfl | exact umV 4 zzh9 rfl rfl | exact umV 7 zzh9 rfl rfl | exact umV 10 zzh9 rfl rfl | exact umV 2 zzh9 rfl rfl | exact umV 5 zzh9 rfl rfl | exact umV 8 zzh9 rfl rfl | exact umV 11 zzh9 rfl rfl | exact umV 13 zzh9 rfl rfl | exact umV 14 zzh9 rfl rfl | exact umV 15 zzh9 rfl rfl) | exact ltB rfl)
  k_with "OM" => (first | (with_reducible assumption) | exact Nat.zero_le _ | (refine' leB ?om1 ?om2; (case om1 => (with_reducible assumption)); (case om2 => (fail_if_success (fail_if_success decide)); exact rfl)) | (refine' leS ?om1 ?om2; (case om1 => (with_reducible assumption)); (case om2 => (fail_if_success (fail_if_success decide)); exact rfl)) | (with_reducible refine' ltL ?om1 ?om2; (case om1 => (with_reducible assumption)); (case om2 => (fail_if_success (fail_if_success decide)); exact rfl)) | ((fail_if_success (fail_if_success decide)); exact ltB rfl) | (refine' i0_1 ?om1; (case om1 => (with_reducible assumption))) | (refine' i0_2 ?om1; (case om1 => (with_reducible assumption))) | (refine' i0_3 ?om1; (case om1 => (with_reducible assumption))) | (refine' il_0 ?om1 ?om2; (case om1 => (with_reducible assumption)); (case om2 => decide)) | (refine' il_1 ?om1 ?om2; (case om1 => (with_reducible assumption)); (case om2 => decide)) | (refine' il_2 ?om1 ?om2; (case om1 => (with_reducible assumption)); (case om2 => decide)) | (refine' il_3 ?om1 ?om2; (case om1 => (with_reducible assumption)); (case om2 => decide)) | exact ia_3 | exact ia_5 | exact ic_0 | decide | omega)
  k_with "k_all" => (first
  | (with_reducible assumption)
  | (refine' OffL.out ?ko1; (case ko1 => (with_reducible assumption)))
  | (refine' offA ?ko1; (case ko1 => (with_reducible assumption)))
  | (refine' TailIs.offAtL ?ko1 ?ko2 ?ko3; (case ko1 => (with_reducible assumption)); (case ko2 => (with_reducible assumption)); (case ko3 => (with_reducible assumption)))
  | (refine' offC ?ka1 ?ka2; (case ka1 => first | (refine' Apart.l ?kp1; (case kp1 => (with_reducible assumption))) | (refine' Apart.r ?kp1; (case kp1 => (with_reducible assumption))) | k_ne); (case ka2 => k_all))
  | assumption)
  k_with "k_upd" => (first | (refine' Upd.head ?ku1; (case ku1 => k_all)) | (refine' Upd.tail ?ku1 ?ku2; (case ku1 => first | (refine' Apart.l ?kp1; (case kp1 => (with_reducible assumption))) | (refine' Apart.r ?kp1; (case kp1 => (with_reducible assumption))) | k_ne); (case ku2 => k_upd)) | fail "k_upd")
  k_with "k_updF" => (first | (refine' Pull.head ?kf1; (case kf1 => k_all)) | (refine' Pull.tail ?_ ?kf2; (case kf2 => k_updF); (first | (refine' Apart.l ?kp1; (case kp1 => (with_reducible assumption))) | (refine' Apart.r ?kp1; (case kp1 => (with_reducible assumption))) | k_ne)) | (refine' UpdF.head ?kf1; (case kf1 => k_all)) | (refine' UpdF.tail ?_ ?kf2; (case kf2 => k_updF); (first | (refine' Apart.l ?kp1; (case kp1 => (with_reducible assumption))) | (refine' Apart.r ?kp1; (case kp1 => (with_reducible assumption))) | k_ne)) | fail "k_updF")
  k_with "k_mem" => (first | (refine mem_of ?_; (with_reducible assumption)) | (refine mem_of ?_; refine' TailIs.sub ?km1 _ ?km2; (case km1 => first | (refine' TailIs.rebase ?tr1; (case tr1 => (with_reducible assumption))) | (refine' TailIs.at ?tr1 _; (case tr1 => (with_reducible assumption)))); (case km2 => (with_reducible assumption))) | fail "k_mem")
  k_with "call builtin:len" => ((k_here; (with_reducible show wpAny _ _ (call (Value.builtin "len") [Value.ref _]) _ _ _); k_dflt (refine' len_ints_fit (News.isList ?n ?m) ?i ?f ?_; (case n => k_asm); (case m => k_mem); (case i => (with_reducible assumption)); (case f => k_extra "OM"); k_whole)))
  k_with "subscriptTail Name Name ref int" => ((k_here; (with_reducible show wpAny _ _ (subscriptTail _ _ (Value.ref _) (Value.int _ _)) _ _ _); (with_unfolding_all refine' item_list_ints (News.isList ?n ?m) ?k2 ?k3 ?k4 ?k5 ?_; (case n => k_asm); (case m => k_mem); (case k2 => (with_reducible assumption)); (case k3 => k_extra "OM"); (case k4 => k_extra "OM"); (case k5 => k_extra "OM"); k_whole); intro _))
  k_with "k_enter" => (first
  | (refine' code_def ?k1 ?k2 ?k3 ?k4 ?k5 ?kA ?kF ?kK ?k6 ?k7 ?k8 ?k9 ?kB ?_ ?c2 ?c3 ?c4 ?c5; (case kA => exact rfl); (case kF => exact rfl); (case kK => first | exact rfl | (with_reducible assumption)); (case k1 => k_asm); (case k2 => k_asm); (case k3 => k_asm); (case k4 => k_asm); (case k5 => k_asm); (case k6 => k_is); (case k7 => k_is); (case k8 => ktr_room); (case k9 => first | exact BindsTo.of_eq rfl | exact binds_K (by k_in) rfl (by k_is) rfl rfl rfl | fail "k_enter: no rule for these arguments"); (case c5 => decide); (case kB => exact locs rfl); (case c2 => exact rfl); (case c3 => exact rfl); (case c4 => exact rfl); k_whole; intro _ _ _ _ _ zzN' _ _ _; (try dsimp only); (try k_fold))
  | (refine' code_defC ?k1 ?k2 ?k3 ?k4 ?k5 ?kA ?kF ?kK ?k6 ?k7 ?k8 ?k9 ?kB ?kD ?_ ?c2 ?c3 ?c4; (case kA => exact rfl); (case kF => exact rfl); (case kK => first | exact rfl | (with_reducible assumption)); (case k1 => k_asm); (case k2 => k_asm); (case k3 => k_asm); (case k4 => k_asm); (case k5 => k_asm); (case k6 => k_is); (case k7 => k_is); (case k8 => ktr_room); (case k9 => first | exact BindsTo.of_eq rfl | exact binds_K (by k_in) rfl (by k_is) rfl rfl rfl | fail "k_enter: no rule for these arguments"); (case kB => exact rfl); (case kD => decide +kernel); (case c2 => exact rfl); (case c3 => exact rfl); (case c4 => exact rfl); k_whole; intro _ _ _ _ _ _ _ zzN' zzY' _ _ _ zzl1; revert zzl1; intro _; (have _ := Mk9.mk); k_cells zzY'; (try (simp only [List.cons_append, List.nil_append] at zzN'; revert zzN'; intro _)); (try dsimp only); (try k_fold)))
  k_with "call type:tuple" => ((k_here; (with_reducible show wpAny _ _ (call (Value.type _) [Value.ref _]) _ _ _); k_dflt (refine' kde_tupleOf ?k1 ?k2 (News.isList ?k3 ?k6) ?k4 ?k5 ?_; (case k1 => k_asm); (case k2 => k_asm); (case k3 => k_asm); (case k6 => k_mem); (case k4 => (simp only [List.size_toArray]; k_extra "OM")); (case k5 => exact rfl); k_whole); intro _ _ _ _ zzl1; revert zzl1; intro _; (have _ := Mk9.mk); (try k_sweep)))
  k_with "tb_rel" => (first | (refine' TailIs.rebase ?tr1; (case tr1 => (with_reducible assumption))) | (refine' TailIs.at ?tr1 _; (case tr1 => (with_reducible assumption))) | (refine' TailIs.moveT ?tb1; (case tb1 => tb_rel)) | (refine' TailIs.cons ?tb1; (case tb1 => tb_rel)) | exact TailIs.nil)
  trivial
-- every old address stands in the ledger
theorem rows_C2_2 : True := by
  k_with "kcf_m" => (first
  | (refine' covC ?kc1 ?kc2; (case kc1 => k_mem); (case kc2 => kcf_m))
  | exact List.forall_mem_nil _
  | (intro zzq9 zzhq9; refine ⟨Prod.snd zzq9, ?_⟩; repeat (first | exact zzhq9 | (refine' TailIs.coverAt ?tc1 (Run.sub ?tc2) zzq9 zzhq9; (case tc1 => (with_reducible assumption)); (case tc2 => (with_reducible assumption))) | refine List.mem_cons_of_mem _ ?_)))
  trivial
-- what is made here is none of the old
theorem rows_C2_3 : True := by
  k_with "kcf_all" => ((intro zzq9 zzhq9 zzho9; repeat (first | exact zzho9 | refine List.forall_mem_cons.mpr ⟨tmp_ne (by (with_reducible assumption)) (by kcf_m) zzq9 zzhq9, ?_⟩)))
  k_with "tb_start" => ((
  (rename Grow _ _ _ _ => zzG9)
  (have zzgB9 := Grow.base zzG9)
  (repeat (rename Run _ _ (Grow.R zzG9) => zzR9; have _ := Run.step zzR9 zzG9 (by kcf_m) (by kcf_all); clear zzR9))
  (repeat (rename DatIn (Grow.R zzG9) _ _ => zzhX9; have _ := DatIn.mono zzgB9 zzhX9; clear zzhX9))
  (repeat (rename DatAll (Grow.R zzG9) _ _ => zzhX9; have _ := DatAll.mono zzgB9 zzhX9; clear zzhX9))
  (repeat (rename IntsAt (Grow.R zzG9) _ _ => zzhX9; have _ := IntsAt.mono zzhX9 zzgB9; clear zzhX9))
  (repeat (rename (_ ∈ Grow.R zzG9) => zzhX9; have _ := zzgB9 _ zzhX9; clear zzhX9))
  (repeat (rename OffL (Grow.R zzG9) _ => zzhX9; have _ := Grow.offL zzG9 zzhX9 ⟨_, by k_mem⟩ (by k_all); clear zzhX9))
  (have zzhS9 := Grow.sub zzG9; (first | refine fd_6 zzhS9 ?_ | refine fd_5 zzhS9 ?_ | refine fd_4 zzhS9 ?_ | refine fd_3 zzhS9 ?_ | refine fd_2 zzhS9 ?_ | refine fd_1 zzhS9 ?_ | refine fd_0 zzhS9 ?_); clear zzhS9)
  clear zzgB9 zzG9
  intros))
  k_with "kqd_in" => (first | (refine' DatIn.mono ?kd1 ?kd2; (case kd2 => first | (with_reducible assumption) | assumption); (case kd1 => (intro _ zzhp9; repeat (first | exact zzhp9 | (refine' TailIs.sub ?kd3 _ zzhp9; (case kd3 => first | (refine' TailIs.rebase ?tr1; (case tr1 => (with_reducible assumption))) | (refine' TailIs.at ?tr1 _; (case tr1 => (with_reducible assumption))))) | refine List.mem_cons_of_mem _ ?_)))) | fail "kqd_in")
  k_with "kqd_all" => (first | (refine' DatAll.mono ?kd1 ?kd2; (case kd2 => first | (with_reducible assumption) | assumption); (case kd1 => (intro _ zzhp9; repeat (first | exact zzhp9 | (refine' TailIs.sub ?kd3 _ zzhp9; (case kd3 => first | (refine' TailIs.rebase ?tr1; (case tr1 => (with_reducible assumption))) | (refine' TailIs.at ?tr1 _; (case tr1 => (with_reducible assumption))))) | refine List.mem_cons_of_mem _ ?_)))) | fail "kqd_all")
  k_with "compareOp Eq ref ref" => ((k_here; (with_reducible show wpAny _ _ (compareOp CmpOp.Eq (Value.ref _) (Value.ref _)) _ _ _); k_dflt (refine' dat_eq ?n9 ?da (fun _ h => h) ?db (fun _ h => h) ?oa ?ob ?u9 ?_; (case n9 => k_asm); (case da => kqd_in); (case db => kqd_in); (case oa => first | exact domD_ok _ | rfl | (with_reducible assumption)); (case ob => first | exact domD_ok _ | rfl | (with_reducible assumption)); (case u9 => ktr_units); intro _ _)))
  k_with "compareOp NotEq ref ref" => ((k_here; (with_reducible show wpAny _ _ (compareOp CmpOp.NotEq (Value.ref _) (Value.ref _)) _ _ _); k_dflt (refine' dat_ne ?n9 ?da (fun _ h => h) ?db (fun _ h => h) ?oa ?ob ?u9 ?_; (case n9 => k_asm); (case da => kqd_in); (case db => kqd_in); (case oa => first | exact domD_ok _ | rfl | (with_reducible assumption)); (case ob => first | exact domD_ok _ | rfl | (with_reducible assumption)); (case u9 => ktr_units); intro _ _)))
  k_with "call builtin:list.append" => ((k_here; (with_reducible show wpAny _ _ (call (Value.builtin _) [Value.ref _, _]) _ _ _); k_dflt (refine' append_L ?k1 ?k2 ?k3 ?z ?_; (case k1 => k_asm); (case k2 => k_asm); (case k3 => k_upd); (case z => first | k_extra "OM" | ((simp only [List.length_cons, List.length_nil, List.length_append]); k_extra "OM")); k_whole); intro _ _ _; (try k_sweep)))
  k_with "call builtin:min" => ((k_here; (with_reducible show wpAny _ _ (call (Value.builtin _) [Value.ref _]) _ _ _); k_dflt ((refine' min_L ?f9 ?n9 ?m9 ?i9 ?z9 ?h9 ?_; (case f9 => k_asm); (case n9 => k_asm); (case m9 => k_mem); (case i9 => (with_reducible assumption)); (case z9 => first | k_extra "OM" | (simp_all; k_extra "OM")); (case h9 => with_unfolding_all rfl)); intro _ _ _ _ _)))
  k_with "call builtin:max" => ((k_here; (with_reducible show wpAny _ _ (call (Value.builtin _) [Value.ref _]) _ _ _); k_dflt ((refine' max_L ?f9 ?n9 ?m9 ?i9 ?z9 ?h9 ?_; (case f9 => k_asm); (case n9 => k_asm); (case m9 => k_mem); (case i9 => (with_reducible assumption)); (case z9 => first | k_extra "OM" | (simp_all; k_extra "OM")); (case h9 => with_unfolding_all rfl)); intro _ _ _ _ _)))
  k_with "eval ListComp" => ((k_here; k_dflt (refine pc_ListComp (_F₀ := by k_asm) (by with_unfolding_all rfl) (by decide) (by rfl) (by decide) (by rfl) (by rfl) (by decide) ?_)))
  trivial
theorem upTo_c {w : World} {da : Addr} {d : Dom} {k : Int} {tk : Tok} {news r0 rest : Led} {g : Led → Led}
  (TI : TailIs news r0 rest g) (D : DatIn rest (.ref da) (domD d)) (hlen : d.length ≤ 1000) :
  Call w 2 75 [.ref da, .int k tk] news (fun r nw => ∃ ra rest', r = .ref ra ∧ nw = g rest' ∧ Grow news r0 rest rest' ∧ DatIn rest' (.ref ra) (domD (upTo d k)) ∧ (upTo d k).length ≤ d.length) := by
  intro p loose mean mg mb dp un gd cn cs a ccd cl outer A₀ base h₀ L m s Q E B F X T hk hd hu N hret
  revert X; k_fill; intro X
  obtain ⟨ex, hex, hen⟩ := TI.split
  have hsub := TI.sub
  w_strict (
    refine wpAny_call ?_
    k_dflt k_enter
    k_steps
    rename_i gg LL hh tt FG F1 B1 X1 T1 l1 _ oc d1 N1
    have d1' : oc.data = .cell (some (.int k tk)) := d1
    clear d1
    refine dom_src (fun p => decide (p.1 ≤ k)) (fun p => ivD (p.1, if k < p.2 then k else p.2)) (by rfl) F1 N1 D hsub hlen ?_ ?_
    · clear F1 N1
      intro p t₁ t₂ tl ys I oI C oC D m₂ h tk E' hp hC ha hb F' N' ne hc
      k_steps
      · (rename News _ _ _ _ => N9; rename Fr _ _ _ _ => F9; rename_i l9 _)
        exact ⟨decide_eq_true (by assumption), _, _, _, _, rfl, F9, rot3 N9, ⟨by k_ne, by k_ne, by k_ne, by k_ne⟩, fun q hq => Nat.ne_of_lt (l9 q (.tail _ (.tail _ (.tail _ (.tail _ hq))))), rfl, DatIn.tuple (.head _) (.cons (.int _ _) (.cons (.int _ _) .nil))⟩
      · exact ⟨decide_eq_false (by assumption), _, _, rfl, by assumption, by assumption⟩
    · intro D h tk tl ys F' N' hfr hcD hoff hyl hys
      try dsimp only
      k_steps
      (rename News _ _ _ _ => N9; rename Fr _ _ _ _ => F9; rename_i DD hD5 F5 N5 hL5 l9 _ _)
      refine hret _ _ _ _ F9 (done_pure (new := (DD, tupO ys 0) :: tl) hex hen hsub N9 (fun q hq => ?_) (fun q hq => ?_)) ⟨DD, _, rfl, rfl, grow_new TI (fun q hq r hr => ?_), ?_, ?_⟩
      · rcases List.mem_cons.mp hq with e | hq
        · rw [e]; exact .head _
        · exact .tail _ (.tail _ (.tail _ (List.mem_append.mpr (.inl hq))))
      · exact .tail _ (.tail _ (.tail _ (List.mem_append.mpr (.inr hq))))
      · rcases List.mem_cons.mp hq with e | hq
        · rw [e]; exact Ne.symm (Nat.ne_of_lt (hL5 r (.tail _ (.tail _ (List.mem_append.mpr (.inr hr))))))
        · exact hfr q hq r hr
      · refine DatIn.tuple (.head _) ?_
        have e : (upTo d k).map ivD = (d.filter (fun p => decide (p.1 ≤ k))).map fun p => ivD (p.1, if k < p.2 then k else p.2) := by simp only [upTo, List.map_map]; rfl
        rw [e]
        exact hys.mono fun q hq => List.mem_cons_of_mem _ hq
      · simp only [upTo, List.length_map]; exact List.length_filter_le ..)
theorem fromOn_c {w : World} {da : Addr} {d : Dom} {k : Int} {tk : Tok} {news r0 rest : Led} {g : Led → Led}
  (TI : TailIs news r0 rest g) (D : DatIn rest (.ref da) (domD d)) (hlen : d.length ≤ 1000) :
  Call w 2 80 [.ref da, .int k tk] news (fun r nw => ∃ ra rest', r = .ref ra ∧ nw = g rest' ∧ Grow news r0 rest rest' ∧ DatIn rest' (.ref ra) (domD (fromOn d k)) ∧ (fromOn d k).length ≤ d.length) := by
  intro p loose mean mg mb dp un gd cn cs a ccd cl outer A₀ base h₀ L m s Q E B F X T hk hd hu N hret
  revert X; k_fill; intro X
  obtain ⟨ex, hex, hen⟩ := TI.split
  have hsub := TI.sub
  w_strict (
    refine wpAny_call ?_
    k_dflt k_enter
    k_steps
    rename_i gg LL hh tt FG F1 B1 X1 T1 l1 _ oc d1 N1
    have d1' : oc.data = .cell (some (.int k tk)) := d1
    clear d1
    refine dom_src (fun p => decide (k ≤ p.2)) (fun p => ivD (if p.1 < k then k else p.1, p.2)) (by rfl) F1 N1 D hsub hlen ?_ ?_
    · clear F1 N1
      intro p t₁ t₂ tl ys I oI C oC D m₂ h tk E' hp hC ha hb F' N' ne hc
      k_steps
      · (rename News _ _ _ _ => N9; rename Fr _ _ _ _ => F9; rename_i l9 _)
        exact ⟨decide_eq_true (by assumption), _, _, _, _, rfl, F9, rot3 N9, ⟨by k_ne, by k_ne, by k_ne, by k_ne⟩, fun q hq => Nat.ne_of_lt (l9 q (.tail _ (.tail _ (.tail _ (.tail _ hq))))), rfl, DatIn.tuple (.head _) (.cons (.int _ _) (.cons (.int _ _) .nil))⟩
      · exact ⟨decide_eq_false (by assumption), _, _, rfl, by assumption, by assumption⟩
    · intro D h tk tl ys F' N' hfr hcD hoff hyl hys
      try dsimp only
      k_steps
      (rename News _ _ _ _ => N9; rename Fr _ _ _ _ => F9; rename_i DD hD5 F5 N5 hL5 l9 _ _)
      refine hret _ _ _ _ F9 (done_pure (new := (DD, tupO ys 0) :: tl) hex hen hsub N9 (fun q hq => ?_) (fun q hq => ?_)) ⟨DD, _, rfl, rfl, grow_new TI (fun q hq r hr => ?_), ?_, ?_⟩
      · rcases List.mem_cons.mp hq with e | hq
        · rw [e]; exact .head _
        · exact .tail _ (.tail _ (.tail _ (List.mem_append.mpr (.inl hq))))
      · exact .tail _ (.tail _ (.tail _ (List.mem_append.mpr (.inr hq))))
      · rcases List.mem_cons.mp hq with e | hq
        · rw [e]; exact Ne.symm (Nat.ne_of_lt (hL5 r (.tail _ (.tail _ (List.mem_append.mpr (.inr hr))))))
        · exact hfr q hq r hr
      · refine DatIn.tuple (.head _) ?_
        have e : (fromOn d k).map ivD = (d.filter (fun p => decide (k ≤ p.2))).map fun p => ivD (if p.1 < k then k else p.1, p.2) := by simp only [fromOn, List.map_map]; rfl
        rw [e]
        exact hys.mono fun q hq => List.mem_cons_of_mem _ hq
      · simp only [fromOn, List.length_map]; exact List.length_filter_le ..)
theorem rows_C3_0 : True := by
  k_with_none
  w_top off
  trivial
theorem rows_C3_1 : True := by
  k_with "LT9" => (first | (with_reducible assumption) | (refine' ltM ?lt1 ?lt2; (case lt1 => (with_reducible assumption)); (case lt2 => (repeat (first | exact List.Mem.head _ | refine List.Mem.tail _ ?_)); done)) | (refine' ltT ?lt0 ?lt1 ?lt2; (case lt0 => (with_reducible assumption)); (case lt1 => (with_reducible assumption)); (case lt2 => (repeat (first | exact List.Mem.head _ | refine List.Mem.tail _ ?_)); done)) | fail "LT9")
  k_with "k_ne" => (first | (with_reducible assumption) | (refine' Ne.symm ?ne1; (case ne1 => (with_reducible assumption))) | (refine neG ?_; walk_at "LT9") | (refine neL ?_; walk_at "LT9") | (refine neS ?_; walk_at "LT9") | (refine neT ?_; walk_at "LT9") | (refine neS2 ?_; walk_at "LT9") | (refine neT2 ?_; walk_at "LT9") | (refine neS3 ?_; walk_at "LT9") | (refine neT3 ?_; walk_at "LT9") | (refine' neM (l := _ :: _) ?lt1 ?lt2; (case lt1 => (with_reducible assumption)); (case lt2 => (repeat (first | exact List.Mem.head _ | refine List.Mem.tail _ ?_)); done)) | (refine' neN (l := _ :: _) ?lt1 ?lt2; (case lt1 => (with_reducible assumption)); (case lt2 => (repeat (first | exact List.Mem.head _ | refine List.Mem.tail _ ?_)); done)) | exact nc12 | exact nc21 | exact nc13 | exact nc31 | exact nc23 | exact nc32 | fail "k_ne")
  k_with "ktr_room" => (first | (rename (_ + _ < recursionLimit) => zzh9; first | exact rmU 0 zzh9 rfl rfl | exact rmU 1 zzh9 rfl rfl | exact rmU 2 zzh9 rfl rfl | exact rmU 3 zzh9 rfl rfl | exact rmU 4 zzh9 rfl rfl | exact rmU 5 zzh9 rfl rfl | exact rmU 6 zzh9 rfl rfl | exact rmU 7 zzh9 rfl rfl | exact rmU 8 zzh9 rfl rfl | exact rmU 9 zzh9 rfl rfl) | exact ltB rfl)
  k_with "ktr_units" => (first | (rename (_ + _ + _ < cLine) => zzh9; first | exact umU 0 zzh9 rfl rfl | exact umU 3 zzh9 rfl rfl | exact umU 6 zzh9 rfl rfl | exact umU 9 zzh9 rfl rfl | exact umU 12 zzh9 rfl rfl | exact umU 1 zzh9 rfl rfl | exact umU 4 zzh9 rfl rfl | exact umU 7 zzh9 rfl rfl | exact umU 10 zzh9 rfl rfl | exact umU 2 zzh9 rfl rfl | exact umU 5 zzh9 rfl rfl | exact umU 8 zzh9 rfl rfl | exact umU 11 zzh9 rfl rfl | exact umU 13 zzh9 rfl rfl | exact umU 14 zzh9 rfl rfl | exact umU 15 zzh9 rfl rfl | exact umV 0 zzh9 rfl rfl | exact umV 3 zzh9 rfl rfl | exact umV 6 zzh9 rfl rfl | exact umV 9 zzh9 rfl rfl | exact umV 12 zzh9 rfl rfl | exact umV 1 zzh9 rfl rfl | exact umV 4 zzh9 rfl rfl | exact umV 7 zzh9 rfl rfl | exact umV 10 zzh9 rfl rfl | exact umV 2 zzh9 rfl rfl | exact umV 5 zzh9 rfl rfl | exact umV 8 zzh9 rfl rfl | exact umV 11 zzh9 rfl rfl | exact umV 13 zzh9 rfl rfl | exact umV 14 zzh9 rfl rfl | exact umV 15 zzh9 rfl rfl) | exact ltB rfl)
  k_with "OM" => (first | (with_reducible assumption) | exact Nat.zero_le _ | (refine' leB ?om1 ?om2; (case om1 => (with_reducible assumption)); (case om2 => (fail_if_success (fail_if_success decide)); exact rfl)) | (refine' leS ?om1 ?om2; (case om1 => (with_reducible assumption)); (case om2 => (fail_if_success (fail_if_success decide)); exact rfl)) | (with_reducible refine' ltL ?om1 ?om2; (case om1 => (with_reducible assumption)); (case om2 => (fail_if_success (fail_if_success decide)); exact rfl)) | ((fail_if_success (fail_if_success decide)); exact ltB rfl) | (refine' i0_1 ?om1; (case om1 => (with_reducible assumption))) | (refine' i0_2 ?om1; (case om1 => (with_reducible assumption))) | (refine' i0_3 ?om1; (case om1 => (with_reducible assumption))) | (refine' il_0 ?om1 ?om2; (case om1 => (with_reducible assumption)); (case om2 => decide)) | (refine' il_1 ?om1 ?om2; (case om1 => (with_reducible assumption)); (case om2 => decide)) | (refine' il_2 ?om1 ?om2; (case om1 => (with_reducible assumption)); (case om2 => decide)) | (refine' il_3 ?om1 ?om2; (case om1 => (with_reducible assumption)); (case om2 => decide)) | exact ia_3 | exact ia_5 | exact ic_0 | decide | omega)
  k_with "k_all" => (first
  | (with_reducible assumption)
  | (refine' OffL.out ?ko1; (case ko1 => (with_reducible assumption)))
  | (refine' offA ?ko1; (case ko1 => (with_reducible assumption)))
  | (refine' TailIs.offAtL ?ko1 ?ko2 ?ko3; (case ko1 => (with_reducible assumption)); (case ko2 => (with_reducible assumption)); (case ko3 => (with_reducible assumption)))
  | (refine' offC ?ka1 ?ka2; (case ka1 => first | (refine' Apart.l ?kp1; (case kp1 => (with_reducible assumption))) | (refine' Apart.r ?kp1; (case kp1 => (with_reducible assumption))) | k_ne); (case ka2 => k_all))
  | assumption)
  k_with "k_upd" => (first | (refine' Upd.head ?ku1; (case ku1 => k_all)) | (refine' Upd.tail ?ku1 ?ku2; (case ku1 => first | (refine' Apart.l ?kp1; (case kp1 => (with_reducible assumption))) | (refine' Apart.r ?kp1; (case kp1 => (with_reducible assumption))) | k_ne); (case ku2 => k_upd)) | fail "k_upd")
  k_with "k_updF" => (first | (refine' Pull.head ?kf1; (case kf1 => k_all)) | (refine' Pull.tail ?_ ?kf2; (case kf2 => k_updF); (first | (refine' Apart.l ?kp1; (case kp1 => (with_reducible assumption))) | (refine' Apart.r ?kp1; (case kp1 => (with_reducible assumption))) | k_ne)) | (refine' UpdF.head ?kf1; (case kf1 => k_all)) | (refine' UpdF.tail ?_ ?kf2; (case kf2 => k_updF); (first | (refine' Apart.l ?kp1; (case kp1 => (with_reducible assumption))) | (refine' Apart.r ?kp1; (case kp1 => (with_reducible assumption))) | k_ne)) | fail "k_updF")
  k_with "k_mem" => (first | (refine mem_of ?_; (with_reducible assumption)) | (refine mem_of ?_; refine' TailIs.sub ?km1 _ ?km2; (case km1 => first | (refine' TailIs.rebase ?tr1; (case tr1 => (with_reducible assumption))) | (refine' TailIs.at ?tr1 _; (case tr1 => (with_reducible assumption)))); (case km2 => (with_reducible assumption))) | fail "k_mem")
  k_with "call builtin:len" => ((k_here; (with_reducible show wpAny _ _ (call (Value.builtin "len") [Value.ref _]) _ _ _); k_dflt (refine' len_ints_fit (News.isList ?n ?m) ?i ?f ?_; (case n => k_asm); (case m => k_mem); (case i => (with_reducible assumption)); (case f => k_extra "OM"); k_whole)))
  k_with "subscriptTail Name Name ref int" => ((k_here; (with_reducible show wpAny _ _ (subscriptTail _ _ (Value.ref _) (Value.int _ _)) _ _ _); (with_unfolding_all refine' item_list_ints (News.isList ?n ?m) ?k2 ?k3 ?k4 ?k5 ?_; (case n => k_asm); (case m => k_mem); (case k2 => (with_reducible assumption)); (case k3 => k_extra "OM"); (case k4 => k_extra "OM"); (case k5 => k_extra "OM"); k_whole); intro _))
  k_with "k_enter" => (first
  | (refine' code_def ?k1 ?k2 ?k3 ?k4 ?k5 ?kA ?kF ?kK ?k6 ?k7 ?k8 ?k9 ?kB ?_ ?c2 ?c3 ?c4 ?c5; (case kA => exact rfl); (case kF => exact rfl); (case kK => first | exact rfl | (with_reducible assumption)); (case k1 => k_asm); (case k2 => k_asm); (case k3 => k_asm); (case k4 => k_asm); (case k5 => k_asm); (case k6 => k_is); (case k7 => k_is); (case k8 => ktr_room); (case k9 => first | exact BindsTo.of_eq rfl | exact binds_K (by k_in) rfl (by k_is) rfl rfl rfl | fail "k_enter: no rule for these arguments"); (case c5 => decide); (case kB => exact locs rfl); (case c2 => exact rfl); (case c3 => exact rfl); (case c4 => exact rfl); k_whole; intro _ _ _ _ _ zzN' _ _ _; (try dsimp only); (try k_fold))
  | (refine' code_defC ?k1 ?k2 ?k3 ?k4 ?k5 ?kA ?kF ?kK ?k6 ?k7 ?k8 ?k9 ?kB ?kD ?_ ?c2 ?c3 ?c4; (case kA => exact rfl); (case kF => exact rfl); (case kK => first | exact rfl | (with_reducible assumption)); (case k1 => k_asm); (case k2 => k_asm); (case k3 => k_asm); (case k4 => k_asm); (case k5 => k_asm); (case k6 => k_is); (case k7 => k_is); (case k8 => ktr_room); (case k9 => first | exact BindsTo.of_eq rfl | exact binds_K (by k_in) rfl (by k_is) rfl rfl rfl | fail "k_enter: no rule for these arguments"); (case kB => exact rfl); (case kD => decide +kernel); (case c2 => exact rfl); (case c3 => exact rfl); (case c4 => exact rfl); k_whole; intro _ _ _ _ _ _ _ zzN' zzY' _ _ _ zzl1; revert zzl1; intro _; (have _ := Mk9.mk); k_cells zzY'; (try (simp only [List.cons_append, List.nil_append] at zzN'; revert zzN'; intro _)); (try dsimp only); (try k_fold)))
  k_with "call type:tuple" => ((k_here; (with_reducible show wpAny _ _ (call (Value.type _) [Value.ref _]) _ _ _); k_dflt (refine' kde_tupleOf ?k1 ?k2 (News.isList ?k3 ?k6) ?k4 ?k5 ?_; (case k1 => k_asm); (case k2 => k_asm); (case k3 => k_asm); (case k6 => k_mem); (case k4 => (simp only [List.size_toArray]; k_extra "OM")); (case k5 => exact rfl); k_whole); intro _ _ _ _ zzl1; revert zzl1; intro _; (have _ := Mk9.mk); (try k_sweep)))
  k_with "tb_rel" => (first | (refine' TailIs.rebase ?tr1; (case tr1 => (with_reducible assumption))) | (refine' TailIs.at ?tr1 _; (case tr1 => (with_reducible assumption))) | (refine' TailIs.moveT ?tb1; (case tb1 => tb_rel)) | (refine' TailIs.cons ?tb1; (case tb1 => tb_rel)) | exact TailIs.nil)
  trivial
-- every old address stands in the ledger
theorem rows_C3_2 : True := by
  k_with "kcf_m" => (first
  | (refine' covC ?kc1 ?kc2; (case kc1 => k_mem); (case kc2 => kcf_m))
  | exact List.forall_mem_nil _
  | (intro zzq9 zzhq9; refine ⟨Prod.snd zzq9, ?_⟩; repeat (first | exact zzhq9 | (refine' TailIs.coverAt ?tc1 (Run.sub ?tc2) zzq9 zzhq9; (case tc1 => (with_reducible assumption)); (case tc2 => (with_reducible assumption))) | refine List.mem_cons_of_mem _ ?_)))
  trivial
-- what is made here is none of the old
theorem rows_C3_3 : True := by
  k_with "kcf_all" => ((intro zzq9 zzhq9 zzho9; repeat (first | exact zzho9 | refine List.forall_mem_cons.mpr ⟨tmp_ne (by (with_reducible assumption)) (by kcf_m) zzq9 zzhq9, ?_⟩)))
  k_with "tb_start" => ((
  (rename Grow _ _ _ _ => zzG9)
  (have zzgB9 := Grow.base zzG9)
  (repeat (rename Run _ _ (Grow.R zzG9) => zzR9; have _ := Run.step zzR9 zzG9 (by kcf_m) (by kcf_all); clear zzR9))
  (repeat (rename DatIn (Grow.R zzG9) _ _ => zzhX9; have _ := DatIn.mono zzgB9 zzhX9; clear zzhX9))
  (repeat (rename DatAll (Grow.R zzG9) _ _ => zzhX9; have _ := DatAll.mono zzgB9 zzhX9; clear zzhX9))
  (repeat (rename IntsAt (Grow.R zzG9) _ _ => zzhX9; have _ := IntsAt.mono zzhX9 zzgB9; clear zzhX9))
  (repeat (rename (_ ∈ Grow.R zzG9) => zzhX9; have _ := zzgB9 _ zzhX9; clear zzhX9))
  (repeat (rename OffL (Grow.R zzG9) _ => zzhX9; have _ := Grow.offL zzG9 zzhX9 ⟨_, by k_mem⟩ (by k_all); clear zzhX9))
  (have zzhS9 := Grow.sub zzG9; (first | refine fd_6 zzhS9 ?_ | refine fd_5 zzhS9 ?_ | refine fd_4 zzhS9 ?_ | refine fd_3 zzhS9 ?_ | refine fd_2 zzhS9 ?_ | refine fd_1 zzhS9 ?_ | refine fd_0 zzhS9 ?_); clear zzhS9)
  clear zzgB9 zzG9
  intros))
  k_with "kqd_in" => (first | (refine' DatIn.mono ?kd1 ?kd2; (case kd2 => first | (with_reducible assumption) | assumption); (case kd1 => (intro _ zzhp9; repeat (first | exact zzhp9 | (refine' TailIs.sub ?kd3 _ zzhp9; (case kd3 => first | (refine' TailIs.rebase ?tr1; (case tr1 => (with_reducible assumption))) | (refine' TailIs.at ?tr1 _; (case tr1 => (with_reducible assumption))))) | refine List.mem_cons_of_mem _ ?_)))) | fail "kqd_in")
  k_with "kqd_all" => (first | (refine' DatAll.mono ?kd1 ?kd2; (case kd2 => first | (with_reducible assumption) | assumption); (case kd1 => (intro _ zzhp9; repeat (first | exact zzhp9 | (refine' TailIs.sub ?kd3 _ zzhp9; (case kd3 => first | (refine' TailIs.rebase ?tr1; (case tr1 => (with_reducible assumption))) | (refine' TailIs.at ?tr1 _; (case tr1 => (with_reducible assumption))))) | refine List.mem_cons_of_mem _ ?_)))) | fail "kqd_all")
  k_with "compareOp Eq ref ref" => ((k_here; (with_reducible show wpAny _ _ (compareOp CmpOp.Eq (Value.ref _) (Value.ref _)) _ _ _); k_dflt (refine' dat_eq ?n9 ?da (fun _ h => h) ?db (fun _ h => h) ?oa ?ob ?u9 ?_; (case n9 => k_asm); (case da => kqd_in); (case db => kqd_in); (case oa => first | exact domD_ok _ | rfl | (with_reducible assumption)); (case ob => first | exact domD_ok _ | rfl | (with_reducible assumption)); (case u9 => ktr_units); intro _ _)))
  k_with "compareOp NotEq ref ref" => ((k_here; (with_reducible show wpAny _ _ (compareOp CmpOp.NotEq (Value.ref _) (Value.ref _)) _ _ _); k_dflt (refine' dat_ne ?n9 ?da (fun _ h => h) ?db (fun _ h => h) ?oa ?ob ?u9 ?_; (case n9 => k_asm); (case da => kqd_in); (case db => kqd_in); (case oa => first | exact domD_ok _ | rfl | (with_reducible assumption)); (case ob => first | exact domD_ok _ | rfl | (with_reducible assumption)); (case u9 => ktr_units); intro _ _)))
  k_with "call builtin:list.append" => ((k_here; (with_reducible show wpAny _ _ (call (Value.builtin _) [Value.ref _, _]) _ _ _); k_dflt (refine' append_L ?k1 ?k2 ?k3 ?z ?_; (case k1 => k_asm); (case k2 => k_asm); (case k3 => k_upd); (case z => first | k_extra "OM" | ((simp only [List.length_cons, List.length_nil, List.length_append]); k_extra "OM")); k_whole); intro _ _ _; (try k_sweep)))
  k_with "call builtin:min" => ((k_here; (with_reducible show wpAny _ _ (call (Value.builtin _) [Value.ref _]) _ _ _); k_dflt ((refine' min_L ?f9 ?n9 ?m9 ?i9 ?z9 ?h9 ?_; (case f9 => k_asm); (case n9 => k_asm); (case m9 => k_mem); (case i9 => (with_reducible assumption)); (case z9 => first | k_extra "OM" | (simp_all; k_extra "OM")); (case h9 => with_unfolding_all rfl)); intro _ _ _ _ _)))
  k_with "call builtin:max" => ((k_here; (with_reducible show wpAny _ _ (call (Value.builtin _) [Value.ref _]) _ _ _); k_dflt ((refine' max_L ?f9 ?n9 ?m9 ?i9 ?z9 ?h9 ?_; (case f9 => k_asm); (case n9 => k_asm); (case m9 => k_mem); (case i9 => (with_reducible assumption)); (case z9 => first | k_extra "OM" | (simp_all; k_extra "OM")); (case h9 => with_unfolding_all rfl)); intro _ _ _ _ _)))
  k_with "ktr_rel" => (((case n9 => k_asm); (case b9 => k_asm); (case f9 => k_asm); (case x9 => k_asm); (case t9 => k_asm); (case k9 => first | exact rfl | (with_reducible assumption)); (case d9 => ktr_room); (case u9 => ktr_units)))
  k_with "call ref" => ((k_here; (with_reducible show wpAny _ _ (call (Value.ref 75) _) _ _ _); k_dflt (first | ((refine' Call.cps (upTo_c ?ti ?da ?ln) t_gD ?b9 ?f9 ?x9 ?t9 ?k9 ?d9 ?u9 ?n9 ?_; ktr_rel; (case ti => tb_rel); (case da => kqd_in); (case ln => k_extra "OM")); intro _ _ _ _ _ _ zzhp9 zzN9; obtain ⟨_, _⟩ := zzhp9; (try dsimp only at zzN9); tb_start) | refine Stop.intro ?_)))
  k_with "call ref" => ((k_here; (with_reducible show wpAny _ _ (call (Value.ref 80) _) _ _ _); k_dflt (first | ((refine' Call.cps (fromOn_c ?ti ?da ?ln) t_gD ?b9 ?f9 ?x9 ?t9 ?k9 ?d9 ?u9 ?n9 ?_; ktr_rel; (case ti => tb_rel); (case da => kqd_in); (case ln => k_extra "OM")); intro _ _ _ _ _ _ zzhp9 zzN9; obtain ⟨_, _⟩ := zzhp9; (try dsimp only at zzN9); tb_start) | refine Stop.intro ?_)))
  k_with "binaryOp Add ref ref" => ((k_here; (with_reducible show wpAny _ _ (binaryOp _ (Value.ref _) (Value.ref _)) _ _ _); k_dflt ((refine' add_dom ?f9 ?n9 ?ti ?da ?db ?ln ?_; (case f9 => k_asm); (case n9 => k_asm); (case ti => tb_rel); (case da => kqd_in); (case db => kqd_in); (case ln => k_extra "OM")); intro _ _ _ _ zzN9 _ _; (try dsimp only at zzN9); tb_start)))
  trivial
local macro_rules | `(tactic| ktr_rel) => `(tactic| k_extra "ktr_rel")
def without (d : Dom) (v : Int) : Dom := upTo d (v - 1) ++ fromOn d (v + 1)
theorem without_c {w : World} {da : Addr} {d : Dom} {k : Int} {tk : Tok} {news r0 rest : Led} {g : Led → Led}
  (TI : TailIs news r0 rest g) (D : DatIn rest (.ref da) (domD d)) (hlen : d.length ≤ 1000) :
  Call w 3 87 [.ref da, .int k tk] news (fun r nw => ∃ ra rest', r = .ref ra ∧ nw = g rest' ∧ Grow news r0 rest rest' ∧ DatIn rest' (.ref ra) (domD (without d k))) := by
  intro p loose mean mg mb dp un gd cn cs a ccd cl outer A₀ base h₀ L m s Q E B F X T hk hd hu N hret
  revert X; k_fill; intro X
  have R0 : Run news rest rest := Run.refl
  w_strict (
    refine wpAny_call ?_
    k_dflt k_enter
    k_steps
    (rename Run _ _ _ => R9; rename Fr _ _ _ _ => F9; rename News _ _ _ _ => N9)
    exact hret _ _ _ _ F9 N9 ⟨_, _, rfl, rfl, Run.grow TI.base R9, by assumption⟩)
theorem rows_C4_0 : True := by
  k_with_none
  w_top off
  trivial
theorem rows_C4_1 : True := by
  k_with "LT9" => (first | (with_reducible assumption) | (refine' ltM ?lt1 ?lt2; (case lt1 => (with_reducible assumption)); (case lt2 => (repeat (first | exact List.Mem.head _ | refine List.Mem.tail _ ?_)); done)) | (refine' ltT ?lt0 ?lt1 ?lt2; (case lt0 => (with_reducible assumption)); (case lt1 => (with_reducible assumption)); (case lt2 => (repeat (first | exact List.Mem.head _ | refine List.Mem.tail _ ?_)); done)) | fail "LT9")
  k_with "k_ne" => (first | (with_reducible assumption) | (refine' Ne.symm ?ne1; (case ne1 => (with_reducible assumption))) | (refine neG ?_; walk_at "LT9") | (refine neL ?_; walk_at "LT9") | (refine neS ?_; walk_at "LT9") | (refine neT ?_; walk_at "LT9") | (refine neS2 ?_; walk_at "LT9") | (refine neT2 ?_; walk_at "LT9") | (refine neS3 ?_; walk_at "LT9") | (refine neT3 ?_; walk_at "LT9") | (refine' neM (l := _ :: _) ?lt1 ?lt2; (case lt1 => (with_reducible assumption)); (case lt2 => (repeat (first | exact List.Mem.head _ | refine List.Mem.tail _ ?_)); done)) | (refine' neN (l := _ :: _) ?lt1 ?lt2; (case lt1 => (with_reducible assumption)); (case lt2 => (repeat (first | exact List.Mem.head _ | refine List.Mem.tail _ ?_)); done)) | exact nc12 | exact nc21 | exact nc13 | exact nc31 | exact nc23 | exact nc32 | fail "k_ne")
  k_with "ktr_room" => (first | (rename (_ + _ < recursionLimit) => zzh9; first | exact rmU 0 zzh9 rfl rfl | exact rmU 1 zzh9 rfl rfl | exact rmU 2 zzh9 rfl rfl | exact rmU 3 zzh9 rfl rfl | exact rmU 4 zzh9 rfl rfl | exact rmU 5 zzh9 rfl rfl | exact rmU 6 zzh9 rfl rfl | exact rmU 7 zzh9 rfl rfl | exact rmU 8 zzh9 rfl rfl | exact rmU 9 zzh9 rfl rfl) | exact ltB rfl)
  k_with "ktr_units" => (first | (rename (_ + _ + _ < cLine) => zzh9; first | exact umU 0 zzh9 rfl rfl | exact umU 3 zzh9 rfl rfl | exact umU 6 zzh9 rfl rfl | exact umU 9 zzh9 rfl rfl | exact umU 12 zzh9 rfl rfl | exact umU 1 zzh9 rfl rfl | exact umU 4 zzh9 rfl rfl | exact umU 7 zzh9 rfl rfl | exact umU 10 zzh9 rfl rfl | exact umU 2 zzh9 rfl rfl | exact umU 5 zzh9 rfl rfl | exact umU 8 zzh9 rfl rfl | exact umU 11 zzh9 rfl rfl | exact umU 13 zzh9 rfl rfl | exact umU 14 zzh9 rfl rfl | exact umU 15 zzh9 rfl rfl | exact umV 0 zzh9 rfl rfl | exact umV 3 zzh9 rfl rfl | exact umV 6 zzh9 rfl rfl | exact umV 9 zzh9 rfl rfl | exact umV 12 zzh9 rfl rfl | exact umV 1 zzh9 rfl rfl | exact umV 4 zzh9 rfl rfl | exact umV 7 zzh9 rfl rfl | exact umV 10 zzh9 rfl rfl | exact umV 2 zzh9 rfl rfl | exact umV 5 zzh9 rfl rfl | exact umV 8 zzh9 rfl rfl | exact umV 11 zzh9 rfl rfl | exact umV 13 zzh9 rfl rfl | exact umV 14 zzh9 rfl rfl | exact umV 15 zzh9 rfl rfl) | exact ltB rfl)
  k_with "OM" => (first | (with_reducible assumption) | exact Nat.zero_le _ | (refine' leB ?om1 ?om2; (case om1 => (with_reducible assumption)); (case om2 => (fail_if_success (fail_if_success decide)); exact rfl)) | (refine' leS ?om1 ?om2; (case om1 => (with_reducible assumption)); (case om2 => (fail_if_success (fail_if_success decide)); exact rfl)) | (with_reducible refine' ltL ?om1 ?om2; (case om1 => (with_reducible assumption)); (case om2 => (fail_if_success (fail_if_success decide)); exact rfl)) | ((fail_if_success (fail_if_success decide)); exact ltB rfl) | (refine' i0_1 ?om1; (case om1 => (with_reducible assumption))) | (refine' i0_2 ?om1; (case om1 => (with_reducible assumption))) | (refine' i0_3 ?om1; (case om1 => (with_reducible assumption))) | (refine' il_0 ?om1 ?om2; (case om1 => (with_reducible assumption)); (case om2 => decide)) | (refine' il_1 ?om1 ?om2; (case om1 => (with_reducible assumption)); (case om2 => decide)) | (refine' il_2 ?om1 ?om2; (case om1 => (with_reducible assumption)); (case om2 => decide)) | (refine' il_3 ?om1 ?om2; (case om1 => (with_reducible assumption)); (case om2 => decide)) | exact ia_3 | exact ia_5 | exact ic_0 | decide | omega)
  k_with "k_all" => (first
  | (with_reducible assumption)
  | (refine' OffL.out ?ko1; (case ko1 => (with_reducible assumption)))
  | (refine' offA ?ko1; (case ko1 => (with_reducible assumption)))
  | (refine' TailIs.offAtL ?ko1 ?ko2 ?ko3; (case ko1 => (with_reducible assumption)); (case ko2 => (with_reducible assumption)); (case ko3 => (with_reducible assumption)))
  | (refine' offC ?ka1 ?ka2; (case ka1 => first | (refine' Apart.l ?kp1; (case kp1 => (with_reducible assumption))) | (refine' Apart.r ?kp1; (case kp1 => (with_reducible assumption))) | k_ne); (case ka2 => k_all))
  | assumption)
  k_with "k_upd" => (first | (refine' Upd.head ?ku1; (case ku1 => k_all)) | (refine' Upd.tail ?ku1 ?ku2; (case ku1 => first | (refine' Apart.l ?kp1; (case kp1 => (with_reducible assumption))) | (refine' Apart.r ?kp1; (case kp1 => (with_reducible assumption))) | k_ne); (case ku2 => k_upd)) | fail "k_upd")
  k_with "k_updF" => (first | (refine' Pull.head ?kf1; (case kf1 => k_all)) | (refine' Pull.tail ?_ ?kf2; (case kf2 => k_updF); (first | (refine' Apart.l ?kp1; (case kp1 => (with_reducible assumption))) | (refine' Apart.r ?kp1; (case kp1 => (with_reducible assumption))) | k_ne)) | (refine' UpdF.head ?kf1; (case kf1 => k_all)) | (refine' UpdF.tail ?_ ?kf2; (case kf2 => k_updF); (first | (refine' Apart.l ?kp1; (case kp1 => (with_reducible assumption))) | (refine' Apart.r ?kp1; (case kp1 => (with_reducible assumption))) | k_ne)) | fail "k_updF")
  k_with "k_mem" => (first | (refine mem_of ?_; (with_reducible assumption)) | (refine mem_of ?_; refine' TailIs.sub ?km1 _ ?km2; (case km1 => first | (refine' TailIs.rebase ?tr1; (case tr1 => (with_reducible assumption))) | (refine' TailIs.at ?tr1 _; (case tr1 => (with_reducible assumption)))); (case km2 => (with_reducible assumption))) | fail "k_mem")
  k_with "call builtin:len" => ((k_here; (with_reducible show wpAny _ _ (call (Value.builtin "len") [Value.ref _]) _ _ _); k_dflt (refine' len_ints_fit (News.isList ?n ?m) ?i ?f ?_; (case n => k_asm); (case m => k_mem); (case i => (with_reducible assumption)); (case f => k_extra "OM"); k_whole)))
  k_with "subscriptTail Name Name ref int" => ((k_here; (with_reducible show wpAny _ _ (subscriptTail _ _ (Value.ref _) (Value.int _ _)) _ _ _); (with_unfolding_all refine' item_list_ints (News.isList ?n ?m) ?k2 ?k3 ?k4 ?k5 ?_; (case n => k_asm); (case m => k_mem); (case k2 => (with_reducible assumption)); (case k3 => k_extra "OM"); (case k4 => k_extra "OM"); (case k5 => k_extra "OM"); k_whole); intro _))
  k_with "k_enter" => (first
  | (refine' code_def ?k1 ?k2 ?k3 ?k4 ?k5 ?kA ?kF ?kK ?k6 ?k7 ?k8 ?k9 ?kB ?_ ?c2 ?c3 ?c4 ?c5; (case kA => exact rfl); (case kF => exact rfl); (case kK => first | exact rfl | (with_reducible assumption)); (case k1 => k_asm); (case k2 => k_asm); (case k3 => k_asm); (case k4 => k_asm); (case k5 => k_asm); (case k6 => k_is); (case k7 => k_is); (case k8 => ktr_room); (case k9 => first | exact BindsTo.of_eq rfl | exact binds_K (by k_in) rfl (by k_is) rfl rfl rfl | fail "k_enter: no rule for these arguments"); (case c5 => decide); (case kB => exact locs rfl); (case c2 => exact rfl); (case c3 => exact rfl); (case c4 => exact rfl); k_whole; intro _ _ _ _ _ zzN' _ _ _; (try dsimp only); (try k_fold))
  | (refine' code_defC ?k1 ?k2 ?k3 ?k4 ?k5 ?kA ?kF ?kK ?k6 ?k7 ?k8 ?k9 ?kB ?kD ?_ ?c2 ?c3 ?c4; (case kA => exact rfl); (case kF => exact rfl); (case kK => first | exact rfl | (with_reducible assumption)); (case k1 => k_asm); (case k2 => k_asm); (case k3 => k_asm); (case k4 => k_asm); (case k5 => k_asm); (case k6 => k_is); (case k7 => k_is); (case k8 => ktr_room); (case k9 => first | exact BindsTo.of_eq rfl | exact binds_K (by k_in) rfl (by k_is) rfl rfl rfl | fail "k_enter: no rule for these arguments"); (case kB => exact rfl); (case kD => decide +kernel); (case c2 => exact rfl); (case c3 => exact rfl); (case c4 => exact rfl); k_whole; intro _ _ _ _ _ _ _ zzN' zzY' _ _ _ zzl1; revert zzl1; intro _; (have _ := Mk9.mk); k_cells zzY'; (try (simp only [List.cons_append, List.nil_append] at zzN'; revert zzN'; intro _)); (try dsimp only); (try k_fold)))
  k_with "call type:tuple" => ((k_here; (with_reducible show wpAny _ _ (call (Value.type _) [Value.ref _]) _ _ _); k_dflt (refine' kde_tupleOf ?k1 ?k2 (News.isList ?k3 ?k6) ?k4 ?k5 ?_; (case k1 => k_asm); (case k2 => k_asm); (case k3 => k_asm); (case k6 => k_mem); (case k4 => (simp only [List.size_toArray]; k_extra "OM")); (case k5 => exact rfl); k_whole); intro _ _ _ _ zzl1; revert zzl1; intro _; (have _ := Mk9.mk); (try k_sweep)))
  k_with "tb_rel" => (first | (refine' TailIs.rebase ?tr1; (case tr1 => (with_reducible assumption))) | (refine' TailIs.at ?tr1 _; (case tr1 => (with_reducible assumption))) | (refine' TailIs.moveT ?tb1; (case tb1 => tb_rel)) | (refine' TailIs.cons ?tb1; (case tb1 => tb_rel)) | exact TailIs.nil)
  trivial
-- every old address stands in the ledger
theorem rows_C4_2 : True := by
  k_with "kcf_m" => (first
  | (refine' covC ?kc1 ?kc2; (case kc1 => k_mem); (case kc2 => kcf_m))
  | exact List.forall_mem_nil _
  | (intro zzq9 zzhq9; refine ⟨Prod.snd zzq9, ?_⟩; repeat (first | exact zzhq9 | (refine' TailIs.coverAt ?tc1 (Run.sub ?tc2) zzq9 zzhq9; (case tc1 => (with_reducible assumption)); (case tc2 => (with_reducible assumption))) | refine List.mem_cons_of_mem _ ?_)))
  trivial
-- what is made here is none of the old
theorem rows_C4_3 : True := by
  k_with "kcf_all" => ((intro zzq9 zzhq9 zzho9; repeat (first | exact zzho9 | refine List.forall_mem_cons.mpr ⟨tmp_ne (by (with_reducible assumption)) (by kcf_m) zzq9 zzhq9, ?_⟩)))
  k_with "tb_start" => ((
  (rename Grow _ _ _ _ => zzG9)
  (have zzgB9 := Grow.base zzG9)
  (repeat (rename Run _ _ (Grow.R zzG9) => zzR9; have _ := Run.step zzR9 zzG9 (by kcf_m) (by kcf_all); clear zzR9))
  (repeat (rename DatIn (Grow.R zzG9) _ _ => zzhX9; have _ := DatIn.mono zzgB9 zzhX9; clear zzhX9))
  (repeat (rename DatAll (Grow.R zzG9) _ _ => zzhX9; have _ := DatAll.mono zzgB9 zzhX9; clear zzhX9))
  (repeat (rename IntsAt (Grow.R zzG9) _ _ => zzhX9; have _ := IntsAt.mono zzhX9 zzgB9; clear zzhX9))
  (repeat (rename (_ ∈ Grow.R zzG9) => zzhX9; have _ := zzgB9 _ zzhX9; clear zzhX9))
  (repeat (rename OffL (Grow.R zzG9) _ => zzhX9; have _ := Grow.offL zzG9 zzhX9 ⟨_, by k_mem⟩ (by k_all); clear zzhX9))
  (have zzhS9 := Grow.sub zzG9; (first | refine fd_6 zzhS9 ?_ | refine fd_5 zzhS9 ?_ | refine fd_4 zzhS9 ?_ | refine fd_3 zzhS9 ?_ | refine fd_2 zzhS9 ?_ | refine fd_1 zzhS9 ?_ | refine fd_0 zzhS9 ?_); clear zzhS9)
  clear zzgB9 zzG9
  intros))
  k_with "kqd_in" => (first | (refine' DatIn.mono ?kd1 ?kd2; (case kd2 => first | (with_reducible assumption) | assumption); (case kd1 => (intro _ zzhp9; repeat (first | exact zzhp9 | (refine' TailIs.sub ?kd3 _ zzhp9; (case kd3 => first | (refine' TailIs.rebase ?tr1; (case tr1 => (with_reducible assumption))) | (refine' TailIs.at ?tr1 _; (case tr1 => (with_reducible assumption))))) | refine List.mem_cons_of_mem _ ?_)))) | fail "kqd_in")
  k_with "kqd_all" => (first | (refine' DatAll.mono ?kd1 ?kd2; (case kd2 => first | (with_reducible assumption) | assumption); (case kd1 => (intro _ zzhp9; repeat (first | exact zzhp9 | (refine' TailIs.sub ?kd3 _ zzhp9; (case kd3 => first | (refine' TailIs.rebase ?tr1; (case tr1 => (with_reducible assumption))) | (refine' TailIs.at ?tr1 _; (case tr1 => (with_reducible assumption))))) | refine List.mem_cons_of_mem _ ?_)))) | fail "kqd_all")
  k_with "compareOp Eq ref ref" => ((k_here; (with_reducible show wpAny _ _ (compareOp CmpOp.Eq (Value.ref _) (Value.ref _)) _ _ _); k_dflt (refine' dat_eq ?n9 ?da (fun _ h => h) ?db (fun _ h => h) ?oa ?ob ?u9 ?_; (case n9 => k_asm); (case da => kqd_in); (case db => kqd_in); (case oa => first | exact domD_ok _ | rfl | (with_reducible assumption)); (case ob => first | exact domD_ok _ | rfl | (with_reducible assumption)); (case u9 => ktr_units); intro _ _)))
  k_with "compareOp NotEq ref ref" => ((k_here; (with_reducible show wpAny _ _ (compareOp CmpOp.NotEq (Value.ref _) (Value.ref _)) _ _ _); k_dflt (refine' dat_ne ?n9 ?da (fun _ h => h) ?db (fun _ h => h) ?oa ?ob ?u9 ?_; (case n9 => k_asm); (case da => kqd_in); (case db => kqd_in); (case oa => first | exact domD_ok _ | rfl | (with_reducible assumption)); (case ob => first | exact domD_ok _ | rfl | (with_reducible assumption)); (case u9 => ktr_units); intro _ _)))
  k_with "call builtin:list.append" => ((k_here; (with_reducible show wpAny _ _ (call (Value.builtin _) [Value.ref _, _]) _ _ _); k_dflt (refine' append_L ?k1 ?k2 ?k3 ?z ?_; (case k1 => k_asm); (case k2 => k_asm); (case k3 => k_upd); (case z => first | k_extra "OM" | ((simp only [List.length_cons, List.length_nil, List.length_append]); k_extra "OM")); k_whole); intro _ _ _; (try k_sweep)))
  k_with "call builtin:min" => ((k_here; (with_reducible show wpAny _ _ (call (Value.builtin _) [Value.ref _]) _ _ _); k_dflt ((refine' min_L ?f9 ?n9 ?m9 ?i9 ?z9 ?h9 ?_; (case f9 => k_asm); (case n9 => k_asm); (case m9 => k_mem); (case i9 => (with_reducible assumption)); (case z9 => first | k_extra "OM" | (simp_all; k_extra "OM")); (case h9 => with_unfolding_all rfl)); intro _ _ _ _ _)))
  k_with "call builtin:max" => ((k_here; (with_reducible show wpAny _ _ (call (Value.builtin _) [Value.ref _]) _ _ _); k_dflt ((refine' max_L ?f9 ?n9 ?m9 ?i9 ?z9 ?h9 ?_; (case f9 => k_asm); (case n9 => k_asm); (case m9 => k_mem); (case i9 => (with_reducible assumption)); (case z9 => first | k_extra "OM" | (simp_all; k_extra "OM")); (case h9 => with_unfolding_all rfl)); intro _ _ _ _ _)))
  k_with "ktr_rel" => (((case n9 => k_asm); (case b9 => k_asm); (case f9 => k_asm); (case x9 => k_asm); (case t9 => k_asm); (case k9 => first | exact rfl | (with_reducible assumption)); (case d9 => ktr_room); (case u9 => ktr_units)))
  k_with "call ref" => ((k_here; (with_reducible show wpAny _ _ (call (Value.ref 75) _) _ _ _); k_dflt (first | ((refine' Call.cps (upTo_c ?ti ?da ?ln) t_gD ?b9 ?f9 ?x9 ?t9 ?k9 ?d9 ?u9 ?n9 ?_; ktr_rel; (case ti => tb_rel); (case da => kqd_in); (case ln => k_extra "OM")); intro _ _ _ _ _ _ zzhp9 zzN9; obtain ⟨_, _⟩ := zzhp9; (try dsimp only at zzN9); tb_start) | refine Stop.intro ?_)))
  k_with "call ref" => ((k_here; (with_reducible show wpAny _ _ (call (Value.ref 80) _) _ _ _); k_dflt (first | ((refine' Call.cps (fromOn_c ?ti ?da ?ln) t_gD ?b9 ?f9 ?x9 ?t9 ?k9 ?d9 ?u9 ?n9 ?_; ktr_rel; (case ti => tb_rel); (case da => kqd_in); (case ln => k_extra "OM")); intro _ _ _ _ _ _ zzhp9 zzN9; obtain ⟨_, _⟩ := zzhp9; (try dsimp only at zzN9); tb_start) | refine Stop.intro ?_)))
  k_with "binaryOp Add ref ref" => ((k_here; (with_reducible show wpAny _ _ (binaryOp _ (Value.ref _) (Value.ref _)) _ _ _); k_dflt ((refine' add_dom ?f9 ?n9 ?ti ?da ?db ?ln ?_; (case f9 => k_asm); (case n9 => k_asm); (case ti => tb_rel); (case da => kqd_in); (case db => kqd_in); (case ln => k_extra "OM")); intro _ _ _ _ zzN9 _ _; (try dsimp only at zzN9); tb_start)))
  k_with "call ref" => ((k_here; (with_reducible show wpAny _ _ (call (Value.ref 87) _) _ _ _); k_dflt (first | ((refine' Call.cps (without_c ?ti ?da ?ln) t_gD ?b9 ?f9 ?x9 ?t9 ?k9 ?d9 ?u9 ?n9 ?_; ktr_rel; (case ti => tb_rel); (case da => kqd_in); (case ln => k_extra "OM")); intro _ _ _ _ _ _ _ zzN9; (try dsimp only at zzN9); tb_start) | refine Stop.intro ?_)))
  trivial
def litD (x : Int) (sg : Str) (k : Int) : Dat := .tuple [.int x, .str sg, .int k]
inductive Sg where | le | ge | ne
def Sg.str : Sg → Str
  | .le => Str.ofString "<="
  | .ge => Str.ofString ">="
  | .ne => Str.ofString "!="
def struckF (sg : Sg) (k : Int) (d : Dom) : Dom := match sg with
  | .le => upTo d k
  | .ge => fromOn d k
  | .ne => without d k
theorem litD_open {r : Led} {a : Addr} {x : Int} {sg : Str} {k : Int} (h : DatIn r (.ref a) (litD x sg k)) : ∃ n t₁ t₂ t₃, (a, tupO [.int x t₁, .str sg t₂, .int k t₃] n) ∈ r := by
  obtain ⟨vs, n, hm, hv⟩ := datIn_tuple h
  cases hv with
  | cons h1 hv => cases hv with
    | cons h2 hv => cases hv with
      | cons h3 hv =>
        cases hv; cases h1; cases h2; cases h3
        exact ⟨_, _, _, _, hm⟩
theorem struck_c {w : World} {la da : Addr} {d : Dom} {sg : Sg} {x k : Int} {news r0 rest : Led} {g : Led → Led}
  (TI : TailIs news r0 rest g) (Dl : DatIn rest (.ref la) (litD x sg.str k)) (D : DatIn rest (.ref da) (domD d)) (hlen : d.length ≤ 1000) :
  Call w 4 108 [.ref la, .ref da] news (fun r nw => ∃ ra rest', r = .ref ra ∧ nw = g rest' ∧ Grow news r0 rest rest' ∧ DatIn rest' (.ref ra) (domD (struckF sg k d))) := by
  intro p loose mean mg mb dp un gd cn cs a ccd cl outer A₀ base h₀ L m s Q E B F X T hk hd hu N hret
  revert X; k_fill; intro X
  have R0 : Run news rest rest := Run.refl
  obtain ⟨n, t₁, t₂, t₃, hl⟩ := litD_open Dl
  cases sg <;> dsimp only [Sg.str] at hl
  all_goals w_strict (
    refine wpAny_call ?_
    k_dflt k_enter
    k_steps
    (rename Run _ _ _ => R9; rename Fr _ _ _ _ => F9; rename News _ _ _ _ => N9)
    refine hret _ _ _ _ F9 (fun p hp => N9 p ?_) ⟨_, _, rfl, rfl, Run.grow TI.base R9, by assumption⟩
    repeat (first | exact hp | refine List.mem_cons_of_mem _ ?_))
theorem rows_C5_0 : True := by
  k_with_none
  w_top off
  trivial
theorem rows_C5_1 : True := by
  k_with "LT9" => (first | (with_reducible assumption) | (refine' ltM ?lt1 ?lt2; (case lt1 => (with_reducible assumption)); (case lt2 => (repeat (first | exact List.Mem.head _ | refine List.Mem.tail _ ?_)); done)) | (refine' ltT ?lt0 ?lt1 ?lt2; (case lt0 => (with_reducible assumption)); (case lt1 => (with_reducible assumption)); (case lt2 => (repeat (first | exact List.Mem.head _ | refine List.Mem.tail _ ?_)); done)) | fail "LT9")
  k_with "k_ne" => (first | (with_reducible assumption) | (refine' Ne.symm ?ne1; (case ne1 => (with_reducible assumption))) | (refine neG ?_; walk_at "LT9") | (refine neL ?_; walk_at "LT9") | (refine neS ?_; walk_at "LT9") | (refine neT ?_; walk_at "LT9") | (refine neS2 ?_; walk_at "LT9") | (refine neT2 ?_; walk_at "LT9") | (refine neS3 ?_; walk_at "LT9") | (refine neT3 ?_; walk_at "LT9") | (refine' neM (l := _ :: _) ?lt1 ?lt2; (case lt1 => (with_reducible assumption)); (case lt2 => (repeat (first | exact List.Mem.head _ | refine List.Mem.tail _ ?_)); done)) | (refine' neN (l := _ :: _) ?lt1 ?lt2; (case lt1 => (with_reducible assumption)); (case lt2 => (repeat (first | exact List.Mem.head _ | refine List.Mem.tail _ ?_)); done)) | exact nc12 | exact nc21 | exact nc13 | exact nc31 | exact nc23 | exact nc32 | fail "k_ne")
  k_with "ktr_room" => (first | (rename (_ + _ < recursionLimit) => zzh9; first | exact rmU 0 zzh9 rfl rfl | exact rmU 1 zzh9 rfl rfl | exact rmU 2 zzh9 rfl rfl | exact rmU 3 zzh9 rfl rfl | exact rmU 4 zzh9 rfl rfl | exact rmU 5 zzh9 rfl rfl | exact rmU 6 zzh9 rfl rfl | exact rmU 7 zzh9 rfl rfl | exact rmU 8 zzh9 rfl rfl | exact rmU 9 zzh9 rfl rfl) | exact ltB rfl)
  k_with "ktr_units" => (first | (rename (_ + _ + _ < cLine) => zzh9; first | exact umU 0 zzh9 rfl rfl | exact umU 3 zzh9 rfl rfl | exact umU 6 zzh9 rfl rfl | exact umU 9 zzh9 rfl rfl | exact umU 12 zzh9 rfl rfl | exact umU 1 zzh9 rfl rfl | exact umU 4 zzh9 rfl rfl | exact umU 7 zzh9 rfl rfl | exact umU 10 zzh9 rfl rfl | exact umU 2 zzh9 rfl rfl | exact umU 5 zzh9 rfl rfl | exact umU 8 zzh9 rfl rfl | exact umU 11 zzh9 rfl rfl | exact umU 13 zzh9 rfl rfl | exact umU 14 zzh9 rfl rfl | exact umU 15 zzh9 rfl rfl | exact umV 0 zzh9 rfl rfl | exact umV 3 zzh9 rfl rfl | exact umV 6 zzh9 rfl rfl | exact umV 9 zzh9 rfl rfl | exact umV 12 zzh9 rfl rfl | exact umV 1 zzh9 rfl rfl | exact umV 4 zzh9 rfl rfl | exact umV 7 zzh9 rfl rfl | exact umV 10 zzh9 rfl rfl | exact umV 2 zzh9 rfl rfl | exact umV 5 zzh9 rfl rfl | exact umV 8 zzh9 rfl rfl | exact umV 11 zzh9 rfl rfl | exact umV 13 zzh9 rfl rfl | exact umV 14 zzh9 rfl rfl | exact umV 15 zzh9 rfl rfl) | exact ltB rfl)
  k_with "OM" => (first | (with_reducible assumption) | exact Nat.zero_le _ | (refine' leB ?om1 ?om2; (case om1 => (with_reducible assumption)); (case om2 => (fail_if_success (fail_if_success decide)); exact rfl)) | (refine' leS ?om1 ?om2; (case om1 => (with_reducible assumption)); (case om2 => (fail_if_success (fail_if_success decide)); exact rfl)) | (with_reducible refine' ltL ?om1 ?om2; (case om1 => (with_reducible assumption)); (case om2 => (fail_if_success (fail_if_success decide)); exact rfl)) | ((fail_if_success (fail_if_success decide)); exact ltB rfl) | (refine' i0_1 ?om1; (case om1 => (with_reducible assumption))) | (refine' i0_2 ?om1; (case om1 => (with_reducible assumption))) | (refine' i0_3 ?om1; (case om1 => (with_reducible assumption))) | (refine' il_0 ?om1 ?om2; (case om1 => (with_reducible assumption)); (case om2 => decide)) | (refine' il_1 ?om1 ?om2; (case om1 => (with_reducible assumption)); (case om2 => decide)) | (refine' il_2 ?om1 ?om2; (case om1 => (with_reducible assumption)); (case om2 => decide)) | (refine' il_3 ?om1 ?om2; (case om1 => (with_reducible assumption)); (case om2 => decide)) | exact ia_3 | exact ia_5 | exact ic_0 | decide | omega)
  k_with "k_all" => (first
  | (with_reducible assumption)
  | (refine' OffL.out ?ko1; (case ko1 => (with_reducible assumption)))
  | (refine' offA ?ko1; (case ko1 => (with_reducible assumption)))
  | (refine' TailIs.offAtL ?ko1 ?ko2 ?ko3; (case ko1 => (with_reducible assumption)); (case ko2 => (with_reducible assumption)); (case ko3 => (with_reducible assumption)))
  | (refine' offC ?ka1 ?ka2; (case ka1 => first | (refine' Apart.l ?kp1; (case kp1 => (with_reducible assumption))) | (refine' Apart.r ?kp1; (case kp1 => (with_reducible assumption))) | k_ne); (case ka2 => k_all))
  | assumption)
  k_with "k_upd" => (first | (refine' Upd.head ?ku1; (case ku1 => k_all)) | (refine' Upd.tail ?ku1 ?ku2; (case ku1 => first | (refine' Apart.l ?kp1; (case kp1 => (with_reducible assumption))) | (refine' Apart.r ?kp1; (case kp1 => (with_reducible assumption))) | k_ne); (case ku2 => k_upd)) | fail "k_upd")
  k_with "k_updF" => (first | (refine' Pull.head ?kf1; (case kf1 => k_all)) | (refine' Pull.tail ?_ ?kf2; (case kf2 => k_updF); (first | (refine' Apart.l ?kp1; (case kp1 => (with_reducible assumption))) | (refine' Apart.r ?kp1; (case kp1 => (with_reducible assumption))) | k_ne)) | (refine' UpdF.head ?kf1; (case kf1 => k_all)) | (refine' UpdF.tail ?_ ?kf2; (case kf2 => k_updF); (first | (refine' Apart.l ?kp1; (case kp1 => (with_reducible assumption))) | (refine' Apart.r ?kp1; (case kp1 => (with_reducible assumption))) | k_ne)) | fail "k_updF")
  k_with "k_mem" => (first | (refine mem_of ?_; (with_reducible assumption)) | (refine mem_of ?_; refine' TailIs.sub ?km1 _ ?km2; (case km1 => first | (refine' TailIs.rebase ?tr1; (case tr1 => (with_reducible assumption))) | (refine' TailIs.at ?tr1 _; (case tr1 => (with_reducible assumption)))); (case km2 => (with_reducible assumption))) | fail "k_mem")
  k_with "call builtin:len" => ((k_here; (with_reducible show wpAny _ _ (call (Value.builtin "len") [Value.ref _]) _ _ _); k_dflt (refine' len_ints_fit (News.isList ?n ?m) ?i ?f ?_; (case n => k_asm); (case m => k_mem); (case i => (with_reducible assumption)); (case f => k_extra "OM"); k_whole)))
  k_with "subscriptTail Name Name ref int" => ((k_here; (with_reducible show wpAny _ _ (subscriptTail _ _ (Value.ref _) (Value.int _ _)) _ _ _); (with_unfolding_all refine' item_list_ints (News.isList ?n ?m) ?k2 ?k3 ?k4 ?k5 ?_; (case n => k_asm); (case m => k_mem); (case k2 => (with_reducible assumption)); (case k3 => k_extra "OM"); (case k4 => k_extra "OM"); (case k5 => k_extra "OM"); k_whole); intro _))
  k_with "k_enter" => (first
  | (refine' code_def ?k1 ?k2 ?k3 ?k4 ?k5 ?kA ?kF ?kK ?k6 ?k7 ?k8 ?k9 ?kB ?_ ?c2 ?c3 ?c4 ?c5; (case kA => exact rfl); (case kF => exact rfl); (case kK => first | exact rfl | (with_reducible assumption)); (case k1 => k_asm); (case k2 => k_asm); (case k3 => k_asm); (case k4 => k_asm); (case k5 => k_asm); (case k6 => k_is); (case k7 => k_is); (case k8 => ktr_room); (case k9 => first | exact BindsTo.of_eq rfl | exact binds_K (by k_in) rfl (by k_is) rfl rfl rfl | fail "k_enter: no rule for these arguments"); (case c5 => decide); (case kB => exact locs rfl); (case c2 => exact rfl); (case c3 => exact rfl); (case c4 => exact rfl); k_whole; intro _ _ _ _ _ zzN' _ _ _; (try dsimp only); (try k_fold))
  | (refine' code_defC ?k1 ?k2 ?k3 ?k4 ?k5 ?kA ?kF ?kK ?k6 ?k7 ?k8 ?k9 ?kB ?kD ?_ ?c2 ?c3 ?c4; (case kA => exact rfl); (case kF => exact rfl); (case kK => first | exact rfl | (with_reducible assumption)); (case k1 => k_asm); (case k2 => k_asm); (case k3 => k_asm); (case k4 => k_asm); (case k5 => k_asm); (case k6 => k_is); (case k7 => k_is); (case k8 => ktr_room); (case k9 => first | exact BindsTo.of_eq rfl | exact binds_K (by k_in) rfl (by k_is) rfl rfl rfl | fail "k_enter: no rule for these arguments"); (case kB => exact rfl); (case kD => decide +kernel); (case c2 => exact rfl); (case c3 => exact rfl); (case c4 => exact rfl); k_whole; intro _ _ _ _ _ _ _ zzN' zzY' _ _ _ zzl1; revert zzl1; intro _; (have _ := Mk9.mk); k_cells zzY'; (try (simp only [List.cons_append, List.nil_append] at zzN'; revert zzN'; intro _)); (try dsimp only); (try k_fold)))
  k_with "call type:tuple" => ((k_here; (with_reducible show wpAny _ _ (call (Value.type _) [Value.ref _]) _ _ _); k_dflt (refine' kde_tupleOf ?k1 ?k2 (News.isList ?k3 ?k6) ?k4 ?k5 ?_; (case k1 => k_asm); (case k2 => k_asm); (case k3 => k_asm); (case k6 => k_mem); (case k4 => (simp only [List.size_toArray]; k_extra "OM")); (case k5 => exact rfl); k_whole); intro _ _ _ _ zzl1; revert zzl1; intro _; (have _ := Mk9.mk); (try k_sweep)))
  k_with "tb_rel" => (first | (refine' TailIs.rebase ?tr1; (case tr1 => (with_reducible assumption))) | (refine' TailIs.at ?tr1 _; (case tr1 => (with_reducible assumption))) | (refine' TailIs.moveT ?tb1; (case tb1 => tb_rel)) | (refine' TailIs.cons ?tb1; (case tb1 => tb_rel)) | exact TailIs.nil)
  trivial
-- every old address stands in the ledger
theorem rows_C5_2 : True := by
  k_with "kcf_m" => (first
  | (refine' covC ?kc1 ?kc2; (case kc1 => k_mem); (case kc2 => kcf_m))
  | exact List.forall_mem_nil _
  | (intro zzq9 zzhq9; refine ⟨Prod.snd zzq9, ?_⟩; repeat (first | exact zzhq9 | (refine' TailIs.coverAt ?tc1 (Run.sub ?tc2) zzq9 zzhq9; (case tc1 => (with_reducible assumption)); (case tc2 => (with_reducible assumption))) | refine List.mem_cons_of_mem _ ?_)))
  trivial
-- what is made here is none of the old
theorem rows_C5_3 : True := by
  k_with "kcf_all" => ((intro zzq9 zzhq9 zzho9; repeat (first | exact zzho9 | refine List.forall_mem_cons.mpr ⟨tmp_ne (by (with_reducible assumption)) (by kcf_m) zzq9 zzhq9, ?_⟩)))
  k_with "tb_start" => ((
  (rename Grow _ _ _ _ => zzG9)
  (have zzgB9 := Grow.base zzG9)
  (repeat (rename Run _ _ (Grow.R zzG9) => zzR9; have _ := Run.step zzR9 zzG9 (by kcf_m) (by kcf_all); clear zzR9))
  (repeat (rename DatIn (Grow.R zzG9) _ _ => zzhX9; have _ := DatIn.mono zzgB9 zzhX9; clear zzhX9))
  (repeat (rename DatAll (Grow.R zzG9) _ _ => zzhX9; have _ := DatAll.mono zzgB9 zzhX9; clear zzhX9))
  (repeat (rename IntsAt (Grow.R zzG9) _ _ => zzhX9; have _ := IntsAt.mono zzhX9 zzgB9; clear zzhX9))
  (repeat (rename (_ ∈ Grow.R zzG9) => zzhX9; have _ := zzgB9 _ zzhX9; clear zzhX9))
  (repeat (rename OffL (Grow.R zzG9) _ => zzhX9; have _ := Grow.offL zzG9 zzhX9 ⟨_, by k_mem⟩ (by k_all); clear zzhX9))
  (have zzhS9 := Grow.sub zzG9; (first | refine fd_6 zzhS9 ?_ | refine fd_5 zzhS9 ?_ | refine fd_4 zzhS9 ?_ | refine fd_3 zzhS9 ?_ | refine fd_2 zzhS9 ?_ | refine fd_1 zzhS9 ?_ | refine fd_0 zzhS9 ?_); clear zzhS9)
  clear zzgB9 zzG9
  intros))
  k_with "kqd_in" => (first | (refine' DatIn.mono ?kd1 ?kd2; (case kd2 => first | (with_reducible assumption) | assumption); (case kd1 => (intro _ zzhp9; repeat (first | exact zzhp9 | (refine' TailIs.sub ?kd3 _ zzhp9; (case kd3 => first | (refine' TailIs.rebase ?tr1; (case tr1 => (with_reducible assumption))) | (refine' TailIs.at ?tr1 _; (case tr1 => (with_reducible assumption))))) | refine List.mem_cons_of_mem _ ?_)))) | fail "kqd_in")
  k_with "kqd_all" => (first | (refine' DatAll.mono ?kd1 ?kd2; (case kd2 => first | (with_reducible assumption) | assumption); (case kd1 => (intro _ zzhp9; repeat (first | exact zzhp9 | (refine' TailIs.sub ?kd3 _ zzhp9; (case kd3 => first | (refine' TailIs.rebase ?tr1; (case tr1 => (with_reducible assumption))) | (refine' TailIs.at ?tr1 _; (case tr1 => (with_reducible assumption))))) | refine List.mem_cons_of_mem _ ?_)))) | fail "kqd_all")
  k_with "compareOp Eq ref ref" => ((k_here; (with_reducible show wpAny _ _ (compareOp CmpOp.Eq (Value.ref _) (Value.ref _)) _ _ _); k_dflt (refine' dat_eq ?n9 ?da (fun _ h => h) ?db (fun _ h => h) ?oa ?ob ?u9 ?_; (case n9 => k_asm); (case da => kqd_in); (case db => kqd_in); (case oa => first | exact domD_ok _ | rfl | (with_reducible assumption)); (case ob => first | exact domD_ok _ | rfl | (with_reducible assumption)); (case u9 => ktr_units); intro _ _)))
  k_with "compareOp NotEq ref ref" => ((k_here; (with_reducible show wpAny _ _ (compareOp CmpOp.NotEq (Value.ref _) (Value.ref _)) _ _ _); k_dflt (refine' dat_ne ?n9 ?da (fun _ h => h) ?db (fun _ h => h) ?oa ?ob ?u9 ?_; (case n9 => k_asm); (case da => kqd_in); (case db => kqd_in); (case oa => first | exact domD_ok _ | rfl | (with_reducible assumption)); (case ob => first | exact domD_ok _ | rfl | (with_reducible assumption)); (case u9 => ktr_units); intro _ _)))
  k_with "call builtin:list.append" => ((k_here; (with_reducible show wpAny _ _ (call (Value.builtin _) [Value.ref _, _]) _ _ _); k_dflt (refine' append_L ?k1 ?k2 ?k3 ?z ?_; (case k1 => k_asm); (case k2 => k_asm); (case k3 => k_upd); (case z => first | k_extra "OM" | ((simp only [List.length_cons, List.length_nil, List.length_append]); k_extra "OM")); k_whole); intro _ _ _; (try k_sweep)))
  k_with "call builtin:min" => ((k_here; (with_reducible show wpAny _ _ (call (Value.builtin _) [Value.ref _]) _ _ _); k_dflt ((refine' min_L ?f9 ?n9 ?m9 ?i9 ?z9 ?h9 ?_; (case f9 => k_asm); (case n9 => k_asm); (case m9 => k_mem); (case i9 => (with_reducible assumption)); (case z9 => first | k_extra "OM" | (simp_all; k_extra "OM")); (case h9 => with_unfolding_all rfl)); intro _ _ _ _ _)))
  k_with "call builtin:max" => ((k_here; (with_reducible show wpAny _ _ (call (Value.builtin _) [Value.ref _]) _ _ _); k_dflt ((refine' max_L ?f9 ?n9 ?m9 ?i9 ?z9 ?h9 ?_; (case f9 => k_asm); (case n9 => k_asm); (case m9 => k_mem); (case i9 => (with_reducible assumption)); (case z9 => first | k_extra "OM" | (simp_all; k_extra "OM")); (case h9 => with_unfolding_all rfl)); intro _ _ _ _ _)))
  trivial
def Sg.neg : Sg → Str
  | .le => Str.ofString ">="
  | .ge => Str.ofString "<="
  | .ne => Str.ofString "="
def Sg.negK : Sg → Int → Int
  | .le, k => k + 1
  | .ge, k => k - 1
  | .ne, k => k
theorem negation_c {w : World} {la : Addr} {sg : Sg} {x k : Int} {news r0 rest : Led} {g : Led → Led}
  (TI : TailIs news r0 rest g) (Dl : DatIn rest (.ref la) (litD x sg.str k)) :
  Call w 2 101 [.ref la] news (fun r nw => ∃ ra rest', r = .ref ra ∧ nw = g rest' ∧ Grow news r0 rest rest' ∧ DatIn rest' (.ref ra) (litD x sg.neg (sg.negK k))) := by
  intro p loose mean mg mb dp un gd cn cs a ccd cl outer A₀ base h₀ L m s Q E B F X T hk hd hu N hret
  revert X; k_fill; intro X
  have R0 : Run news rest rest := Run.refl
  obtain ⟨n, t₁, t₂, t₃, hl⟩ := litD_open Dl
  cases sg <;> dsimp only [Sg.str, Sg.neg, Sg.negK] at hl ⊢
  all_goals w_strict (
    refine wpAny_call ?_
    k_dflt k_enter
    k_steps
    (rename Run _ _ _ => R9; rename Fr _ _ _ _ => F9; rename News _ _ _ _ => N9)
    refine' hret _ _ _ _ F9 (TailIs.news ?t9 N9) ⟨_, _, rfl, rfl, Run.grow TI.base (Run.ext R9 (TailIs.base ?t9) ?r9), ?d9⟩
    case t9 => tb_rel
    case r9 => kcf_all
    case d9 => exact DatIn.tuple (by k_mem) (.cons (.int _ _) (.cons (.str _ _) (.cons (.int _ _) .nil))))
/-- does the literal shut the value out -/
def barsP (sg : Sg) (k v : Int) : Prop := match sg with
  | .le => v > k
  | .ge => v < k
  | .ne => v = k
theorem bars_c {w : World} {la : Addr} {sg : Sg} {x k v : Int} {tv t₁ t₂ t₃ : Tok} {n : Nat} {news : Led} (hl : (la, tupO [.int x t₁, .str sg.str t₂, .int k t₃] n) ∈ news) :
  Call w 2 283 [.ref la, .int v tv] news (fun r nw => ∃ b, r = .bool b ∧ nw = news ∧ (b = true ↔ barsP sg k v)) := by
  intro p loose mean mg mb dp un gd cn cs a ccd cl outer A₀ base h₀ L m s Q E B F X T hk hd hu N hret
  revert X; k_fill; intro X
  cases sg <;> dsimp only [Sg.str, barsP] at hl hret ⊢
  all_goals w_strict (
    refine wpAny_call ?_
    k_dflt k_enter
    k_steps
    (rename Fr _ _ _ _ => F9; rename News _ _ _ _ => N9)
    refine hret _ _ _ _ F9 (fun p hp => N9 p ?_) ⟨_, rfl, rfl, ?_⟩
    · repeat (first | exact hp | refine List.mem_cons_of_mem _ ?_)
    · simp only [decide_eq_true_eq, beq_iff_eq] <;> omega)
theorem rows_C6_0 : True := by
  k_with_none
  w_top off
  trivial
/-- the tokens of a store's names -/
structure Sk where
  (a1 a2 a3 a4 a5 a6 a7 a8 : Tok)
abbrev sdO (w : World) (K : Sk) (dl fl tl ml nd : Addr) (sp : Int) (st : Tok) (fa : Bool) (ca : Addr) : Obj := dictOf [
  ⟨PyData.keyHash w.params (Str.ofString "domains"), .str (Str.ofString "domains") K.a1, .ref dl⟩,
  ⟨PyData.keyHash w.params (Str.ofString "firsts"), .str (Str.ofString "firsts") K.a2, .ref fl⟩,
  ⟨PyData.keyHash w.params (Str.ofString "trail"), .str (Str.ofString "trail") K.a3, .ref tl⟩,
  ⟨PyData.keyHash w.params (Str.ofString "marks"), .str (Str.ofString "marks") K.a4, .ref ml⟩,
  ⟨PyData.keyHash w.params (Str.ofString "news"), .str (Str.ofString "news") K.a5, .ref nd⟩,
  ⟨PyData.keyHash w.params (Str.ofString "speaker"), .str (Str.ofString "speaker") K.a6, .int sp st⟩,
  ⟨PyData.keyHash w.params (Str.ofString "is_failed"), .str (Str.ofString "is_failed") K.a7, .bool fa⟩,
  ⟨PyData.keyHash w.params (Str.ofString "clash"), .str (Str.ofString "clash") K.a8, .ref ca⟩] 8
def keysOk (ks : List Int) : Prop := ks = [] ∨ ks = [0] ∨ ks = [1] ∨ ks = [0, 1] ∨ ks = [1, 0]
def NewsO (w : World) (o : Obj) : Prop := ∃ kvs, o.IsDictOf (intKind PySem.Challenge.rw_nz0013_01.row.prog w) kvs ∧ keysOk (kvs.map (·.1))
theorem stored_keys (kvs : List (Int × Value)) (k : Int) (v : Value) : (stored kvs k v).map (·.1) = if k ∈ kvs.map (·.1) then kvs.map (·.1) else kvs.map (·.1) ++ [k] := by
  unfold stored
  have e : (kvs.any fun kv => decide (kv.1 = k)) = true ↔ k ∈ kvs.map (·.1) := by
    simp only [List.any_eq_true, decide_eq_true_eq, List.mem_map]
  by_cases h : k ∈ kvs.map (·.1)
  · rw [if_pos h, if_pos (e.mpr h), List.map_map]
    refine List.map_congr_left fun p _ => ?_
    show (if p.1 = k then (p.1, v) else p).1 = p.1
    split <;> rfl
  · rw [if_neg h, if_neg (fun q => h (e.mp q)), List.map_append]; rfl
theorem keysOk_stored {kvs : List (Int × Value)} {k : Int} {v : Value} (h : keysOk (kvs.map (·.1))) (hk : k = 0 ∨ k = 1) : keysOk ((stored kvs k v).map (·.1)) := by
  rw [stored_keys]
  unfold keysOk at *
  rcases h with h | h | h | h | h <;> rcases hk with rfl | rfl <;> rw [h] <;> simp
theorem keysOk_len {kvs : List (Int × Value)} (h : keysOk (kvs.map (·.1))) : kvs.length ≤ 2 := by
  have e : (kvs.map (·.1)).length = kvs.length := List.length_map ..
  unfold keysOk at h
  rcases h with h | h | h | h | h <;> rw [h] at e <;> simp at e <;> omega
/-- an entry of the trail -/
structure Ent where
  x : Int
  old : Dom
  lit : Dat
  rs : Dat
  sp : Int
def entD (e : Ent) : Dat := .tuple [.int e.x, domD e.old, e.lit, e.rs, .int e.sp]
def sel {α : Type} (x : Int) (a b : α) : α := if x = 0 then a else b
theorem sel0 {α : Type} {a b : α} : sel 0 a b = a := rfl
theorem sel1 {α : Type} {a b : α} : sel 1 a b = b := rfl
def trailOf (sg : Sg) (k x : Int) (d0 d1 : Dom) (rd : Dat) (spk : Int) (tr : List Ent) : List Ent :=
  if struckF sg k (sel x d0 d1) = sel x d0 d1 then tr else tr ++ [⟨x, sel x d0 d1, litD x sg.str k, rd, spk⟩]
theorem datIn_sel {r : Led} {x : Int} {a b : Addr} {d e : Dom} (hx : x = 0 ∨ x = 1) (ha : DatIn r (.ref a) (domD d)) (hb : DatIn r (.ref b) (domD e)) : DatIn r (.ref (sel x a b)) (domD (sel x d e)) := by
  rcases hx with rfl | rfl
  · exact ha
  · exact hb
section
variable {prog : Program} {w : World} {A : Around} {E : Value → Shared → Prop} {s : Shared} {h₀ : Heap} {L D : Addr} {m : Str → Option Value} {news news' : Led}
theorem item_sel {value slice : PySem.Expr} {a b : Addr} {x : Int} {u : Tok} {n : Nat} {Q : Value → Shared → Prop} (N : News h₀ L s.heap news) (hm : (D, listOf [Value.ref a, .ref b].toArray n) ∈ news) (hx : x = 0 ∨ x = 1) (h : Q (.ref (sel x a b)) s)
    (hs : subscripted slice false (.ref D) (.int x u) = operate [.ref D, .int x u] (getItem (.ref D) (.int x u)) := by with_unfolding_all rfl) :
    wpAny (model prog w) A (subscriptTail value slice (.ref D) (.int x u)) Q E s := by
  have hl := PySem.IsL.isList (n := n) (N _ hm).1
  rcases hx with rfl | rfl
  · exact tail_any hl.typeIs slot_list_getitem.lookup (wpAny_getItem_list hl (by decide) (by decide) (x := .ref a) (by simp) h) hs
  · exact tail_any hl.typeIs slot_list_getitem.lookup (wpAny_getItem_list hl (by decide) (by decide) (x := .ref b) (by simp) h) hs
theorem set_sel {a b c : Addr} {x : Int} {t : Tok} {n : Nat} {Q : Unit → Shared → Prop} (F : Fr h₀ L s.heap m) (N : News h₀ L s.heap news) (hx : x = 0 ∨ x = 1)
    (U : Upd D (listOf [Value.ref a, .ref b].toArray n) (listOf [Value.ref (sel x c a), .ref (sel x b c)].toArray n) news news')
    (h : ∀ h', Fr h₀ L h' m → News h₀ L h' news' → Q () { s with heap := h' }) : wpAny (model prog w) A (setItem (.ref D) (.int x t) (.ref c)) Q E s := by
  rcases hx with rfl | rfl
  · exact ki_set F N (by decide) (by decide) (q := [Value.ref c, .ref b]) rfl U h
  · exact ki_set F N (by decide) (by decide) (q := [Value.ref a, .ref c]) rfl U h
end
theorem dom_sel0 {r : Led} {x k : Int} {sg : Sg} {c a : Addr} {d0 d1 : Dom} (hx : x = 0 ∨ x = 1) (hc : DatIn r (.ref c) (domD (struckF sg k (sel x d0 d1)))) (ha : DatIn r (.ref a) (domD d0)) : DatIn r (.ref (sel x c a)) (domD (sel x (struckF sg k d0) d0)) := by
  rcases hx with rfl | rfl
  · exact hc
  · exact ha
theorem dom_sel1 {r : Led} {x k : Int} {sg : Sg} {c a : Addr} {d0 d1 : Dom} (hx : x = 0 ∨ x = 1) (hc : DatIn r (.ref c) (domD (struckF sg k (sel x d0 d1)))) (ha : DatIn r (.ref a) (domD d1)) : DatIn r (.ref (sel x a c)) (domD (sel x d1 (struckF sg k d1))) := by
  rcases hx with rfl | rfl
  · exact ha
  · exact hc
theorem sel_eq0 {x k : Int} {sg : Sg} {d0 d1 : Dom} (hx : x = 0 ∨ x = 1) (h : struckF sg k (sel x d0 d1) = sel x d0 d1) : sel x (struckF sg k d0) d0 = d0 ∧ sel x d1 (struckF sg k d1) = d1 := by
  rcases hx with rfl | rfl
  · exact ⟨h, rfl⟩
  · exact ⟨rfl, h⟩
theorem len_sel {x : Int} {d0 d1 : Dom} {n : Nat} (hx : x = 0 ∨ x = 1) (h0 : d0.length ≤ n) (h1 : d1.length ≤ n) : (sel x d0 d1).length ≤ n := by
  rcases hx with rfl | rfl
  · exact h0
  · exact h1
theorem rows_C6_1 : True := by
  k_with "LT9" => (first | (with_reducible assumption) | (refine' ltM ?lt1 ?lt2; (case lt1 => (with_reducible assumption)); (case lt2 => (repeat (first | exact List.Mem.head _ | refine List.Mem.tail _ ?_)); done)) | (refine' ltT ?lt0 ?lt1 ?lt2; (case lt0 => (with_reducible assumption)); (case lt1 => (with_reducible assumption)); (case lt2 => (repeat (first | exact List.Mem.head _ | refine List.Mem.tail _ ?_)); done)) | fail "LT9")
  k_with "k_ne" => (first | (with_reducible assumption) | (refine' Ne.symm ?ne1; (case ne1 => (with_reducible assumption))) | (refine neG ?_; walk_at "LT9") | (refine neL ?_; walk_at "LT9") | (refine neS ?_; walk_at "LT9") | (refine neT ?_; walk_at "LT9") | (refine neS2 ?_; walk_at "LT9") | (refine neT2 ?_; walk_at "LT9") | (refine neS3 ?_; walk_at "LT9") | (refine neT3 ?_; walk_at "LT9") | (refine' neM (l := _ :: _) ?lt1 ?lt2; (case lt1 => (with_reducible assumption)); (case lt2 => (repeat (first | exact List.Mem.head _ | refine List.Mem.tail _ ?_)); done)) | (refine' neN (l := _ :: _) ?lt1 ?lt2; (case lt1 => (with_reducible assumption)); (case lt2 => (repeat (first | exact List.Mem.head _ | refine List.Mem.tail _ ?_)); done)) | exact nc12 | exact nc21 | exact nc13 | exact nc31 | exact nc23 | exact nc32 | fail "k_ne")
  k_with "ktr_room" => (first | (rename (_ + _ < recursionLimit) => zzh9; first | exact rmU 0 zzh9 rfl rfl | exact rmU 1 zzh9 rfl rfl | exact rmU 2 zzh9 rfl rfl | exact rmU 3 zzh9 rfl rfl | exact rmU 4 zzh9 rfl rfl | exact rmU 5 zzh9 rfl rfl | exact rmU 6 zzh9 rfl rfl | exact rmU 7 zzh9 rfl rfl | exact rmU 8 zzh9 rfl rfl | exact rmU 9 zzh9 rfl rfl) | exact ltB rfl)
  k_with "ktr_units" => (first | (rename (_ + _ + _ < cLine) => zzh9; first | exact umU 0 zzh9 rfl rfl | exact umU 3 zzh9 rfl rfl | exact umU 6 zzh9 rfl rfl | exact umU 9 zzh9 rfl rfl | exact umU 12 zzh9 rfl rfl | exact umU 1 zzh9 rfl rfl | exact umU 4 zzh9 rfl rfl | exact umU 7 zzh9 rfl rfl | exact umU 10 zzh9 rfl rfl | exact umU 2 zzh9 rfl rfl | exact umU 5 zzh9 rfl rfl | exact umU 8 zzh9 rfl rfl | exact umU 11 zzh9 rfl rfl | exact umU 13 zzh9 rfl rfl | exact umU 14 zzh9 rfl rfl | exact umU 15 zzh9 rfl rfl | exact umV 0 zzh9 rfl rfl | exact umV 3 zzh9 rfl rfl | exact umV 6 zzh9 rfl rfl | exact umV 9 zzh9 rfl rfl | exact umV 12 zzh9 rfl rfl | exact umV 1 zzh9 rfl rfl | exact umV 4 zzh9 rfl rfl | exact umV 7 zzh9 rfl rfl | exact umV 10 zzh9 rfl rfl | exact umV 2 zzh9 rfl rfl | exact umV 5 zzh9 rfl rfl | exact umV 8 zzh9 rfl rfl | exact umV 11 zzh9 rfl rfl | exact umV 13 zzh9 rfl rfl | exact umV 14 zzh9 rfl rfl | exact umV 15 zzh9 rfl rfl) | exact ltB rfl)
  k_with "OM" => (first | (with_reducible assumption) | exact Nat.zero_le _ | (refine' leB ?om1 ?om2; (case om1 => (with_reducible assumption)); (case om2 => (fail_if_success (fail_if_success decide)); exact rfl)) | (refine' leS ?om1 ?om2; (case om1 => (with_reducible assumption)); (case om2 => (fail_if_success (fail_if_success decide)); exact rfl)) | (with_reducible refine' ltL ?om1 ?om2; (case om1 => (with_reducible assumption)); (case om2 => (fail_if_success (fail_if_success decide)); exact rfl)) | ((fail_if_success (fail_if_success decide)); exact ltB rfl) | (refine' i0_1 ?om1; (case om1 => (with_reducible assumption))) | (refine' i0_2 ?om1; (case om1 => (with_reducible assumption))) | (refine' i0_3 ?om1; (case om1 => (with_reducible assumption))) | (refine' il_0 ?om1 ?om2; (case om1 => (with_reducible assumption)); (case om2 => decide)) | (refine' il_1 ?om1 ?om2; (case om1 => (with_reducible assumption)); (case om2 => decide)) | (refine' il_2 ?om1 ?om2; (case om1 => (with_reducible assumption)); (case om2 => decide)) | (refine' il_3 ?om1 ?om2; (case om1 => (with_reducible assumption)); (case om2 => decide)) | exact ia_3 | exact ia_5 | exact ic_0 | decide | omega)
  k_with "k_all" => (first
  | (with_reducible assumption)
  | (refine' OffL.out ?ko1; (case ko1 => (with_reducible assumption)))
  | (refine' offA ?ko1; (case ko1 => (with_reducible assumption)))
  | (refine' TailIs.offAtL ?ko1 ?ko2 ?ko3; (case ko1 => (with_reducible assumption)); (case ko2 => (with_reducible assumption)); (case ko3 => (with_reducible assumption)))
  | (refine' offC ?ka1 ?ka2; (case ka1 => first | (refine' Apart.l ?kp1; (case kp1 => (with_reducible assumption))) | (refine' Apart.r ?kp1; (case kp1 => (with_reducible assumption))) | k_ne); (case ka2 => k_all))
  | assumption)
  k_with "k_upd" => (first | (refine' Upd.head ?ku1; (case ku1 => k_all)) | (refine' Upd.tail ?ku1 ?ku2; (case ku1 => first | (refine' Apart.l ?kp1; (case kp1 => (with_reducible assumption))) | (refine' Apart.r ?kp1; (case kp1 => (with_reducible assumption))) | k_ne); (case ku2 => k_upd)) | fail "k_upd")
  k_with "k_updF" => (first | (refine' Pull.head ?kf1; (case kf1 => k_all)) | (refine' Pull.tail ?_ ?kf2; (case kf2 => k_updF); (first | (refine' Apart.l ?kp1; (case kp1 => (with_reducible assumption))) | (refine' Apart.r ?kp1; (case kp1 => (with_reducible assumption))) | k_ne)) | (refine' UpdF.head ?kf1; (case kf1 => k_all)) | (refine' UpdF.tail ?_ ?kf2; (case kf2 => k_updF); (first | (refine' Apart.l ?kp1; (case kp1 => (with_reducible assumption))) | (refine' Apart.r ?kp1; (case kp1 => (with_reducible assumption))) | k_ne)) | fail "k_updF")
  k_with "k_mem" => (first | (refine mem_of ?_; (with_reducible assumption)) | (refine mem_of ?_; refine' TailIs.sub ?km1 _ ?km2; (case km1 => first | (refine' TailIs.rebase ?tr1; (case tr1 => (with_reducible assumption))) | (refine' TailIs.at ?tr1 _; (case tr1 => (with_reducible assumption)))); (case km2 => (with_reducible assumption))) | fail "k_mem")
  k_with "call builtin:len" => ((k_here; (with_reducible show wpAny _ _ (call (Value.builtin "len") [Value.ref _]) _ _ _); k_dflt (refine' len_ints_fit (News.isList ?n ?m) ?i ?f ?_; (case n => k_asm); (case m => k_mem); (case i => (with_reducible assumption)); (case f => k_extra "OM"); k_whole)))
  k_with "subscriptTail Name Name ref int" => ((k_here; (with_reducible show wpAny _ _ (subscriptTail _ _ (Value.ref _) (Value.int _ _)) _ _ _); (with_unfolding_all refine' item_list_ints (News.isList ?n ?m) ?k2 ?k3 ?k4 ?k5 ?_; (case n => k_asm); (case m => k_mem); (case k2 => (with_reducible assumption)); (case k3 => k_extra "OM"); (case k4 => k_extra "OM"); (case k5 => k_extra "OM"); k_whole); intro _))
  k_with "k_enter" => (first
  | (refine' code_def ?k1 ?k2 ?k3 ?k4 ?k5 ?kA ?kF ?kK ?k6 ?k7 ?k8 ?k9 ?kB ?_ ?c2 ?c3 ?c4 ?c5; (case kA => exact rfl); (case kF => exact rfl); (case kK => first | exact rfl | (with_reducible assumption)); (case k1 => k_asm); (case k2 => k_asm); (case k3 => k_asm); (case k4 => k_asm); (case k5 => k_asm); (case k6 => k_is); (case k7 => k_is); (case k8 => ktr_room); (case k9 => first | exact BindsTo.of_eq rfl | exact binds_K (by k_in) rfl (by k_is) rfl rfl rfl | fail "k_enter: no rule for these arguments"); (case c5 => decide); (case kB => exact locs rfl); (case c2 => exact rfl); (case c3 => exact rfl); (case c4 => exact rfl); k_whole; intro _ _ _ _ _ zzN' _ _ _; (try dsimp only); (try k_fold))
  | (refine' code_defC ?k1 ?k2 ?k3 ?k4 ?k5 ?kA ?kF ?kK ?k6 ?k7 ?k8 ?k9 ?kB ?kD ?_ ?c2 ?c3 ?c4; (case kA => exact rfl); (case kF => exact rfl); (case kK => first | exact rfl | (with_reducible assumption)); (case k1 => k_asm); (case k2 => k_asm); (case k3 => k_asm); (case k4 => k_asm); (case k5 => k_asm); (case k6 => k_is); (case k7 => k_is); (case k8 => ktr_room); (case k9 => first | exact BindsTo.of_eq rfl | exact binds_K (by k_in) rfl (by k_is) rfl rfl rfl | fail "k_enter: no rule for these arguments"); (case kB => exact rfl); (case kD => decide +kernel); (case c2 => exact rfl); (case c3 => exact rfl); (case c4 => exact rfl); k_whole; intro _ _ _ _ _ _ _ zzN' zzY' _ _ _ zzl1; revert zzl1; intro _; (have _ := Mk9.mk); k_cells zzY'; (try (simp only [List.cons_append, List.nil_append] at zzN'; revert zzN'; intro _)); (try dsimp only); (try k_fold)))
  k_with "call type:tuple" => ((k_here; (with_reducible show wpAny _ _ (call (Value.type _) [Value.ref _]) _ _ _); k_dflt (refine' kde_tupleOf ?k1 ?k2 (News.isList ?k3 ?k6) ?k4 ?k5 ?_; (case k1 => k_asm); (case k2 => k_asm); (case k3 => k_asm); (case k6 => k_mem); (case k4 => (simp only [List.size_toArray]; k_extra "OM")); (case k5 => exact rfl); k_whole); intro _ _ _ _ zzl1; revert zzl1; intro _; (have _ := Mk9.mk); (try k_sweep)))
  k_with "tb_rel" => (first | (refine' TailIs.rebase ?tr1; (case tr1 => (with_reducible assumption))) | (refine' TailIs.at ?tr1 _; (case tr1 => (with_reducible assumption))) | (refine' TailIs.moveT ?tb1; (case tb1 => tb_rel)) | (refine' TailIs.cons ?tb1; (case tb1 => tb_rel)) | exact TailIs.nil)
  trivial
-- every old address stands in the ledger
theorem rows_C6_2 : True := by
  k_with "kcf_m" => (first
  | (refine' covC ?kc1 ?kc2; (case kc1 => k_mem); (case kc2 => kcf_m))
  | exact List.forall_mem_nil _
  | (intro zzq9 zzhq9; refine ⟨Prod.snd zzq9, ?_⟩; repeat (first | exact zzhq9 | (refine' TailIs.coverAt ?tc1 (Run.sub ?tc2) zzq9 zzhq9; (case tc1 => (with_reducible assumption)); (case tc2 => (with_reducible assumption))) | refine List.mem_cons_of_mem _ ?_)))
  trivial
-- what is made here is none of the old
theorem rows_C6_3 : True := by
  k_with "kcf_all" => ((intro zzq9 zzhq9 zzho9; repeat (first | exact zzho9 | refine List.forall_mem_cons.mpr ⟨tmp_ne (by (with_reducible assumption)) (by kcf_m) zzq9 zzhq9, ?_⟩)))
  k_with "tb_start" => ((
  (rename Grow _ _ _ _ => zzG9)
  (have zzgB9 := Grow.base zzG9)
  (repeat (rename Run _ _ (Grow.R zzG9) => zzR9; have _ := Run.step zzR9 zzG9 (by kcf_m) (by kcf_all); clear zzR9))
  (repeat (rename DatIn (Grow.R zzG9) _ _ => zzhX9; have _ := DatIn.mono zzgB9 zzhX9; clear zzhX9))
  (repeat (rename DatAll (Grow.R zzG9) _ _ => zzhX9; have _ := DatAll.mono zzgB9 zzhX9; clear zzhX9))
  (repeat (rename IntsAt (Grow.R zzG9) _ _ => zzhX9; have _ := IntsAt.mono zzhX9 zzgB9; clear zzhX9))
  (repeat (rename (_ ∈ Grow.R zzG9) => zzhX9; have _ := zzgB9 _ zzhX9; clear zzhX9))
  (repeat (rename OffL (Grow.R zzG9) _ => zzhX9; have _ := Grow.offL zzG9 zzhX9 ⟨_, by k_mem⟩ (by k_all); clear zzhX9))
  (have zzhS9 := Grow.sub zzG9; (first | refine fd_6 zzhS9 ?_ | refine fd_5 zzhS9 ?_ | refine fd_4 zzhS9 ?_ | refine fd_3 zzhS9 ?_ | refine fd_2 zzhS9 ?_ | refine fd_1 zzhS9 ?_ | refine fd_0 zzhS9 ?_); clear zzhS9)
  clear zzgB9 zzG9
  intros))
  k_with "kqd_in" => (first | (refine' DatIn.mono ?kd1 ?kd2; (case kd2 => first | (with_reducible assumption) | assumption); (case kd1 => (intro _ zzhp9; repeat (first | exact zzhp9 | (refine' TailIs.sub ?kd3 _ zzhp9; (case kd3 => first | (refine' TailIs.rebase ?tr1; (case tr1 => (with_reducible assumption))) | (refine' TailIs.at ?tr1 _; (case tr1 => (with_reducible assumption))))) | refine List.mem_cons_of_mem _ ?_)))) | fail "kqd_in")
  k_with "kqd_all" => (first | (refine' DatAll.mono ?kd1 ?kd2; (case kd2 => first | (with_reducible assumption) | assumption); (case kd1 => (intro _ zzhp9; repeat (first | exact zzhp9 | (refine' TailIs.sub ?kd3 _ zzhp9; (case kd3 => first | (refine' TailIs.rebase ?tr1; (case tr1 => (with_reducible assumption))) | (refine' TailIs.at ?tr1 _; (case tr1 => (with_reducible assumption))))) | refine List.mem_cons_of_mem _ ?_)))) | fail "kqd_all")
  k_with "compareOp Eq ref ref" => ((k_here; (with_reducible show wpAny _ _ (compareOp CmpOp.Eq (Value.ref _) (Value.ref _)) _ _ _); k_dflt (refine' dat_eq ?n9 ?da (fun _ h => h) ?db (fun _ h => h) ?oa ?ob ?u9 ?_; (case n9 => k_asm); (case da => kqd_in); (case db => kqd_in); (case oa => first | exact domD_ok _ | rfl | (with_reducible assumption)); (case ob => first | exact domD_ok _ | rfl | (with_reducible assumption)); (case u9 => ktr_units); intro _ _)))
  k_with "compareOp NotEq ref ref" => ((k_here; (with_reducible show wpAny _ _ (compareOp CmpOp.NotEq (Value.ref _) (Value.ref _)) _ _ _); k_dflt (refine' dat_ne ?n9 ?da (fun _ h => h) ?db (fun _ h => h) ?oa ?ob ?u9 ?_; (case n9 => k_asm); (case da => kqd_in); (case db => kqd_in); (case oa => first | exact domD_ok _ | rfl | (with_reducible assumption)); (case ob => first | exact domD_ok _ | rfl | (with_reducible assumption)); (case u9 => ktr_units); intro _ _)))
  k_with "call builtin:list.append" => ((k_here; (with_reducible show wpAny _ _ (call (Value.builtin _) [Value.ref _, _]) _ _ _); k_dflt (refine' append_L ?k1 ?k2 ?k3 ?z ?_; (case k1 => k_asm); (case k2 => k_asm); (case k3 => k_upd); (case z => first | k_extra "OM" | ((simp only [List.length_cons, List.length_nil, List.length_append]); k_extra "OM")); k_whole); intro _ _ _; (try k_sweep)))
  k_with "call builtin:min" => ((k_here; (with_reducible show wpAny _ _ (call (Value.builtin _) [Value.ref _]) _ _ _); k_dflt ((refine' min_L ?f9 ?n9 ?m9 ?i9 ?z9 ?h9 ?_; (case f9 => k_asm); (case n9 => k_asm); (case m9 => k_mem); (case i9 => (with_reducible assumption)); (case z9 => first | k_extra "OM" | (simp_all; k_extra "OM")); (case h9 => with_unfolding_all rfl)); intro _ _ _ _ _)))
  k_with "call builtin:max" => ((k_here; (with_reducible show wpAny _ _ (call (Value.builtin _) [Value.ref _]) _ _ _); k_dflt ((refine' max_L ?f9 ?n9 ?m9 ?i9 ?z9 ?h9 ?_; (case f9 => k_asm); (case n9 => k_asm); (case m9 => k_mem); (case i9 => (with_reducible assumption)); (case z9 => first | k_extra "OM" | (simp_all; k_extra "OM")); (case h9 => with_unfolding_all rfl)); intro _ _ _ _ _)))
  k_with "ktr_rel" => (((case n9 => k_asm); (case b9 => k_asm); (case f9 => k_asm); (case x9 => k_asm); (case t9 => k_asm); (case k9 => first | exact rfl | (with_reducible assumption)); (case d9 => ktr_room); (case u9 => ktr_units)))
  k_with "call ref" => ((k_here; (with_reducible show wpAny _ _ (call (Value.ref 108) _) _ _ _); k_dflt (first | ((refine' Call.cps (struck_c ?ti ?dl ?da ?ln) t_gD ?b9 ?f9 ?x9 ?t9 ?k9 ?d9 ?u9 ?n9 ?_; ktr_rel; (case ti => tb_rel); (case dl => kqd_in); (case da => kqd_in); (case ln => k_extra "OM")); intro _ _ _ _ _ _ _ zzN9; (try dsimp only at zzN9); tb_start) | refine Stop.intro ?_)))
  k_with "call ref" => ((k_here; (with_reducible show wpAny _ _ (call (Value.ref 101) _) _ _ _); k_dflt (first | ((refine' Call.cps (negation_c ?ti ?dl) t_gD ?b9 ?f9 ?x9 ?t9 ?k9 ?d9 ?u9 ?n9 ?_; ktr_rel; (case ti => tb_rel); (case dl => kqd_in)); intro _ _ _ _ _ _ _ zzN9; (try dsimp only at zzN9); tb_start) | refine Stop.intro ?_)))
  k_with "binaryOp Add ref ref" => ((k_here; (with_reducible show wpAny _ _ (binaryOp _ (Value.ref _) (Value.ref _)) _ _ _); k_dflt ((refine' add_dat ?f9 ?n9 ?ti ?da ?db ?ln ?_; (case f9 => k_asm); (case n9 => k_asm); (case ti => tb_rel); (case da => kqd_in); (case db => kqd_in); (case ln => exact Nat.le_of_ble_eq_true rfl)); intro _ _ _ _ zzN9 _ _; (try dsimp only at zzN9); tb_start)))
  k_with "setItem ref int" => ((k_here; (with_reducible show wpAny _ _ (setItem (Value.ref _) (Value.int _ _) (Value.bool _)) _ _ _); k_dflt (refine' kda_set (knd := PySem.intKind _ _) ?F ?N ?U ?d (intKind_is _ _ _ _) ?z ?_; (case F => k_asm); (case N => k_asm); (case U => k_updF); (case d => k_asm); (case z => (have _ := keysOk_len (by (with_reducible assumption)); rw [PySem.sizeLine_eq]; k_extra "OM")); intro _ _ _ zzN' _; (try dsimp only at zzN'))))
  k_with "call type:tuple" => ((k_here; (with_reducible show wpAny _ _ (call (Value.type _) [Value.ref _]) _ _ _); k_dflt (refine' tuple_dat ?n9 ?d9 ?_; (case n9 => k_asm); (case d9 => kqd_in))))
  k_with "setItem ref int ref" => ((k_here; (with_reducible show wpAny _ _ (setItem (Value.ref _) (Value.int _ _) (Value.ref _)) _ _ _); k_dflt (refine' set_sel ?f9 ?n9 ?x9 ?u9 ?_; (case f9 => k_asm); (case n9 => k_asm); (case x9 => (with_reducible assumption)); (case u9 => k_upd); k_whole; intro _ _ _)))
  k_with "subscriptTail Attribute Name Name ref int" => ((k_here; (with_reducible show wpAny _ _ (subscriptTail _ _ (Value.ref _) (Value.int _ _)) _ _ _); k_dflt (refine' item_sel ?n9 ?m9 ?x9 ?_ ?s9; (case n9 => k_asm); (case x9 => (with_reducible assumption)); (case m9 => k_mem); (case s9 => with_unfolding_all rfl); k_whole)))
  trivial
theorem enter_c0 {w : World} {K : Sk} {si sd dl fl tl ml nd la a0 a1 ca : Addr} {no : Obj} {sp : Int} {st : Tok} {fa : Bool} {rv : Value} {rd : Dat} {spk : Int} {stk : Tok} {n1 n2 : Nat} {tv : List Value} {tr : List Ent} {d0 d1 : Dom} {sg : Sg} {x k : Int} {others r0 rest : Led} {g : Led → Led}
  (TI : TailIs others r0 rest g) (hsi : (si, instObj 265 sd) ∈ rest) (Dl : DatIn rest (.ref la) (litD x sg.str k)) (D0 : DatIn rest (.ref a0) (domD d0)) (D1 : DatIn rest (.ref a1) (domD d1)) (Dr : DatIn rest rv rd)
  (hr : (rv = .none) ∨ (∃ ea, rv = .ref ea ∧ rd = .tuple [])) (Dt : DatAll rest tv (tr.map entD)) (hx : x = 0 ∨ x = 1) (hl0 : d0.length ≤ 1000) (hl1 : d1.length ≤ 1000) (htv : tv.length ≤ 1000) (hno : NewsO w no)
  (o1 : OffL others sd) (o2 : OffL others dl) (o3 : OffL others tl) (o4 : OffL others nd)
  (h12 : Apart sd dl) (h13 : Apart sd tl) (h14 : Apart sd nd) (h23 : Apart dl tl) (h24 : Apart dl nd) (h34 : Apart tl nd) :
  Call w 5 213 [.ref si, .ref la, rv, .int spk stk] ((sd, sdO w K dl fl tl ml nd sp st fa ca) :: (dl, listOf [Value.ref a0, .ref a1].toArray n1) :: (tl, listOf tv.toArray n2) :: (nd, no) :: others) (fun r nw =>
    (∃ ca' rest', struckF sg k (sel x d0 d1) = [] ∧ r = .bool false ∧ nw = (sd, sdO w K dl fl tl ml nd sp st true ca') :: (dl, listOf [Value.ref a0, .ref a1].toArray n1) :: (tl, listOf tv.toArray n2) :: (nd, no) :: g rest' ∧
      Grow ((sd, sdO w K dl fl tl ml nd sp st fa ca) :: (dl, listOf [Value.ref a0, .ref a1].toArray n1) :: (tl, listOf tv.toArray n2) :: (nd, no) :: others) r0 rest rest' ∧ DatIn rest' (.ref ca') (.tuple [litD x sg.neg (sg.negK k)])) ∨
    (∃ a0' a1' tv' n1' n2' no' rest', r = .bool true ∧ nw = (sd, sdO w K dl fl tl ml nd sp st fa ca) :: (dl, listOf [Value.ref a0', .ref a1'].toArray n1') :: (tl, listOf tv'.toArray n2') :: (nd, no') :: g rest' ∧
      Grow ((sd, sdO w K dl fl tl ml nd sp st fa ca) :: (dl, listOf [Value.ref a0, .ref a1].toArray n1) :: (tl, listOf tv.toArray n2) :: (nd, no) :: others) r0 rest rest' ∧ NewsO w no' ∧
      DatIn rest' (.ref a0') (domD (sel x (struckF sg k d0) d0)) ∧ DatIn rest' (.ref a1') (domD (sel x d1 (struckF sg k d1))) ∧ DatAll rest' tv' ((trailOf sg k x d0 d1 rd spk tr).map entD) ∧
      struckF sg k (sel x d0 d1) ≠ [])) := by
  intro p loose mean mg mb dp un gd cn cs a ccd cl outer A₀ base h₀ L m s Q E B F X T hk hd hu N hret
  revert X; k_fill; intro X
  have R0 : Run ((sd, sdO w K dl fl tl ml nd sp st fa ca) :: (dl, listOf [Value.ref a0, .ref a1].toArray n1) :: (tl, listOf tv.toArray n2) :: (nd, no) :: others) rest rest := Run.refl
  obtain ⟨n, t₁, t₂, t₃, hl⟩ := litD_open Dl
  obtain ⟨kvs, hkv, hkk⟩ := hno
  have q1 : OffL rest sd := fun p hp => o1 p (TI.sub p hp)
  have q2 : OffL rest dl := fun p hp => o2 p (TI.sub p hp)
  have q3 : OffL rest tl := fun p hp => o3 p (TI.sub p hp)
  have q4 : OffL rest nd := fun p hp => o4 p (TI.sub p hp)
  have Dx := datIn_sel hx D0 D1
  have hlx := len_sel hx hl0 hl1
  w_strict (
    refine wpAny_call ?_
    k_dflt k_enter
    k_steps
    · rcases hr with rfl | ⟨ea, rfl, rfl⟩
      all_goals k_steps
      all_goals (
        (rename Run _ _ _ => R9; rename Fr _ _ _ _ => F9; rename News _ _ _ _ => N9; rename (_ = true ↔ domD _ = Dat.tuple []) => e9)
        refine' hret _ _ _ _ F9 (TailIs.news ?t9 N9) ?p9
        case t9 => tb_rel
        case p9 =>
          refine .inl ⟨_, _, ?q1, rfl, rfl, Run.grow TI.base (Run.ext R9 (fun p hp => ?q3) ?r9), ?q2⟩
          case r9 => kcf_all
          case q1 => exact domD_nil.mp (e9.mp (by assumption))
          case q2 => kqd_in
          case q3 => repeat (first | exact hp | refine List.mem_cons_of_mem _ ?_))
    · (rename Run _ _ _ => R9; rename Fr _ _ _ _ => F9; rename News _ _ _ _ => N9; rename (_ = true ↔ domD _ = Dat.tuple []) => e9; rename (_ = true ↔ domD _ = domD _) => e8)
      refine' hret _ _ _ _ F9 (TailIs.news ?t9 N9) ?p9
      case t9 => tb_rel
      case p9 =>
        have e7 := domD_inj.mp (e8.mp (by assumption))
        refine .inr (in_7_8 _ _ _ _ _ _ _ rfl rfl (Run.grow TI.base (Run.ext R9 (fun p hp => ?q8) ?r9)) ⟨kvs, hkv, hkk⟩ ?q1 ?q2 ?q3 ?q4)
        case r9 => kcf_all
        case q8 => repeat (first | exact hp | refine List.mem_cons_of_mem _ ?_)
        case q1 => rw [(sel_eq0 hx e7).1]; kqd_in
        case q2 => rw [(sel_eq0 hx e7).2]; kqd_in
        case q3 => (rw [trailOf, if_pos e7]; kqd_all)
        case q4 => exact fun q => absurd (e9.mpr (domD_nil.mpr q)) (by simp_all)
    · (rename Run _ _ _ => R9; rename Fr _ _ _ _ => F9; rename News _ _ _ _ => N9; rename (_ = true ↔ domD _ = Dat.tuple []) => e9; rename (_ = true ↔ domD _ = domD _) => e8; rename Obj.IsDictOf _ _ (stored _ _ _) => hd9)
      refine' hret _ _ _ _ F9 (TailIs.news ?t9 N9) ?p9
      case t9 => tb_rel
      case p9 =>
        have e7 : ¬ _ = _ := fun q => absurd (e8.mpr (domD_inj.mpr q)) (by simp_all)
        refine .inr (in_7_8 _ _ _ _ _ _ _ rfl rfl (Run.grow TI.base (Run.ext R9 (fun p hp => ?q8) ?r9)) ⟨_, hd9, keysOk_stored hkk hx⟩ ?q1 ?q2 ?q3 ?q4)
        case r9 => kcf_all
        case q8 => repeat (first | exact hp | refine List.mem_cons_of_mem _ ?_)
        case q1 => exact dom_sel0 (d1 := d1) hx (by kqd_in) (by kqd_in)
        case q2 => exact dom_sel1 (d0 := d0) hx (by kqd_in) (by kqd_in)
        case q3 =>
          rw [trailOf, if_neg e7, List.map_append]
          refine DatAll.append (by kqd_all) (DatAll.one ?_)
          refine DatIn.tuple (by k_mem) (.cons (.int _ _) (.cons ?_ (.cons ?_ (.cons ?_ (.cons (.int _ _) .nil)))))
          · kqd_in
          · kqd_in
          · kqd_in
        case q4 => exact fun q => absurd (e9.mpr (domD_nil.mpr q)) (by simp_all))
theorem Pull.cover {d : Addr} {o : Obj} {l r : Led} (h : Pull d o l r) : ∀ p ∈ l, p ∈ (d, o) :: r := by
  induction h with
  | head _ => exact fun _ h => h
  | tail _ _ ih =>
    intro q hq
    rcases List.mem_cons.mp hq with e | hq
    · rw [e]; exact .tail _ (.head _)
    · rcases List.mem_cons.mp (ih q hq) with e | h
      · rw [e]; exact .head _
      · exact .tail _ (.tail _ h)
/-- five entries pulled out of a ledger: the store's -/
theorem pull4 {a b c d : Addr} {oa ob oc od : Obj} {l n1 n2 n3 n4 : Led} (P1 : Pull a oa l n1) (P2 : Pull b ob n1 n2) (P3 : Pull c oc n2 n3) (P4 : Pull d od n3 n4) :
    (∀ p ∈ (a, oa) :: (b, ob) :: (c, oc) :: (d, od) :: n4, p ∈ l) ∧ (∀ p ∈ l, p ∈ (a, oa) :: (b, ob) :: (c, oc) :: (d, od) :: n4) ∧ OffL n4 a ∧ OffL n4 b ∧ OffL n4 c ∧ OffL n4 d ∧ Apart a b ∧ Apart a c ∧ Apart a d ∧ Apart b c ∧ Apart b d ∧ Apart c d := by
  have s4 : ∀ p ∈ n4, p ∈ n3 := fun p hp => P4.sub p (.tail _ hp)
  have s3 : ∀ p ∈ n3, p ∈ n2 := fun p hp => P3.sub p (.tail _ hp)
  have s2 : ∀ p ∈ n2, p ∈ n1 := fun p hp => P2.sub p (.tail _ hp)
  have s1 : ∀ p ∈ n1, p ∈ l := fun p hp => P1.sub p (.tail _ hp)
  refine ⟨fun p hp => ?_, fun p hp => ?_, fun p hp => P1.off p (s2 p (s3 p (s4 p hp))), fun p hp => P2.off p (s3 p (s4 p hp)), fun p hp => P3.off p (s4 p hp), P4.off,
    fun e => P1.off _ P2.mem e.symm, fun e => P1.off _ (s2 _ P3.mem) e.symm, fun e => P1.off _ (s2 _ (s3 _ P4.mem)) e.symm, fun e => P2.off _ P3.mem e.symm, fun e => P2.off _ (s3 _ P4.mem) e.symm, fun e => P3.off _ P4.mem e.symm⟩
  · rcases List.mem_cons.mp hp with e | hp
    · rw [e]; exact P1.mem
    rcases List.mem_cons.mp hp with e | hp
    · rw [e]; exact s1 _ P2.mem
    rcases List.mem_cons.mp hp with e | hp
    · rw [e]; exact s1 _ (s2 _ P3.mem)
    rcases List.mem_cons.mp hp with e | hp
    · rw [e]; exact s1 _ (s2 _ (s3 _ P4.mem))
    · exact s1 _ (s2 _ (s3 _ (s4 _ hp)))
  · rcases List.mem_cons.mp (P1.cover p hp) with e | hp
    · rw [e]; exact .head _
    rcases List.mem_cons.mp (P2.cover p hp) with e | hp
    · rw [e]; exact .tail _ (.head _)
    rcases List.mem_cons.mp (P3.cover p hp) with e | hp
    · rw [e]; exact .tail _ (.tail _ (.head _))
    rcases List.mem_cons.mp (P4.cover p hp) with e | hp
    · rw [e]; exact .tail _ (.tail _ (.tail _ (.head _)))
    · exact .tail _ (.tail _ (.tail _ (.tail _ hp)))
theorem Grow.cov {l l' r0 r r' : Led} (G : Grow l r0 r r') (h : ∀ p ∈ l', p ∈ l) : Grow l' r0 r r' := ⟨G.base, G.sub, fun d ⟨o, hd⟩ ho => G.off d ⟨o, h _ hd⟩ ho⟩
theorem enter_c {w : World} {K : Sk} {si sd dl fl tl ml nd la a0 a1 ca : Addr} {no : Obj} {sp : Int} {st : Tok} {fa : Bool} {rv : Value} {rd : Dat} {spk : Int} {stk : Tok} {n1 n2 : Nat} {tv : List Value} {tr : List Ent} {d0 d1 : Dom} {sg : Sg} {x k : Int} {news l1 l2 l3 others r0 rest : Led} {g : Led → Led}
  (P1 : Pull sd (sdO w K dl fl tl ml nd sp st fa ca) news l1) (P2 : Pull dl (listOf [Value.ref a0, .ref a1].toArray n1) l1 l2) (P3 : Pull tl (listOf tv.toArray n2) l2 l3) (P4 : Pull nd no l3 others)
  (TI : TailIs others r0 rest g) (hsi : (si, instObj 265 sd) ∈ rest) (Dl : DatIn rest (.ref la) (litD x sg.str k)) (D0 : DatIn rest (.ref a0) (domD d0)) (D1 : DatIn rest (.ref a1) (domD d1)) (Dr : DatIn rest rv rd)
  (hr : (rv = .none) ∨ (∃ ea, rv = .ref ea ∧ rd = .tuple [])) (Dt : DatAll rest tv (tr.map entD)) (hx : x = 0 ∨ x = 1) (hl0 : d0.length ≤ 1000) (hl1 : d1.length ≤ 1000) (htv : tv.length ≤ 1000) (hno : NewsO w no) :
  Call w 5 213 [.ref si, .ref la, rv, .int spk stk] news (fun r nw =>
    (∃ ca' rest', struckF sg k (sel x d0 d1) = [] ∧ r = .bool false ∧ nw = (sd, sdO w K dl fl tl ml nd sp st true ca') :: (dl, listOf [Value.ref a0, .ref a1].toArray n1) :: (tl, listOf tv.toArray n2) :: (nd, no) :: g rest' ∧
      Grow news r0 rest rest' ∧ DatIn rest' (.ref ca') (.tuple [litD x sg.neg (sg.negK k)])) ∨
    (∃ a0' a1' tv' n1' n2' no' rest', r = .bool true ∧ nw = (sd, sdO w K dl fl tl ml nd sp st fa ca) :: (dl, listOf [Value.ref a0', .ref a1'].toArray n1') :: (tl, listOf tv'.toArray n2') :: (nd, no') :: g rest' ∧
      Grow news r0 rest rest' ∧ NewsO w no' ∧
      DatIn rest' (.ref a0') (domD (sel x (struckF sg k d0) d0)) ∧ DatIn rest' (.ref a1') (domD (sel x d1 (struckF sg k d1))) ∧ DatAll rest' tv' ((trailOf sg k x d0 d1 rd spk tr).map entD) ∧
      struckF sg k (sel x d0 d1) ≠ [])) := by
  obtain ⟨hs, hc, o1, o2, o3, o4, h12, h13, h14, h23, h24, h34⟩ := pull4 P1 P2 P3 P4
  refine Call.sub (Call.mono (enter_c0 (w := w) (K := K) (fl := fl) (ml := ml) (sp := sp) (st := st) (fa := fa) (ca := ca) (n1 := n1) (n2 := n2) (spk := spk) (stk := stk) TI hsi Dl D0 D1 Dr hr Dt hx hl0 hl1 htv hno o1 o2 o3 o4 h12 h13 h14 h23 h24 h34) (Nat.le_refl _) fun r nw hp => ?_) hs
  refine hp.imp ?_ ?_
  · exact fun ⟨ca', rest', a, b, c, G, e⟩ => ⟨ca', rest', a, b, c, G.cov hc, e⟩
  · exact fun hp => el_7_8 hp fun a0' a1' tv' n1' n2' no' rest' a b G c d e f i => in_7_8 a0' a1' tv' n1' n2' no' rest' a b (G.cov hc) c d e f i
theorem rows_C8_0 : True := by
  k_with_none
  w_top off
  trivial
theorem trailOf_len {sg : Sg} {k x : Int} {d0 d1 : Dom} {rd : Dat} {spk : Int} {tr : List Ent} : (trailOf sg k x d0 d1 rd spk tr).length ≤ tr.length + 1 := by
  unfold trailOf
  split
  · omega
  · simp
theorem ge_len {k : Int} {d : Dom} : (struckF .ge k d).length ≤ d.length := by
  simp only [struckF, fromOn, List.length_map]; exact List.length_filter_le ..
theorem selLen {x : Int} {a b : Dom} {n : Nat} (h : x = 0 ∨ x = 1) (ha : a.length ≤ n) (hb : b.length ≤ n) : (sel x a b).length ≤ n := by
  rcases h with rfl | rfl
  · exact ha
  · exact hb
/-- what between does to one variable's domain: its answer, the domain, the trail, the clash -/
structure BR where
  ok : Bool
  dx : Dom
  tr : List Ent
  cl : List Dat
def tr1 (sg : Sg) (k x : Int) (dx : Dom) (sp : Int) (tr : List Ent) : List Ent := if struckF sg k dx = dx then tr else tr ++ [⟨x, dx, litD x sg.str k, .tuple [], sp⟩]
def betwF (x sp : Int) (ns : List Int) (dx : Dom) (tr : List Ent) : BR :=
  if ns = [] then ⟨false, dx, tr, []⟩
  else if struckF .ge (minI ns) dx = [] then ⟨false, dx, tr, [litD x Sg.ge.neg (Sg.ge.negK (minI ns))]⟩
  else if struckF .le (maxI ns) (struckF .ge (minI ns) dx) = [] then ⟨false, struckF .ge (minI ns) dx, tr1 .ge (minI ns) x dx sp tr, [litD x Sg.le.neg (Sg.le.negK (maxI ns))]⟩
  else ⟨true, struckF .le (maxI ns) (struckF .ge (minI ns) dx), tr1 .le (maxI ns) x (struckF .ge (minI ns) dx) sp (tr1 .ge (minI ns) x dx sp tr), []⟩
theorem betw0 {x sp : Int} {ns : List Int} {dx : Dom} {tr : List Ent} (h : ns = []) : betwF x sp ns dx tr = ⟨false, dx, tr, []⟩ := if_pos h
theorem betw1 {x sp : Int} {ns : List Int} {dx : Dom} {tr : List Ent} (h : ns ≠ []) (h1 : struckF .ge (minI ns) dx = []) : betwF x sp ns dx tr = ⟨false, dx, tr, [litD x Sg.ge.neg (Sg.ge.negK (minI ns))]⟩ := by
  unfold betwF; rw [if_neg h, if_pos h1]
theorem betw2 {x sp : Int} {ns : List Int} {dx : Dom} {tr : List Ent} (h : ns ≠ []) (h1 : struckF .ge (minI ns) dx ≠ []) (h2 : struckF .le (maxI ns) (struckF .ge (minI ns) dx) = []) :
    betwF x sp ns dx tr = ⟨false, struckF .ge (minI ns) dx, tr1 .ge (minI ns) x dx sp tr, [litD x Sg.le.neg (Sg.le.negK (maxI ns))]⟩ := by
  unfold betwF; rw [if_neg h, if_neg h1, if_pos h2]
theorem betw3 {x sp : Int} {ns : List Int} {dx : Dom} {tr : List Ent} (h : ns ≠ []) (h1 : struckF .ge (minI ns) dx ≠ []) (h2 : struckF .le (maxI ns) (struckF .ge (minI ns) dx) ≠ []) :
    betwF x sp ns dx tr = ⟨true, struckF .le (maxI ns) (struckF .ge (minI ns) dx), tr1 .le (maxI ns) x (struckF .ge (minI ns) dx) sp (tr1 .ge (minI ns) x dx sp tr), []⟩ := by
  unfold betwF; rw [if_neg h, if_neg h1, if_neg h2]
theorem selsel {α : Type} {x : Int} (hx : x = 0 ∨ x = 1) {a b c d : α} : sel x (sel x a b) (sel x c d) = sel x a d := by
  rcases hx with rfl | rfl <;> rfl
theorem sel_app {α β : Type} {x : Int} (f : α → β) {a b : α} : sel x (f a) (f b) = f (sel x a b) := by
  unfold sel; split <;> rfl
theorem bw_0 {x : Int} (hx : x = 0 ∨ x = 1) {d0 d1 : Dom} : sel x (sel x d0 d1) d0 = d0 ∧ sel x d1 (sel x d0 d1) = d1 := by
  rcases hx with rfl | rfl <;> exact ⟨rfl, rfl⟩
theorem bw_1 {x : Int} (hx : x = 0 ∨ x = 1) {d0 d1 : Dom} {sg : Sg} {k : Int} : sel x (struckF sg k (sel x d0 d1)) d0 = sel x (struckF sg k d0) d0 ∧ sel x d1 (struckF sg k (sel x d0 d1)) = sel x d1 (struckF sg k d1) := by
  rcases hx with rfl | rfl <;> exact ⟨rfl, rfl⟩
theorem bw_2 {x : Int} (hx : x = 0 ∨ x = 1) {d0 d1 : Dom} {sg sh : Sg} {k m : Int} :
    sel x (struckF sh m (struckF sg k (sel x d0 d1))) d0 = sel x (struckF sh m (sel x (struckF sg k d0) d0)) (sel x (struckF sg k d0) d0) ∧ sel x d1 (struckF sh m (struckF sg k (sel x d0 d1))) = sel x (sel x d1 (struckF sg k d1)) (struckF sh m (sel x d1 (struckF sg k d1))) := by
  rcases hx with rfl | rfl <;> exact ⟨rfl, rfl⟩
theorem bw_t {x sp k m : Int} (hx : x = 0 ∨ x = 1) {d0 d1 : Dom} {sg sh : Sg} {tr : List Ent} :
    tr1 sh m x (struckF sg k (sel x d0 d1)) sp (tr1 sg k x (sel x d0 d1) sp tr) = trailOf sh m x (sel x (struckF sg k d0) d0) (sel x d1 (struckF sg k d1)) (.tuple []) sp (trailOf sg k x d0 d1 (.tuple []) sp tr) := by
  rcases hx with rfl | rfl <;> rfl
theorem rows_C8_1 : True := by
  k_with "LT9" => (first | (with_reducible assumption) | (refine' ltM ?lt1 ?lt2; (case lt1 => (with_reducible assumption)); (case lt2 => (repeat (first | exact List.Mem.head _ | refine List.Mem.tail _ ?_)); done)) | (refine' ltT ?lt0 ?lt1 ?lt2; (case lt0 => (with_reducible assumption)); (case lt1 => (with_reducible assumption)); (case lt2 => (repeat (first | exact List.Mem.head _ | refine List.Mem.tail _ ?_)); done)) | fail "LT9")
  k_with "k_ne" => (first | (with_reducible assumption) | (refine' Ne.symm ?ne1; (case ne1 => (with_reducible assumption))) | (refine neG ?_; walk_at "LT9") | (refine neL ?_; walk_at "LT9") | (refine neS ?_; walk_at "LT9") | (refine neT ?_; walk_at "LT9") | (refine neS2 ?_; walk_at "LT9") | (refine neT2 ?_; walk_at "LT9") | (refine neS3 ?_; walk_at "LT9") | (refine neT3 ?_; walk_at "LT9") | (refine' neM (l := _ :: _) ?lt1 ?lt2; (case lt1 => (with_reducible assumption)); (case lt2 => (repeat (first | exact List.Mem.head _ | refine List.Mem.tail _ ?_)); done)) | (refine' neN (l := _ :: _) ?lt1 ?lt2; (case lt1 => (with_reducible assumption)); (case lt2 => (repeat (first | exact List.Mem.head _ | refine List.Mem.tail _ ?_)); done)) | exact nc12 | exact nc21 | exact nc13 | exact nc31 | exact nc23 | exact nc32 | fail "k_ne")
  k_with "ktr_room" => (first | (rename (_ + _ < recursionLimit) => zzh9; first | exact rmU 0 zzh9 rfl rfl | exact rmU 1 zzh9 rfl rfl | exact rmU 2 zzh9 rfl rfl | exact rmU 3 zzh9 rfl rfl | exact rmU 4 zzh9 rfl rfl | exact rmU 5 zzh9 rfl rfl | exact rmU 6 zzh9 rfl rfl | exact rmU 7 zzh9 rfl rfl | exact rmU 8 zzh9 rfl rfl | exact rmU 9 zzh9 rfl rfl) | exact ltB rfl)
  k_with "ktr_units" => (first | (rename (_ + _ + _ < cLine) => zzh9; first | exact umU 0 zzh9 rfl rfl | exact umU 3 zzh9 rfl rfl | exact umU 6 zzh9 rfl rfl | exact umU 9 zzh9 rfl rfl | exact umU 12 zzh9 rfl rfl | exact umU 1 zzh9 rfl rfl | exact umU 4 zzh9 rfl rfl | exact umU 7 zzh9 rfl rfl | exact umU 10 zzh9 rfl rfl | exact umU 2 zzh9 rfl rfl | exact umU 5 zzh9 rfl rfl | exact umU 8 zzh9 rfl rfl | exact umU 11 zzh9 rfl rfl | exact umU 13 zzh9 rfl rfl | exact umU 14 zzh9 rfl rfl | exact umU 15 zzh9 rfl rfl | exact umV 0 zzh9 rfl rfl | exact umV 3 zzh9 rfl rfl | exact umV 6 zzh9 rfl rfl | exact umV 9 zzh9 rfl rfl | exact umV 12 zzh9 rfl rfl | exact umV 1 zzh9 rfl rfl | exact umV 4 zzh9 rfl rfl | exact umV 7 zzh9 rfl rfl | exact umV 10 zzh9 rfl rfl | exact umV 2 zzh9 rfl rfl | exact umV 5 zzh9 rfl rfl | exact umV 8 zzh9 rfl rfl | exact umV 11 zzh9 rfl rfl | exact umV 13 zzh9 rfl rfl | exact umV 14 zzh9 rfl rfl | exact umV 15 zzh9 rfl rfl) | exact ltB rfl)
  k_with "OM" => (first | (with_reducible assumption) | exact Nat.zero_le _ | (refine' leB ?om1 ?om2; (case om1 => (with_reducible assumption)); (case om2 => (fail_if_success (fail_if_success decide)); exact rfl)) | (refine' leS ?om1 ?om2; (case om1 => (with_reducible assumption)); (case om2 => (fail_if_success (fail_if_success decide)); exact rfl)) | (with_reducible refine' ltL ?om1 ?om2; (case om1 => (with_reducible assumption)); (case om2 => (fail_if_success (fail_if_success decide)); exact rfl)) | ((fail_if_success (fail_if_success decide)); exact ltB rfl) | (refine' i0_1 ?om1; (case om1 => (with_reducible assumption))) | (refine' i0_2 ?om1; (case om1 => (with_reducible assumption))) | (refine' i0_3 ?om1; (case om1 => (with_reducible assumption))) | (refine' il_0 ?om1 ?om2; (case om1 => (with_reducible assumption)); (case om2 => decide)) | (refine' il_1 ?om1 ?om2; (case om1 => (with_reducible assumption)); (case om2 => decide)) | (refine' il_2 ?om1 ?om2; (case om1 => (with_reducible assumption)); (case om2 => decide)) | (refine' il_3 ?om1 ?om2; (case om1 => (with_reducible assumption)); (case om2 => decide)) | exact ia_3 | exact ia_5 | exact ic_0 | decide | omega)
  k_with "k_all" => (first
  | (with_reducible assumption)
  | (refine' OffL.out ?ko1; (case ko1 => (with_reducible assumption)))
  | (refine' offA ?ko1; (case ko1 => (with_reducible assumption)))
  | (refine' TailIs.offAtL ?ko1 ?ko2 ?ko3; (case ko1 => (with_reducible assumption)); (case ko2 => (with_reducible assumption)); (case ko3 => (with_reducible assumption)))
  | (refine' offC ?ka1 ?ka2; (case ka1 => first | (refine' Apart.l ?kp1; (case kp1 => (with_reducible assumption))) | (refine' Apart.r ?kp1; (case kp1 => (with_reducible assumption))) | k_ne); (case ka2 => k_all))
  | assumption)
  k_with "k_upd" => (first | (refine' Upd.head ?ku1; (case ku1 => k_all)) | (refine' Upd.tail ?ku1 ?ku2; (case ku1 => first | (refine' Apart.l ?kp1; (case kp1 => (with_reducible assumption))) | (refine' Apart.r ?kp1; (case kp1 => (with_reducible assumption))) | k_ne); (case ku2 => k_upd)) | fail "k_upd")
  k_with "k_updF" => (first | (refine' Pull.head ?kf1; (case kf1 => k_all)) | (refine' Pull.tail ?_ ?kf2; (case kf2 => k_updF); (first | (refine' Apart.l ?kp1; (case kp1 => (with_reducible assumption))) | (refine' Apart.r ?kp1; (case kp1 => (with_reducible assumption))) | k_ne)) | (refine' UpdF.head ?kf1; (case kf1 => k_all)) | (refine' UpdF.tail ?_ ?kf2; (case kf2 => k_updF); (first | (refine' Apart.l ?kp1; (case kp1 => (with_reducible assumption))) | (refine' Apart.r ?kp1; (case kp1 => (with_reducible assumption))) | k_ne)) | fail "k_updF")
  k_with "k_mem" => (first | (refine mem_of ?_; (with_reducible assumption)) | (refine mem_of ?_; refine' TailIs.sub ?km1 _ ?km2; (case km1 => first | (refine' TailIs.rebase ?tr1; (case tr1 => (with_reducible assumption))) | (refine' TailIs.at ?tr1 _; (case tr1 => (with_reducible assumption)))); (case km2 => (with_reducible assumption))) | fail "k_mem")
  k_with "call builtin:len" => ((k_here; (with_reducible show wpAny _ _ (call (Value.builtin "len") [Value.ref _]) _ _ _); k_dflt (refine' len_ints_fit (News.isList ?n ?m) ?i ?f ?_; (case n => k_asm); (case m => k_mem); (case i => (with_reducible assumption)); (case f => k_extra "OM"); k_whole)))
  k_with "subscriptTail Name Name ref int" => ((k_here; (with_reducible show wpAny _ _ (subscriptTail _ _ (Value.ref _) (Value.int _ _)) _ _ _); (with_unfolding_all refine' item_list_ints (News.isList ?n ?m) ?k2 ?k3 ?k4 ?k5 ?_; (case n => k_asm); (case m => k_mem); (case k2 => (with_reducible assumption)); (case k3 => k_extra "OM"); (case k4 => k_extra "OM"); (case k5 => k_extra "OM"); k_whole); intro _))
  k_with "k_enter" => (first
  | (refine' code_def ?k1 ?k2 ?k3 ?k4 ?k5 ?kA ?kF ?kK ?k6 ?k7 ?k8 ?k9 ?kB ?_ ?c2 ?c3 ?c4 ?c5; (case kA => exact rfl); (case kF => exact rfl); (case kK => first | exact rfl | (with_reducible assumption)); (case k1 => k_asm); (case k2 => k_asm); (case k3 => k_asm); (case k4 => k_asm); (case k5 => k_asm); (case k6 => k_is); (case k7 => k_is); (case k8 => ktr_room); (case k9 => first | exact BindsTo.of_eq rfl | exact binds_K (by k_in) rfl (by k_is) rfl rfl rfl | fail "k_enter: no rule for these arguments"); (case c5 => decide); (case kB => exact locs rfl); (case c2 => exact rfl); (case c3 => exact rfl); (case c4 => exact rfl); k_whole; intro _ _ _ _ _ zzN' _ _ _; (try dsimp only); (try k_fold))
  | (refine' code_defC ?k1 ?k2 ?k3 ?k4 ?k5 ?kA ?kF ?kK ?k6 ?k7 ?k8 ?k9 ?kB ?kD ?_ ?c2 ?c3 ?c4; (case kA => exact rfl); (case kF => exact rfl); (case kK => first | exact rfl | (with_reducible assumption)); (case k1 => k_asm); (case k2 => k_asm); (case k3 => k_asm); (case k4 => k_asm); (case k5 => k_asm); (case k6 => k_is); (case k7 => k_is); (case k8 => ktr_room); (case k9 => first | exact BindsTo.of_eq rfl | exact binds_K (by k_in) rfl (by k_is) rfl rfl rfl | fail "k_enter: no rule for these arguments"); (case kB => exact rfl); (case kD => decide +kernel); (case c2 => exact rfl); (case c3 => exact rfl); (case c4 => exact rfl); k_whole; intro _ _ _ _ _ _ _ zzN' zzY' _ _ _ zzl1; revert zzl1; intro _; (have _ := Mk9.mk); k_cells zzY'; (try (simp only [List.cons_append, List.nil_append] at zzN'; revert zzN'; intro _)); (try dsimp only); (try k_fold)))
  k_with "call type:tuple" => ((k_here; (with_reducible show wpAny _ _ (call (Value.type _) [Value.ref _]) _ _ _); k_dflt (refine' kde_tupleOf ?k1 ?k2 (News.isList ?k3 ?k6) ?k4 ?k5 ?_; (case k1 => k_asm); (case k2 => k_asm); (case k3 => k_asm); (case k6 => k_mem); (case k4 => (simp only [List.size_toArray]; k_extra "OM")); (case k5 => exact rfl); k_whole); intro _ _ _ _ zzl1; revert zzl1; intro _; (have _ := Mk9.mk); (try k_sweep)))
  k_with "tb_rel" => (first | (refine' TailIs.rebase ?tr1; (case tr1 => (with_reducible assumption))) | (refine' TailIs.at ?tr1 _; (case tr1 => (with_reducible assumption))) | (refine' TailIs.moveT ?tb1; (case tb1 => tb_rel)) | (refine' TailIs.cons ?tb1; (case tb1 => tb_rel)) | exact TailIs.nil)
  trivial
-- every old address stands in the ledger
theorem rows_C8_2 : True := by
  k_with "kcf_m" => (first
  | (refine' covC ?kc1 ?kc2; (case kc1 => k_mem); (case kc2 => kcf_m))
  | exact List.forall_mem_nil _
  | (intro zzq9 zzhq9; refine ⟨Prod.snd zzq9, ?_⟩; repeat (first | exact zzhq9 | (refine' TailIs.coverAt ?tc1 (Run.sub ?tc2) zzq9 zzhq9; (case tc1 => (with_reducible assumption)); (case tc2 => (with_reducible assumption))) | refine List.mem_cons_of_mem _ ?_)))
  trivial
-- what is made here is none of the old
theorem rows_C8_3 : True := by
  k_with "kcf_all" => ((intro zzq9 zzhq9 zzho9; repeat (first | exact zzho9 | refine List.forall_mem_cons.mpr ⟨tmp_ne (by (with_reducible assumption)) (by kcf_m) zzq9 zzhq9, ?_⟩)))
  k_with "tb_start" => ((
  (rename Grow _ _ _ _ => zzG9)
  (have zzgB9 := Grow.base zzG9)
  (repeat (rename Run _ _ (Grow.R zzG9) => zzR9; have _ := Run.step zzR9 zzG9 (by kcf_m) (by kcf_all); clear zzR9))
  (repeat (rename DatIn (Grow.R zzG9) _ _ => zzhX9; have _ := DatIn.mono zzgB9 zzhX9; clear zzhX9))
  (repeat (rename DatAll (Grow.R zzG9) _ _ => zzhX9; have _ := DatAll.mono zzgB9 zzhX9; clear zzhX9))
  (repeat (rename IntsAt (Grow.R zzG9) _ _ => zzhX9; have _ := IntsAt.mono zzhX9 zzgB9; clear zzhX9))
  (repeat (rename (_ ∈ Grow.R zzG9) => zzhX9; have _ := zzgB9 _ zzhX9; clear zzhX9))
  (repeat (rename OffL (Grow.R zzG9) _ => zzhX9; have _ := Grow.offL zzG9 zzhX9 ⟨_, by k_mem⟩ (by k_all); clear zzhX9))
  (have zzhS9 := Grow.sub zzG9; (first | refine fd_6 zzhS9 ?_ | refine fd_5 zzhS9 ?_ | refine fd_4 zzhS9 ?_ | refine fd_3 zzhS9 ?_ | refine fd_2 zzhS9 ?_ | refine fd_1 zzhS9 ?_ | refine fd_0 zzhS9 ?_); clear zzhS9)
  clear zzgB9 zzG9
  intros))
  k_with "kqd_in" => (first | (refine' DatIn.mono ?kd1 ?kd2; (case kd2 => first | (with_reducible assumption) | assumption); (case kd1 => (intro _ zzhp9; repeat (first | exact zzhp9 | (refine' TailIs.sub ?kd3 _ zzhp9; (case kd3 => first | (refine' TailIs.rebase ?tr1; (case tr1 => (with_reducible assumption))) | (refine' TailIs.at ?tr1 _; (case tr1 => (with_reducible assumption))))) | refine List.mem_cons_of_mem _ ?_)))) | fail "kqd_in")
  k_with "kqd_all" => (first | (refine' DatAll.mono ?kd1 ?kd2; (case kd2 => first | (with_reducible assumption) | assumption); (case kd1 => (intro _ zzhp9; repeat (first | exact zzhp9 | (refine' TailIs.sub ?kd3 _ zzhp9; (case kd3 => first | (refine' TailIs.rebase ?tr1; (case tr1 => (with_reducible assumption))) | (refine' TailIs.at ?tr1 _; (case tr1 => (with_reducible assumption))))) | refine List.mem_cons_of_mem _ ?_)))) | fail "kqd_all")
  k_with "compareOp Eq ref ref" => ((k_here; (with_reducible show wpAny _ _ (compareOp CmpOp.Eq (Value.ref _) (Value.ref _)) _ _ _); k_dflt (refine' dat_eq ?n9 ?da (fun _ h => h) ?db (fun _ h => h) ?oa ?ob ?u9 ?_; (case n9 => k_asm); (case da => kqd_in); (case db => kqd_in); (case oa => first | exact domD_ok _ | rfl | (with_reducible assumption)); (case ob => first | exact domD_ok _ | rfl | (with_reducible assumption)); (case u9 => ktr_units); intro _ _)))
  k_with "compareOp NotEq ref ref" => ((k_here; (with_reducible show wpAny _ _ (compareOp CmpOp.NotEq (Value.ref _) (Value.ref _)) _ _ _); k_dflt (refine' dat_ne ?n9 ?da (fun _ h => h) ?db (fun _ h => h) ?oa ?ob ?u9 ?_; (case n9 => k_asm); (case da => kqd_in); (case db => kqd_in); (case oa => first | exact domD_ok _ | rfl | (with_reducible assumption)); (case ob => first | exact domD_ok _ | rfl | (with_reducible assumption)); (case u9 => ktr_units); intro _ _)))
  k_with "call builtin:list.append" => ((k_here; (with_reducible show wpAny _ _ (call (Value.builtin _) [Value.ref _, _]) _ _ _); k_dflt (refine' append_L ?k1 ?k2 ?k3 ?z ?_; (case k1 => k_asm); (case k2 => k_asm); (case k3 => k_upd); (case z => first | k_extra "OM" | ((simp only [List.length_cons, List.length_nil, List.length_append]); k_extra "OM")); k_whole); intro _ _ _; (try k_sweep)))
  k_with "call builtin:min" => ((k_here; (with_reducible show wpAny _ _ (call (Value.builtin _) [Value.ref _]) _ _ _); k_dflt ((refine' min_L ?f9 ?n9 ?m9 ?i9 ?z9 ?h9 ?_; (case f9 => k_asm); (case n9 => k_asm); (case m9 => k_mem); (case i9 => (with_reducible assumption)); (case z9 => first | k_extra "OM" | (simp_all; k_extra "OM")); (case h9 => with_unfolding_all rfl)); intro _ _ _ _ _)))
  k_with "call builtin:max" => ((k_here; (with_reducible show wpAny _ _ (call (Value.builtin _) [Value.ref _]) _ _ _); k_dflt ((refine' max_L ?f9 ?n9 ?m9 ?i9 ?z9 ?h9 ?_; (case f9 => k_asm); (case n9 => k_asm); (case m9 => k_mem); (case i9 => (with_reducible assumption)); (case z9 => first | k_extra "OM" | (simp_all; k_extra "OM")); (case h9 => with_unfolding_all rfl)); intro _ _ _ _ _)))
  k_with "ktr_rel" => (((case n9 => k_asm); (case b9 => k_asm); (case f9 => k_asm); (case x9 => k_asm); (case t9 => k_asm); (case k9 => first | exact rfl | (with_reducible assumption)); (case d9 => ktr_room); (case u9 => ktr_units)))
  trivial
-- what the entering of a literal asks
theorem rows_C8_4 : True := by
  k_with "ktr_unf" => (((case p1 => k_updF); (case p2 => k_updF); (case p3 => k_updF); (case p4 => k_updF); (case ti => tb_rel); (case dl => kqd_in); (case si => k_mem); (case d0 => kqd_in); (case d1 => kqd_in); (case dr => kqd_in); (case hr => first | exact .inl rfl | exact .inr ⟨_, rfl, rfl⟩); (case dt => kqd_all); (case hx => (with_reducible assumption)); (case l0 => first | k_extra "OM" | (simp only [List.length_map]; first | k_extra "OM" | (refine Nat.le_trans trailOf_len ?_; k_extra "OM")) | exact selLen (by (with_reducible assumption)) (by first | k_extra "OM" | exact Nat.le_trans ge_len (by k_extra "OM")) (by first | k_extra "OM" | exact Nat.le_trans ge_len (by k_extra "OM"))); (case l1 => first | k_extra "OM" | (simp only [List.length_map]; first | k_extra "OM" | (refine Nat.le_trans trailOf_len ?_; k_extra "OM")) | exact selLen (by (with_reducible assumption)) (by first | k_extra "OM" | exact Nat.le_trans ge_len (by k_extra "OM")) (by first | k_extra "OM" | exact Nat.le_trans ge_len (by k_extra "OM"))); (case tv => exact datLen (by (with_reducible assumption)) (by first | k_extra "OM" | (simp only [List.length_map]; first | k_extra "OM" | (refine Nat.le_trans trailOf_len ?_; k_extra "OM")) | exact selLen (by (with_reducible assumption)) (by first | k_extra "OM" | exact Nat.le_trans ge_len (by k_extra "OM")) (by first | k_extra "OM" | exact Nat.le_trans ge_len (by k_extra "OM")))); (case no => (with_reducible assumption))))
  k_with "call ref" => ((k_here; (with_reducible show wpAny _ _ (call (Value.ref 213) _) _ _ _); refine Stop.intro ?_))
  k_with "ENTER ge" => ((unfold Stop; refine' Call.cps (enter_c (sg := .ge) ?p1 ?p2 ?p3 ?p4 ?ti ?si ?dl ?d0 ?d1 ?dr ?hr ?dt ?hx ?l0 ?l1 ?tv ?no) (t_alt t_z t_7_6) ?b9 ?f9 ?x9 ?t9 ?k9 ?d9 ?u9 ?n9 ?_; ktr_rel; ktr_unf; intro _ _ _; (refine And.intro (fun _ _ _ _ _ N8 => ?_) (fun _ _ _ _ _ _ _ _ _ _ _ _ _ N8 => ?_)) <;> ((try dsimp only at N8); tb_start)))
  k_with "ENTER le" => ((unfold Stop; refine' Call.cps (enter_c (sg := .le) ?p1 ?p2 ?p3 ?p4 ?ti ?si ?dl ?d0 ?d1 ?dr ?hr ?dt ?hx ?l0 ?l1 ?tv ?no) (t_alt t_z t_7_6) ?b9 ?f9 ?x9 ?t9 ?k9 ?d9 ?u9 ?n9 ?_; ktr_rel; ktr_unf; intro _ _ _; (refine And.intro (fun _ _ _ _ _ N8 => ?_) (fun _ _ _ _ _ _ _ _ _ _ _ _ _ N8 => ?_)) <;> ((try dsimp only at N8); tb_start)))
  k_with "ENTER ne" => ((unfold Stop; refine' Call.cps (enter_c (sg := .ne) ?p1 ?p2 ?p3 ?p4 ?ti ?si ?dl ?d0 ?d1 ?dr ?hr ?dt ?hx ?l0 ?l1 ?tv ?no) (t_alt t_z t_7_6) ?b9 ?f9 ?x9 ?t9 ?k9 ?d9 ?u9 ?n9 ?_; ktr_rel; ktr_unf; intro _ _ _; (refine And.intro (fun _ _ _ _ _ N8 => ?_) (fun _ _ _ _ _ _ _ _ _ _ _ _ _ N8 => ?_)) <;> ((try dsimp only at N8); tb_start)))
  trivial
local macro_rules | `(tactic| ktr_unf) => `(tactic| k_extra "ktr_unf")
theorem between_c0 {w : World} {K : Sk} {si sd dl fl tl ml nd ln a0 a1 ca : Addr} {no : Obj} {sp : Int} {st tx : Tok} {fa : Bool} {n1 n2 nn : Nat} {tv nv : List Value} {tr : List Ent} {d0 d1 : Dom} {x : Int} {ns : List Int} {others r0 rest : Led} {g : Led → Led}
  (TI : TailIs others r0 rest g) (hsi : (si, instObj 265 sd) ∈ rest) (D0 : DatIn rest (.ref a0) (domD d0)) (D1 : DatIn rest (.ref a1) (domD d1))
  (Dt : DatAll rest tv (tr.map entD)) (hx : x = 0 ∨ x = 1) (hl0 : d0.length ≤ 900) (hl1 : d1.length ≤ 900) (htv : tr.length ≤ 900) (hno : NewsO w no) (hln : (ln, listOf nv.toArray nn) ∈ rest) (hi : IntsAre nv ns) (hns : ns.length ≤ 1000)
  (o1 : OffL others sd) (o2 : OffL others dl) (o3 : OffL others tl) (o4 : OffL others nd)
  (h12 : Apart sd dl) (h13 : Apart sd tl) (h14 : Apart sd nd) (h23 : Apart dl tl) (h24 : Apart dl nd) (h34 : Apart tl nd) :
  Call w 7 28 [.ref si, .int x tx, .ref ln] ((sd, sdO w K dl fl tl ml nd sp st fa ca) :: (dl, listOf [Value.ref a0, .ref a1].toArray n1) :: (tl, listOf tv.toArray n2) :: (nd, no) :: others) (fun r nw =>
    ∃ fa' ca' a0' a1' tv' n1' n2' no' rest', r = .bool (betwF x sp ns (sel x d0 d1) tr).ok ∧ nw = (sd, sdO w K dl fl tl ml nd sp st fa' ca') :: (dl, listOf [Value.ref a0', .ref a1'].toArray n1') :: (tl, listOf tv'.toArray n2') :: (nd, no') :: g rest' ∧
      Grow ((sd, sdO w K dl fl tl ml nd sp st fa ca) :: (dl, listOf [Value.ref a0, .ref a1].toArray n1) :: (tl, listOf tv.toArray n2) :: (nd, no) :: others) r0 rest rest' ∧ NewsO w no' ∧
      DatIn rest' (.ref a0') (domD (sel x (betwF x sp ns (sel x d0 d1) tr).dx d0)) ∧ DatIn rest' (.ref a1') (domD (sel x d1 (betwF x sp ns (sel x d0 d1) tr).dx)) ∧ DatAll rest' tv' ((betwF x sp ns (sel x d0 d1) tr).tr.map entD) ∧
      ((betwF x sp ns (sel x d0 d1) tr).ok = true → fa' = fa ∧ ca' = ca) ∧ ((betwF x sp ns (sel x d0 d1) tr).ok = false → fa' = true ∧ DatIn rest' (.ref ca') (.tuple (betwF x sp ns (sel x d0 d1) tr).cl))) := by
  intro p loose mean mg mb dp un gd cn cs a ccd cl outer A₀ base h₀ L m s Q E B F X T hk hd hu N hret
  revert X; k_fill; intro X
  have R0 : Run ((sd, sdO w K dl fl tl ml nd sp st fa ca) :: (dl, listOf [Value.ref a0, .ref a1].toArray n1) :: (tl, listOf tv.toArray n2) :: (nd, no) :: others) rest rest := Run.refl
  have q1 : OffL rest sd := fun p hp => o1 p (TI.sub p hp)
  have q2 : OffL rest dl := fun p hp => o2 p (TI.sub p hp)
  have q3 : OffL rest tl := fun p hp => o3 p (TI.sub p hp)
  have q4 : OffL rest nd := fun p hp => o4 p (TI.sub p hp)
  w_strict (
    refine wpAny_call ?_
    k_dflt k_enter
    k_steps
    rotate_left
    walk_at "ENTER ge"
    all_goals k_steps
    rotate_left
    walk_at "ENTER le"
    all_goals k_steps
    all_goals ((rename Run _ _ _ => R9; rename Fr _ _ _ _ => F9; rename News _ _ _ _ => N9))
    · have hz : ns ≠ [] := by rintro rfl; simp_all
      (rename struckF .ge _ _ ≠ [] => z1; rename struckF .le _ _ = [] => z2)
      rw [selsel hx, sel_app (struckF .ge (minI ns))] at z2
      rw [betw2 hz z1 z2] at hret
      refine' hret _ _ _ _ F9 (TailIs.news ?t9 N9) ?p9
      case t9 => tb_rel
      case p9 =>
        refine in_9_9 _ _ _ _ _ _ _ _ _ rfl rfl (Run.grow TI.base (Run.ext R9 (fun p hp => ?q8) ?r9)) ?q0 ?q1 ?q2 ?q3 ?q4 ?q5
        case r9 => kcf_all
        case q8 => repeat (first | exact hp | refine List.mem_cons_of_mem _ ?_)
        case q0 => assumption
        case q1 => (show DatIn _ _ (domD (sel x _ d0))); rw [(bw_1 hx).1]; kqd_in
        case q2 => (show DatIn _ _ (domD (sel x d1 _))); rw [(bw_1 hx).2]; kqd_in
        case q3 => kqd_all
        case q4 => first | exact fun q => Bool.noConfusion q | exact fun _ => ⟨rfl, rfl⟩
        case q5 => first | exact fun q => Bool.noConfusion q | exact fun _ => ⟨rfl, by kqd_in⟩
    · have hz : ns ≠ [] := by rintro rfl; simp_all
      (rename struckF .ge _ _ ≠ [] => z1; rename struckF .le _ _ ≠ [] => z2)
      rw [selsel hx, sel_app (struckF .ge (minI ns))] at z2
      rw [betw3 hz z1 z2] at hret
      refine' hret _ _ _ _ F9 (TailIs.news ?t9 N9) ?p9
      case t9 => tb_rel
      case p9 =>
        refine in_9_9 _ _ _ _ _ _ _ _ _ rfl rfl (Run.grow TI.base (Run.ext R9 (fun p hp => ?q8) ?r9)) ?q0 ?q1 ?q2 ?q3 ?q4 ?q5
        case r9 => kcf_all
        case q8 => repeat (first | exact hp | refine List.mem_cons_of_mem _ ?_)
        case q0 => assumption
        case q1 => (show DatIn _ _ (domD (sel x _ d0))); rw [(bw_2 hx).1]; kqd_in
        case q2 => (show DatIn _ _ (domD (sel x d1 _))); rw [(bw_2 hx).2]; kqd_in
        case q3 => (show DatAll _ _ ((tr1 _ _ _ _ _ _).map entD)); rw [bw_t hx]; kqd_all
        case q4 => first | exact fun q => Bool.noConfusion q | exact fun _ => ⟨rfl, rfl⟩
        case q5 => first | exact fun q => Bool.noConfusion q | exact fun _ => ⟨rfl, by kqd_in⟩
    · have hz : ns = [] := by refine List.length_eq_zero_iff.mp ?_; omega
      rw [betw0 hz] at hret
      refine' hret _ _ _ _ F9 (TailIs.news ?t9 N9) ?p9
      case t9 => tb_rel
      case p9 =>
        refine in_9_9 _ _ _ _ _ _ _ _ _ rfl rfl (Run.grow TI.base (Run.ext R9 (fun p hp => ?q8) ?r9)) ?q0 ?q1 ?q2 ?q3 ?q4 ?q5
        case r9 => kcf_all
        case q8 => repeat (first | exact hp | refine List.mem_cons_of_mem _ ?_)
        case q0 => assumption
        case q1 => (show DatIn _ _ (domD (sel x _ d0))); rw [(bw_0 hx).1]; kqd_in
        case q2 => (show DatIn _ _ (domD (sel x d1 _))); rw [(bw_0 hx).2]; kqd_in
        case q3 => kqd_all
        case q4 => first | exact fun q => Bool.noConfusion q | exact fun _ => ⟨rfl, rfl⟩
        case q5 => first | exact fun q => Bool.noConfusion q | exact fun _ => ⟨rfl, by kqd_in⟩
    · have hz : ns ≠ [] := by rintro rfl; simp_all
      (rename struckF .ge _ _ = [] => z1)
      rw [betw1 hz z1] at hret
      refine' hret _ _ _ _ F9 (TailIs.news ?t9 N9) ?p9
      case t9 => tb_rel
      case p9 =>
        refine in_9_9 _ _ _ _ _ _ _ _ _ rfl rfl (Run.grow TI.base (Run.ext R9 (fun p hp => ?q8) ?r9)) ?q0 ?q1 ?q2 ?q3 ?q4 ?q5
        case r9 => kcf_all
        case q8 => repeat (first | exact hp | refine List.mem_cons_of_mem _ ?_)
        case q0 => assumption
        case q1 => (show DatIn _ _ (domD (sel x _ d0))); rw [(bw_0 hx).1]; kqd_in
        case q2 => (show DatIn _ _ (domD (sel x d1 _))); rw [(bw_0 hx).2]; kqd_in
        case q3 => kqd_all
        case q4 => first | exact fun q => Bool.noConfusion q | exact fun _ => ⟨rfl, rfl⟩
        case q5 => first | exact fun q => Bool.noConfusion q | exact fun _ => ⟨rfl, by kqd_in⟩)
theorem rows_C9_0 : True := by
  k_with_none
  w_top off
  trivial
def putV (d : Dom) (v : Int) : Dom := match d.reverse with
  | [] => [(v, v)]
  | (a, b) :: r => if v ≤ b + 1 then r.reverse ++ [(a, v)] else d ++ [(v, v)]
theorem putV_nil (v : Int) : putV [] v = [(v, v)] := rfl
theorem putV_snoc (i : Dom) (a b v : Int) : putV (i ++ [(a, b)]) v = if v ≤ b + 1 then i ++ [(a, v)] else (i ++ [(a, b)]) ++ [(v, v)] := by
  unfold putV; simp
theorem datAll_snoc {r : Led} {vs : List Value} {ds : List Dat} {d : Dat} (h : DatAll r vs (ds ++ [d])) : ∃ ws v, vs = ws ++ [v] ∧ DatAll r ws ds ∧ DatIn r v d := by
  induction ds generalizing vs with
  | nil => cases h with
    | cons h1 h2 => cases h2; exact ⟨[], _, rfl, .nil, h1⟩
  | cons e ds ih => cases h with
    | cons h1 h2 => obtain ⟨ws, v, rfl, a, b⟩ := ih h2; exact ⟨_ :: ws, v, rfl, .cons h1 a, b⟩
theorem datAll_push {r : Led} {vs : List Value} {ds : List Dat} {v : Value} {d : Dat} (h : DatAll r vs ds) (h2 : DatIn r v d) : DatAll r (vs ++ [v]) (ds ++ [d]) := by
  induction ds generalizing vs with
  | nil => cases h; exact .cons h2 .nil
  | cons e ds ih => cases h with
    | cons h1 h3 => exact .cons h1 (ih h3)
theorem list_snoc {α : Type} (l : List α) : l = [] ∨ ∃ i a, l = i ++ [a] := by
  cases h : l.reverse with
  | nil => left; simpa using h
  | cons a r => right; exact ⟨r.reverse, a, by have := congrArg List.reverse h; simpa using this⟩
theorem rows_C9_1 : True := by
  k_with "LT9" => (first | (with_reducible assumption) | (refine' ltM ?lt1 ?lt2; (case lt1 => (with_reducible assumption)); (case lt2 => (repeat (first | exact List.Mem.head _ | refine List.Mem.tail _ ?_)); done)) | (refine' ltT ?lt0 ?lt1 ?lt2; (case lt0 => (with_reducible assumption)); (case lt1 => (with_reducible assumption)); (case lt2 => (repeat (first | exact List.Mem.head _ | refine List.Mem.tail _ ?_)); done)) | fail "LT9")
  k_with "k_ne" => (first | (with_reducible assumption) | (refine' Ne.symm ?ne1; (case ne1 => (with_reducible assumption))) | (refine neG ?_; walk_at "LT9") | (refine neL ?_; walk_at "LT9") | (refine neS ?_; walk_at "LT9") | (refine neT ?_; walk_at "LT9") | (refine neS2 ?_; walk_at "LT9") | (refine neT2 ?_; walk_at "LT9") | (refine neS3 ?_; walk_at "LT9") | (refine neT3 ?_; walk_at "LT9") | (refine' neM (l := _ :: _) ?lt1 ?lt2; (case lt1 => (with_reducible assumption)); (case lt2 => (repeat (first | exact List.Mem.head _ | refine List.Mem.tail _ ?_)); done)) | (refine' neN (l := _ :: _) ?lt1 ?lt2; (case lt1 => (with_reducible assumption)); (case lt2 => (repeat (first | exact List.Mem.head _ | refine List.Mem.tail _ ?_)); done)) | exact nc12 | exact nc21 | exact nc13 | exact nc31 | exact nc23 | exact nc32 | fail "k_ne")
  k_with "ktr_room" => (first | (rename (_ + _ < recursionLimit) => zzh9; first | exact rmU 0 zzh9 rfl rfl | exact rmU 1 zzh9 rfl rfl | exact rmU 2 zzh9 rfl rfl | exact rmU 3 zzh9 rfl rfl | exact rmU 4 zzh9 rfl rfl | exact rmU 5 zzh9 rfl rfl | exact rmU 6 zzh9 rfl rfl | exact rmU 7 zzh9 rfl rfl | exact rmU 8 zzh9 rfl rfl | exact rmU 9 zzh9 rfl rfl) | exact ltB rfl)
  k_with "ktr_units" => (first | (rename (_ + _ + _ < cLine) => zzh9; first | exact umU 0 zzh9 rfl rfl | exact umU 3 zzh9 rfl rfl | exact umU 6 zzh9 rfl rfl | exact umU 9 zzh9 rfl rfl | exact umU 12 zzh9 rfl rfl | exact umU 1 zzh9 rfl rfl | exact umU 4 zzh9 rfl rfl | exact umU 7 zzh9 rfl rfl | exact umU 10 zzh9 rfl rfl | exact umU 2 zzh9 rfl rfl | exact umU 5 zzh9 rfl rfl | exact umU 8 zzh9 rfl rfl | exact umU 11 zzh9 rfl rfl | exact umU 13 zzh9 rfl rfl | exact umU 14 zzh9 rfl rfl | exact umU 15 zzh9 rfl rfl | exact umV 0 zzh9 rfl rfl | exact umV 3 zzh9 rfl rfl | exact umV 6 zzh9 rfl rfl | exact umV 9 zzh9 rfl rfl | exact umV 12 zzh9 rfl rfl | exact umV 1 zzh9 rfl rfl | exact umV 4 zzh9 rfl rfl | exact umV 7 zzh9 rfl rfl | exact umV 10 zzh9 rfl rfl | exact umV 2 zzh9 rfl rfl | exact umV 5 zzh9 rfl rfl | exact umV 8 zzh9 rfl rfl | exact umV 11 zzh9 rfl rfl | exact umV 13 zzh9 rfl rfl | exact umV 14 zzh9 rfl rfl | exact umV 15 zzh9 rfl rfl) | exact ltB rfl)
  k_with "OM" => (first | (with_reducible assumption) | exact Nat.zero_le _ | (refine' leB ?om1 ?om2; (case om1 => (with_reducible assumption)); (case om2 => (fail_if_success (fail_if_success decide)); exact rfl)) | (refine' leS ?om1 ?om2; (case om1 => (with_reducible assumption)); (case om2 => (fail_if_success (fail_if_success decide)); exact rfl)) | (with_reducible refine' ltL ?om1 ?om2; (case om1 => (with_reducible assumption)); (case om2 => (fail_if_success (fail_if_success decide)); exact rfl)) | ((fail_if_success (fail_if_success decide)); exact ltB rfl) | (refine' i0_1 ?om1; (case om1 => (with_reducible assumption))) | (refine' i0_2 ?om1; (case om1 => (with_reducible assumption))) | (refine' i0_3 ?om1; (case om1 => (with_reducible assumption))) | (refine' il_0 ?om1 ?om2; (case om1 => (with_reducible assumption)); (case om2 => decide)) | (refine' il_1 ?om1 ?om2; (case om1 => (with_reducible assumption)); (case om2 => decide)) | (refine' il_2 ?om1 ?om2; (case om1 => (with_reducible assumption)); (case om2 => decide)) | (refine' il_3 ?om1 ?om2; (case om1 => (with_reducible assumption)); (case om2 => decide)) | exact ia_3 | exact ia_5 | exact ic_0 | decide | omega)
  k_with "k_all" => (first
  | (with_reducible assumption)
  | (refine' OffL.out ?ko1; (case ko1 => (with_reducible assumption)))
  | (refine' offA ?ko1; (case ko1 => (with_reducible assumption)))
  | (refine' TailIs.offAtL ?ko1 ?ko2 ?ko3; (case ko1 => (with_reducible assumption)); (case ko2 => (with_reducible assumption)); (case ko3 => (with_reducible assumption)))
  | (refine' offC ?ka1 ?ka2; (case ka1 => first | (refine' Apart.l ?kp1; (case kp1 => (with_reducible assumption))) | (refine' Apart.r ?kp1; (case kp1 => (with_reducible assumption))) | k_ne); (case ka2 => k_all))
  | assumption)
  k_with "k_upd" => (first | (refine' Upd.head ?ku1; (case ku1 => k_all)) | (refine' Upd.tail ?ku1 ?ku2; (case ku1 => first | (refine' Apart.l ?kp1; (case kp1 => (with_reducible assumption))) | (refine' Apart.r ?kp1; (case kp1 => (with_reducible assumption))) | k_ne); (case ku2 => k_upd)) | fail "k_upd")
  k_with "k_updF" => (first | (refine' Pull.head ?kf1; (case kf1 => k_all)) | (refine' Pull.tail ?_ ?kf2; (case kf2 => k_updF); (first | (refine' Apart.l ?kp1; (case kp1 => (with_reducible assumption))) | (refine' Apart.r ?kp1; (case kp1 => (with_reducible assumption))) | k_ne)) | (refine' UpdF.head ?kf1; (case kf1 => k_all)) | (refine' UpdF.tail ?_ ?kf2; (case kf2 => k_updF); (first | (refine' Apart.l ?kp1; (case kp1 => (with_reducible assumption))) | (refine' Apart.r ?kp1; (case kp1 => (with_reducible assumption))) | k_ne)) | fail "k_updF")
  k_with "k_mem" => (first | (refine mem_of ?_; (with_reducible assumption)) | (refine mem_of ?_; refine' TailIs.sub ?km1 _ ?km2; (case km1 => first | (refine' TailIs.rebase ?tr1; (case tr1 => (with_reducible assumption))) | (refine' TailIs.at ?tr1 _; (case tr1 => (with_reducible assumption)))); (case km2 => (with_reducible assumption))) | fail "k_mem")
  k_with "call builtin:len" => ((k_here; (with_reducible show wpAny _ _ (call (Value.builtin "len") [Value.ref _]) _ _ _); k_dflt (refine' len_ints_fit (News.isList ?n ?m) ?i ?f ?_; (case n => k_asm); (case m => k_mem); (case i => (with_reducible assumption)); (case f => k_extra "OM"); k_whole)))
  k_with "subscriptTail Name Name ref int" => ((k_here; (with_reducible show wpAny _ _ (subscriptTail _ _ (Value.ref _) (Value.int _ _)) _ _ _); (with_unfolding_all refine' item_list_ints (News.isList ?n ?m) ?k2 ?k3 ?k4 ?k5 ?_; (case n => k_asm); (case m => k_mem); (case k2 => (with_reducible assumption)); (case k3 => k_extra "OM"); (case k4 => k_extra "OM"); (case k5 => k_extra "OM"); k_whole); intro _))
  k_with "k_enter" => (first
  | (refine' code_def ?k1 ?k2 ?k3 ?k4 ?k5 ?kA ?kF ?kK ?k6 ?k7 ?k8 ?k9 ?kB ?_ ?c2 ?c3 ?c4 ?c5; (case kA => exact rfl); (case kF => exact rfl); (case kK => first | exact rfl | (with_reducible assumption)); (case k1 => k_asm); (case k2 => k_asm); (case k3 => k_asm); (case k4 => k_asm); (case k5 => k_asm); (case k6 => k_is); (case k7 => k_is); (case k8 => ktr_room); (case k9 => first | exact BindsTo.of_eq rfl | exact binds_K (by k_in) rfl (by k_is) rfl rfl rfl | fail "k_enter: no rule for these arguments"); (case c5 => decide); (case kB => exact locs rfl); (case c2 => exact rfl); (case c3 => exact rfl); (case c4 => exact rfl); k_whole; intro _ _ _ _ _ zzN' _ _ _; (try dsimp only); (try k_fold))
  | (refine' code_defC ?k1 ?k2 ?k3 ?k4 ?k5 ?kA ?kF ?kK ?k6 ?k7 ?k8 ?k9 ?kB ?kD ?_ ?c2 ?c3 ?c4; (case kA => exact rfl); (case kF => exact rfl); (case kK => first | exact rfl | (with_reducible assumption)); (case k1 => k_asm); (case k2 => k_asm); (case k3 => k_asm); (case k4 => k_asm); (case k5 => k_asm); (case k6 => k_is); (case k7 => k_is); (case k8 => ktr_room); (case k9 => first | exact BindsTo.of_eq rfl | exact binds_K (by k_in) rfl (by k_is) rfl rfl rfl | fail "k_enter: no rule for these arguments"); (case kB => exact rfl); (case kD => decide +kernel); (case c2 => exact rfl); (case c3 => exact rfl); (case c4 => exact rfl); k_whole; intro _ _ _ _ _ _ _ zzN' zzY' _ _ _ zzl1; revert zzl1; intro _; (have _ := Mk9.mk); k_cells zzY'; (try (simp only [List.cons_append, List.nil_append] at zzN'; revert zzN'; intro _)); (try dsimp only); (try k_fold)))
  k_with "call type:tuple" => ((k_here; (with_reducible show wpAny _ _ (call (Value.type _) [Value.ref _]) _ _ _); k_dflt (refine' kde_tupleOf ?k1 ?k2 (News.isList ?k3 ?k6) ?k4 ?k5 ?_; (case k1 => k_asm); (case k2 => k_asm); (case k3 => k_asm); (case k6 => k_mem); (case k4 => (simp only [List.size_toArray]; k_extra "OM")); (case k5 => exact rfl); k_whole); intro _ _ _ _ zzl1; revert zzl1; intro _; (have _ := Mk9.mk); (try k_sweep)))
  k_with "tb_rel" => (first | (refine' TailIs.rebase ?tr1; (case tr1 => (with_reducible assumption))) | (refine' TailIs.at ?tr1 _; (case tr1 => (with_reducible assumption))) | (refine' TailIs.moveT ?tb1; (case tb1 => tb_rel)) | (refine' TailIs.cons ?tb1; (case tb1 => tb_rel)) | exact TailIs.nil)
  trivial
-- every old address stands in the ledger
theorem rows_C9_2 : True := by
  k_with "kcf_m" => (first
  | (refine' covC ?kc1 ?kc2; (case kc1 => k_mem); (case kc2 => kcf_m))
  | exact List.forall_mem_nil _
  | (intro zzq9 zzhq9; refine ⟨Prod.snd zzq9, ?_⟩; repeat (first | exact zzhq9 | (refine' TailIs.coverAt ?tc1 (Run.sub ?tc2) zzq9 zzhq9; (case tc1 => (with_reducible assumption)); (case tc2 => (with_reducible assumption))) | refine List.mem_cons_of_mem _ ?_)))
  trivial
-- what is made here is none of the old
theorem rows_C9_3 : True := by
  k_with "kcf_all" => ((intro zzq9 zzhq9 zzho9; repeat (first | exact zzho9 | refine List.forall_mem_cons.mpr ⟨tmp_ne (by (with_reducible assumption)) (by kcf_m) zzq9 zzhq9, ?_⟩)))
  k_with "tb_start" => ((
  (rename Grow _ _ _ _ => zzG9)
  (have zzgB9 := Grow.base zzG9)
  (repeat (rename Run _ _ (Grow.R zzG9) => zzR9; have _ := Run.step zzR9 zzG9 (by kcf_m) (by kcf_all); clear zzR9))
  (repeat (rename DatIn (Grow.R zzG9) _ _ => zzhX9; have _ := DatIn.mono zzgB9 zzhX9; clear zzhX9))
  (repeat (rename DatAll (Grow.R zzG9) _ _ => zzhX9; have _ := DatAll.mono zzgB9 zzhX9; clear zzhX9))
  (repeat (rename IntsAt (Grow.R zzG9) _ _ => zzhX9; have _ := IntsAt.mono zzhX9 zzgB9; clear zzhX9))
  (repeat (rename (_ ∈ Grow.R zzG9) => zzhX9; have _ := zzgB9 _ zzhX9; clear zzhX9))
  (repeat (rename OffL (Grow.R zzG9) _ => zzhX9; have _ := Grow.offL zzG9 zzhX9 ⟨_, by k_mem⟩ (by k_all); clear zzhX9))
  (have zzhS9 := Grow.sub zzG9; (first | refine fd_6 zzhS9 ?_ | refine fd_5 zzhS9 ?_ | refine fd_4 zzhS9 ?_ | refine fd_3 zzhS9 ?_ | refine fd_2 zzhS9 ?_ | refine fd_1 zzhS9 ?_ | refine fd_0 zzhS9 ?_); clear zzhS9)
  clear zzgB9 zzG9
  intros))
  k_with "kqd_in" => (first | (refine' DatIn.mono ?kd1 ?kd2; (case kd2 => first | (with_reducible assumption) | assumption); (case kd1 => (intro _ zzhp9; repeat (first | exact zzhp9 | (refine' TailIs.sub ?kd3 _ zzhp9; (case kd3 => first | (refine' TailIs.rebase ?tr1; (case tr1 => (with_reducible assumption))) | (refine' TailIs.at ?tr1 _; (case tr1 => (with_reducible assumption))))) | refine List.mem_cons_of_mem _ ?_)))) | fail "kqd_in")
  k_with "kqd_all" => (first | (refine' DatAll.mono ?kd1 ?kd2; (case kd2 => first | (with_reducible assumption) | assumption); (case kd1 => (intro _ zzhp9; repeat (first | exact zzhp9 | (refine' TailIs.sub ?kd3 _ zzhp9; (case kd3 => first | (refine' TailIs.rebase ?tr1; (case tr1 => (with_reducible assumption))) | (refine' TailIs.at ?tr1 _; (case tr1 => (with_reducible assumption))))) | refine List.mem_cons_of_mem _ ?_)))) | fail "kqd_all")
  k_with "compareOp Eq ref ref" => ((k_here; (with_reducible show wpAny _ _ (compareOp CmpOp.Eq (Value.ref _) (Value.ref _)) _ _ _); k_dflt (refine' dat_eq ?n9 ?da (fun _ h => h) ?db (fun _ h => h) ?oa ?ob ?u9 ?_; (case n9 => k_asm); (case da => kqd_in); (case db => kqd_in); (case oa => first | exact domD_ok _ | rfl | (with_reducible assumption)); (case ob => first | exact domD_ok _ | rfl | (with_reducible assumption)); (case u9 => ktr_units); intro _ _)))
  k_with "compareOp NotEq ref ref" => ((k_here; (with_reducible show wpAny _ _ (compareOp CmpOp.NotEq (Value.ref _) (Value.ref _)) _ _ _); k_dflt (refine' dat_ne ?n9 ?da (fun _ h => h) ?db (fun _ h => h) ?oa ?ob ?u9 ?_; (case n9 => k_asm); (case da => kqd_in); (case db => kqd_in); (case oa => first | exact domD_ok _ | rfl | (with_reducible assumption)); (case ob => first | exact domD_ok _ | rfl | (with_reducible assumption)); (case u9 => ktr_units); intro _ _)))
  k_with "call builtin:list.append" => ((k_here; (with_reducible show wpAny _ _ (call (Value.builtin _) [Value.ref _, _]) _ _ _); k_dflt (refine' append_L ?k1 ?k2 ?k3 ?z ?_; (case k1 => k_asm); (case k2 => k_asm); (case k3 => k_upd); (case z => first | k_extra "OM" | ((simp only [List.length_cons, List.length_nil, List.length_append]); k_extra "OM")); k_whole); intro _ _ _; (try k_sweep)))
  k_with "call builtin:min" => ((k_here; (with_reducible show wpAny _ _ (call (Value.builtin _) [Value.ref _]) _ _ _); k_dflt ((refine' min_L ?f9 ?n9 ?m9 ?i9 ?z9 ?h9 ?_; (case f9 => k_asm); (case n9 => k_asm); (case m9 => k_mem); (case i9 => (with_reducible assumption)); (case z9 => first | k_extra "OM" | (simp_all; k_extra "OM")); (case h9 => with_unfolding_all rfl)); intro _ _ _ _ _)))
  k_with "call builtin:max" => ((k_here; (with_reducible show wpAny _ _ (call (Value.builtin _) [Value.ref _]) _ _ _); k_dflt ((refine' max_L ?f9 ?n9 ?m9 ?i9 ?z9 ?h9 ?_; (case f9 => k_asm); (case n9 => k_asm); (case m9 => k_mem); (case i9 => (with_reducible assumption)); (case z9 => first | k_extra "OM" | (simp_all; k_extra "OM")); (case h9 => with_unfolding_all rfl)); intro _ _ _ _ _)))
  k_with "ktr_rel" => (((case n9 => k_asm); (case b9 => k_asm); (case f9 => k_asm); (case x9 => k_asm); (case t9 => k_asm); (case k9 => first | exact rfl | (with_reducible assumption)); (case d9 => ktr_room); (case u9 => ktr_units)))
  k_with "call builtin:len" => ((k_here; (with_reducible show wpAny _ _ (call (Value.builtin "len") [Value.ref _]) _ _ _); k_dflt (refine' len_L ?n9 ?m9 ?z9 ?_; (case n9 => k_asm); (case m9 => k_mem); (case z9 => (first | k_extra "OM" | ((simp only [List.length_append, List.length_cons, List.length_nil]); k_extra "OM"))); k_whole)))
  k_with "subscriptTail Name UnaryOp ref int" => ((k_here; (with_reducible show wpAny _ _ (subscriptTail _ _ (Value.ref _) (Value.int _ _)) _ _ _); k_dflt (refine' last_get ?n9 ?m9 ?_ ?s9; (case n9 => k_asm); (case m9 => k_mem); (case s9 => with_unfolding_all rfl); k_whole)))
  k_with "setItem ref int ref" => ((k_here; (with_reducible show wpAny _ _ (setItem (Value.ref _) (Value.int (-1) _) (Value.ref _)) _ _ _); k_dflt (refine' last_set ?f9 ?n9 ?u9 ?_; (case f9 => k_asm); (case n9 => k_asm); (case u9 => k_upd); k_whole; intro _ _ _)))
  trivial
theorem put_c0 {w : World} {fd : Addr} {n : Nat} {fv : List Value} {d : Dom} {v : Int} {t1 t2 : Tok} {others r0 rest : Led} {g : Led → Led}
  (TI : TailIs others r0 rest g) (D : DatAll rest fv (d.map ivD)) (hl : fv.length ≤ 1000) (hv : ∀ a b, d.getLast? = some (a, b) → b < v) (o1 : OffL others fd) :
  Call w 2 35 [.ref fd, .int v t1, .int v t2] ((fd, listOf fv.toArray n) :: others) (fun r nw => ∃ fv' n' rest', r = .none ∧ nw = (fd, listOf fv'.toArray n') :: g rest' ∧ Grow ((fd, listOf fv.toArray n) :: others) r0 rest rest' ∧ DatAll rest' fv' ((putV d v).map ivD)) := by
  intro p loose mean mg mb dp un gd cn cs a ccd cl outer A₀ base h₀ L m s Q E B F X T hk hd hu N hret
  revert X; k_fill; intro X
  have R0 : Run ((fd, listOf fv.toArray n) :: others) rest rest := Run.refl
  have q1 : OffL rest fd := fun p hp => o1 p (TI.sub p hp)
  rcases list_snoc d with rfl | ⟨i, ⟨lo, hi⟩, rfl⟩
  · cases D
    w_strict (
      refine wpAny_call ?_
      k_dflt k_enter
      k_steps
      (rename Run _ _ _ => R9; rename Fr _ _ _ _ => F9; rename News _ _ _ _ => N9)
      refine' hret _ _ _ _ F9 (TailIs.news ?t9 N9) ?p9
      case t9 => tb_rel
      case p9 =>
        refine ⟨_, _, _, rfl, rfl, Run.grow TI.base (Run.ext R9 (fun p hp => ?q8) ?r9), ?q0⟩
        case r9 => kcf_all
        case q8 => repeat (first | exact hp | refine List.mem_cons_of_mem _ ?_)
        case q0 => kqd_all)
  · rw [List.map_append] at D
    obtain ⟨ws, lv, rfl, Dw, Dl⟩ := datAll_snoc D
    obtain ⟨la, ln, u1, u2, rfl, hla⟩ := datIn_iv Dl
    have hlt := hv lo hi (by simp)
    w_strict (
      refine wpAny_call ?_
      k_dflt k_enter
      k_steps
      all_goals ((rename Run _ _ _ => R9; rename Fr _ _ _ _ => F9; rename News _ _ _ _ => N9); clear D)
      · rw [putV_snoc, if_pos (by assumption), List.map_append] at hret
        refine' hret _ _ _ _ F9 (TailIs.news ?t9 N9) ?p9
        case t9 => tb_rel
        case p9 =>
          refine ⟨_, _, _, rfl, rfl, Run.grow TI.base (Run.ext R9 (fun p hp => ?q8) ?r9), ?q0⟩
          case r9 => kcf_all
          case q8 => repeat (first | exact hp | refine List.mem_cons_of_mem _ ?_)
          case q0 => refine datAll_push (by kqd_all) (by kqd_in)
      · rw [putV_snoc, if_neg (by assumption), List.map_append, List.map_append] at hret
        refine' hret _ _ _ _ F9 (TailIs.news ?t9 N9) ?p9
        case t9 => tb_rel
        case p9 =>
          refine ⟨_, _, _, rfl, rfl, Run.grow TI.base (Run.ext R9 (fun p hp => ?q8) ?r9), ?q0⟩
          case r9 => kcf_all
          case q8 => repeat (first | exact hp | refine List.mem_cons_of_mem _ ?_)
          case q0 => refine datAll_push (datAll_push (by kqd_all) (by kqd_in)) (by kqd_in)
      · simp at *)
theorem rows_C10_0 : True := by
  k_with_none
  w_top off
  trivial
def ivs (ns : List Int) : Dom := ns.foldl putV []
theorem ivs_snoc (ns : List Int) (v : Int) : ivs (ns ++ [v]) = putV (ivs ns) v := by simp [ivs, List.foldl_append]
theorem putV_last (d : Dom) (v : Int) : ∃ a, (putV d v).getLast? = some (a, v) := by
  rcases list_snoc d with rfl | ⟨i, ⟨a, b⟩, rfl⟩
  · exact ⟨v, rfl⟩
  · rw [putV_snoc]; split
    · exact ⟨a, by simp⟩
    · exact ⟨v, by simp⟩
theorem ivs_last (ns : List Int) (v a b : Int) (h : (ivs (ns ++ [v])).getLast? = some (a, b)) : b = v := by
  rw [ivs_snoc] at h
  obtain ⟨a', e⟩ := putV_last (ivs ns) v
  rw [e] at h; simp only [Option.some.injEq, Prod.mk.injEq] at h; exact h.2.symm
theorem putV_len (d : Dom) (v : Int) : (putV d v).length ≤ d.length + 1 := by
  rcases list_snoc d with rfl | ⟨i, ⟨a, b⟩, rfl⟩
  · exact Nat.le_refl _
  · rw [putV_snoc]; split <;> simp
theorem ivs_len (ns : List Int) : (ivs ns).length ≤ ns.length := by
  rcases List.eq_nil_or_concat ns with rfl | ⟨i, a, rfl⟩
  · exact Nat.le_refl _
  · rw [List.concat_eq_append, ivs_snoc]
    have := putV_len (ivs i) a
    have := ivs_len i
    simp only [List.length_append, List.length_singleton]; omega
termination_by ns.length
theorem perm_asc {a b : List Int} (h : a.Perm b) (ha : a.Pairwise (· ≤ ·)) (hb : b.Pairwise (· < ·)) : a = b :=
  h.eq_of_pairwise (le := (· ≤ ·)) (fun _ _ _ _ h1 h2 => Int.le_antisymm h1 h2) ha (hb.imp Int.le_of_lt)
theorem TailIs.pre {ex l r0 r : Led} {g : Led → Led} (h : TailIs l r0 r g) : TailIs (ex ++ l) r0 r (fun x => ex ++ g x) := by
  induction ex with
  | nil => exact h
  | cons p ex ih => exact .cons ih
section
variable {prog : Program} {w : World} {A : Around} {E : Value → Shared → Prop} {s : Shared} {env : Env} {h₀ : Heap} {x : Str} {body : List Stmt} {Q : Flow → Shared → Prop}
theorem loop_L {l : Addr} {vs : List Value} {nn : Nat} {m₀ : Str → Option Value} {news : Led} (J : Nat → Led → Prop)
    (hh : A.handled = none) (hl : (l, listOf vs.toArray nn) ∈ news) (F : Fr h₀ env.locals s.heap m₀) (N : News h₀ env.locals s.heap news) (hj : J 0 news)
    (turn : ∀ i v nx h tk own, vs[i]? = some v → OwnOff own (nx.map (·.1)) → (l, listOf vs.toArray nn) ∈ nx → J i nx → Fr h₀ env.locals h (fun y => if y = x then some v else m₀ y) → News h₀ env.locals h (nx ++ own) →
      wpAny (model prog w) A (execs body env) (InvPostG h₀ env.locals (fun m' nx => (l, listOf vs.toArray nn) ∈ nx ∧ (∀ y, y ≠ x → m' y = m₀ y) ∧ J (i + 1) nx) own { s with heap := h, toks := tk } Q) E { s with heap := h, toks := tk })
    (done : ∀ u nx h tk, J vs.length nx → Fr h₀ env.locals h (fun y => if y = x then u else m₀ y) → News h₀ env.locals h nx → Q .next { s with heap := h, toks := tk }) :
    wpAny (model prog w) A (pyIter (.ref l)) (fun it s₂ => LoopAtV prog w A h₀ env x body Q E it s₂) E s := by
  refine kdl_iter (fun i m nx => (∀ y, y ≠ x → m y = m₀ y) ∧ J i nx) hh hl F N ⟨fun _ _ => rfl, hj⟩ ?_ ?_
  · intro i v m₁ nx h tk own hv ho hl' hJ F₁ N₁
    have e : (fun y => if y = x then some v else m₁ y) = fun y => if y = x then some v else m₀ y := by
      funext y
      by_cases hy : y = x
      · rw [if_pos hy, if_pos hy]
      · rw [if_neg hy, if_neg hy]; exact hJ.1 y hy
    rw [e] at F₁
    exact turn i v nx h tk own hv ho hl' hJ.2 F₁ N₁
  · intro m₁ nx h tk hJ F₁ N₁
    have e : m₁ = fun y => if y = x then m₁ x else m₀ y := by
      funext y
      by_cases hy : y = x
      · rw [if_pos hy, hy]
      · rw [if_neg hy]; exact hJ.1 y hy
    rw [e] at F₁
    exact done _ nx h tk hJ.2 F₁ N₁
end
theorem ints_at {vs : List Value} {ns : List Int} (h : IntsAre vs ns) {i : Nat} {v : Value} (hv : vs[i]? = some v) : ∃ k t, v = .int k t ∧ ns.take (i + 1) = ns.take i ++ [k] ∧ ns = ns.take i ++ k :: ns.drop (i + 1) ∧ i < ns.length := by
  have lt : i < ns.length := h.length ▸ (List.getElem?_eq_some_iff.mp hv).1
  obtain ⟨t, ht⟩ := h.get i _ (List.getElem?_eq_getElem lt)
  refine ⟨ns[i], t, Option.some.inj (hv.symm.trans ht), List.take_append_getElem lt |>.symm, ?_, lt⟩
  rw [← List.drop_eq_getElem_cons lt, List.take_append_drop]
theorem asc_last {ns : List Int} {i : Nat} {k a b : Int} (hs : ns.Pairwise (· < ·)) (e : ns = ns.take i ++ k :: ns.drop (i + 1)) (hl : (ivs (ns.take i)).getLast? = some (a, b)) : b < k := by
  rcases List.eq_nil_or_concat (ns.take i) with h | ⟨p, c, h⟩
  · rw [h] at hl; exact absurd hl (by simp [ivs])
  · rw [List.concat_eq_append] at h
    rw [h] at hl
    have := ivs_last _ _ _ _ hl
    subst this
    rw [e, h] at hs
    exact (List.pairwise_append.mp hs).2.2 b (by simp) k (by simp)
theorem off_of {own : Led} {l : List Addr} {d : Addr} (h : OwnOff own l) (hd : d ∈ l) : OffL own d := fun p hp => h p hp d hd
theorem offL_app {a b : Led} {d : Addr} (h1 : OffL a d) (h2 : OffL b d) : OffL (a ++ b) d := fun p hp => (List.mem_append.mp hp).elim (h1 p) (h2 p)
theorem News.swap {h₀ h : Heap} {L : Addr} {a b : Addr × Obj} {l : Led} (N : News h₀ L h (a :: b :: l)) : News h₀ L h (b :: a :: l) := fun p hp => N p (by
  rcases List.mem_cons.mp hp with e | hp
  · exact .tail _ (e ▸ .head _)
  · rcases List.mem_cons.mp hp with e | hp
    · exact e ▸ .head _
    · exact .tail _ (.tail _ hp))
theorem own_grow {own l r0 r r' r'' : Led} {g : Led → Led} {a b : Addr} {x y x' y' : Obj} (TI : TailIs l r0 r g) (ho : OwnOff own (((a, x) :: (b, y) :: g r').map (·.1))) (R : Run own r' r'') : OwnOff own (((a, x') :: (b, y') :: g r'').map (·.1)) := by
  obtain ⟨ex, e, _⟩ := TI.split
  rw [e] at ho ⊢
  intro q hq d hd
  simp only [List.map_cons, List.map_append, List.mem_cons, List.mem_append] at hd
  have h2 := ho q hq
  simp only [List.map_cons, List.map_append, List.mem_cons, List.mem_append] at h2
  rcases hd with h | h | h | h
  · exact h2 _ (.inl h)
  · exact h2 _ (.inr (.inl h))
  · exact h2 _ (.inr (.inr (.inl h)))
  · obtain ⟨p, hp, rfl⟩ := List.mem_map.mp h
    exact Ne.symm (R.off q hq (fun p' hp' => Ne.symm (h2 _ (.inr (.inr (.inr (List.mem_map.mpr ⟨p', hp', rfl⟩)))))) p hp)
theorem news_drop2 {h₀ h : Heap} {L : Addr} {a b c : Addr × Obj} {l : Led} (N : News h₀ L h (a :: b :: c :: l)) : News h₀ L h (a :: l) := fun p hp => N p (by
  rcases List.mem_cons.mp hp with e | hp
  · exact e ▸ .head _
  · exact .tail _ (.tail _ (.tail _ hp)))
theorem rows_C10_1 : True := by
  k_with "LT9" => (first | (with_reducible assumption) | (refine' ltM ?lt1 ?lt2; (case lt1 => (with_reducible assumption)); (case lt2 => (repeat (first | exact List.Mem.head _ | refine List.Mem.tail _ ?_)); done)) | (refine' ltT ?lt0 ?lt1 ?lt2; (case lt0 => (with_reducible assumption)); (case lt1 => (with_reducible assumption)); (case lt2 => (repeat (first | exact List.Mem.head _ | refine List.Mem.tail _ ?_)); done)) | fail "LT9")
  k_with "k_ne" => (first | (with_reducible assumption) | (refine' Ne.symm ?ne1; (case ne1 => (with_reducible assumption))) | (refine neG ?_; walk_at "LT9") | (refine neL ?_; walk_at "LT9") | (refine neS ?_; walk_at "LT9") | (refine neT ?_; walk_at "LT9") | (refine neS2 ?_; walk_at "LT9") | (refine neT2 ?_; walk_at "LT9") | (refine neS3 ?_; walk_at "LT9") | (refine neT3 ?_; walk_at "LT9") | (refine' neM (l := _ :: _) ?lt1 ?lt2; (case lt1 => (with_reducible assumption)); (case lt2 => (repeat (first | exact List.Mem.head _ | refine List.Mem.tail _ ?_)); done)) | (refine' neN (l := _ :: _) ?lt1 ?lt2; (case lt1 => (with_reducible assumption)); (case lt2 => (repeat (first | exact List.Mem.head _ | refine List.Mem.tail _ ?_)); done)) | exact nc12 | exact nc21 | exact nc13 | exact nc31 | exact nc23 | exact nc32 | fail "k_ne")
  k_with "ktr_room" => (first | (rename (_ + _ < recursionLimit) => zzh9; first | exact rmU 0 zzh9 rfl rfl | exact rmU 1 zzh9 rfl rfl | exact rmU 2 zzh9 rfl rfl | exact rmU 3 zzh9 rfl rfl | exact rmU 4 zzh9 rfl rfl | exact rmU 5 zzh9 rfl rfl | exact rmU 6 zzh9 rfl rfl | exact rmU 7 zzh9 rfl rfl | exact rmU 8 zzh9 rfl rfl | exact rmU 9 zzh9 rfl rfl) | exact ltB rfl)
  k_with "ktr_units" => (first | (rename (_ + _ + _ < cLine) => zzh9; first | exact umU 0 zzh9 rfl rfl | exact umU 3 zzh9 rfl rfl | exact umU 6 zzh9 rfl rfl | exact umU 9 zzh9 rfl rfl | exact umU 12 zzh9 rfl rfl | exact umU 1 zzh9 rfl rfl | exact umU 4 zzh9 rfl rfl | exact umU 7 zzh9 rfl rfl | exact umU 10 zzh9 rfl rfl | exact umU 2 zzh9 rfl rfl | exact umU 5 zzh9 rfl rfl | exact umU 8 zzh9 rfl rfl | exact umU 11 zzh9 rfl rfl | exact umU 13 zzh9 rfl rfl | exact umU 14 zzh9 rfl rfl | exact umU 15 zzh9 rfl rfl | exact umV 0 zzh9 rfl rfl | exact umV 3 zzh9 rfl rfl | exact umV 6 zzh9 rfl rfl | exact umV 9 zzh9 rfl rfl | exact umV 12 zzh9 rfl rfl | exact umV 1 zzh9 rfl rfl | exact umV 4 zzh9 rfl rfl | exact umV 7 zzh9 rfl rfl | exact umV 10 zzh9 rfl rfl | exact umV 2 zzh9 rfl rfl | exact umV 5 zzh9 rfl rfl | exact umV 8 zzh9 rfl rfl | exact umV 11 zzh9 rfl rfl | exact umV 13 zzh9 rfl rfl | exact umV 14 zzh9 rfl rfl | exact umV 15 zzh9 rfl rfl) | exact ltB rfl)
  k_with "OM" => (first | (with_reducible assumption) | exact Nat.zero_le _ | (refine' leB ?om1 ?om2; (case om1 => (with_reducible assumption)); (case om2 => (fail_if_success (fail_if_success decide)); exact rfl)) | (refine' leS ?om1 ?om2; (case om1 => (with_reducible assumption)); (case om2 => (fail_if_success (fail_if_success decide)); exact rfl)) | (with_reducible refine' ltL ?om1 ?om2; (case om1 => (with_reducible assumption)); (case om2 => (fail_if_success (fail_if_success decide)); exact rfl)) | ((fail_if_success (fail_if_success decide)); exact ltB rfl) | (refine' i0_1 ?om1; (case om1 => (with_reducible assumption))) | (refine' i0_2 ?om1; (case om1 => (with_reducible assumption))) | (refine' i0_3 ?om1; (case om1 => (with_reducible assumption))) | (refine' il_0 ?om1 ?om2; (case om1 => (with_reducible assumption)); (case om2 => decide)) | (refine' il_1 ?om1 ?om2; (case om1 => (with_reducible assumption)); (case om2 => decide)) | (refine' il_2 ?om1 ?om2; (case om1 => (with_reducible assumption)); (case om2 => decide)) | (refine' il_3 ?om1 ?om2; (case om1 => (with_reducible assumption)); (case om2 => decide)) | exact ia_3 | exact ia_5 | exact ic_0 | decide | omega)
  k_with "k_all" => (first
  | (with_reducible assumption)
  | (refine' OffL.out ?ko1; (case ko1 => (with_reducible assumption)))
  | (refine' offA ?ko1; (case ko1 => (with_reducible assumption)))
  | (refine' TailIs.offAtL ?ko1 ?ko2 ?ko3; (case ko1 => (with_reducible assumption)); (case ko2 => (with_reducible assumption)); (case ko3 => (with_reducible assumption)))
  | (refine' offC ?ka1 ?ka2; (case ka1 => first | (refine' Apart.l ?kp1; (case kp1 => (with_reducible assumption))) | (refine' Apart.r ?kp1; (case kp1 => (with_reducible assumption))) | k_ne); (case ka2 => k_all))
  | assumption)
  k_with "k_upd" => (first | (refine' Upd.head ?ku1; (case ku1 => k_all)) | (refine' Upd.tail ?ku1 ?ku2; (case ku1 => first | (refine' Apart.l ?kp1; (case kp1 => (with_reducible assumption))) | (refine' Apart.r ?kp1; (case kp1 => (with_reducible assumption))) | k_ne); (case ku2 => k_upd)) | fail "k_upd")
  k_with "k_updF" => (first | (refine' Pull.head ?kf1; (case kf1 => k_all)) | (refine' Pull.tail ?_ ?kf2; (case kf2 => k_updF); (first | (refine' Apart.l ?kp1; (case kp1 => (with_reducible assumption))) | (refine' Apart.r ?kp1; (case kp1 => (with_reducible assumption))) | k_ne)) | (refine' UpdF.head ?kf1; (case kf1 => k_all)) | (refine' UpdF.tail ?_ ?kf2; (case kf2 => k_updF); (first | (refine' Apart.l ?kp1; (case kp1 => (with_reducible assumption))) | (refine' Apart.r ?kp1; (case kp1 => (with_reducible assumption))) | k_ne)) | fail "k_updF")
  k_with "k_mem" => (first | (refine mem_of ?_; (with_reducible assumption)) | (refine mem_of ?_; refine' TailIs.sub ?km1 _ ?km2; (case km1 => first | (refine' TailIs.rebase ?tr1; (case tr1 => (with_reducible assumption))) | (refine' TailIs.at ?tr1 _; (case tr1 => (with_reducible assumption)))); (case km2 => (with_reducible assumption))) | fail "k_mem")
  k_with "call builtin:len" => ((k_here; (with_reducible show wpAny _ _ (call (Value.builtin "len") [Value.ref _]) _ _ _); k_dflt (refine' len_ints_fit (News.isList ?n ?m) ?i ?f ?_; (case n => k_asm); (case m => k_mem); (case i => (with_reducible assumption)); (case f => k_extra "OM"); k_whole)))
  k_with "subscriptTail Name Name ref int" => ((k_here; (with_reducible show wpAny _ _ (subscriptTail _ _ (Value.ref _) (Value.int _ _)) _ _ _); (with_unfolding_all refine' item_list_ints (News.isList ?n ?m) ?k2 ?k3 ?k4 ?k5 ?_; (case n => k_asm); (case m => k_mem); (case k2 => (with_reducible assumption)); (case k3 => k_extra "OM"); (case k4 => k_extra "OM"); (case k5 => k_extra "OM"); k_whole); intro _))
  k_with "k_enter" => (first
  | (refine' code_def ?k1 ?k2 ?k3 ?k4 ?k5 ?kA ?kF ?kK ?k6 ?k7 ?k8 ?k9 ?kB ?_ ?c2 ?c3 ?c4 ?c5; (case kA => exact rfl); (case kF => exact rfl); (case kK => first | exact rfl | (with_reducible assumption)); (case k1 => k_asm); (case k2 => k_asm); (case k3 => k_asm); (case k4 => k_asm); (case k5 => k_asm); (case k6 => k_is); (case k7 => k_is); (case k8 => ktr_room); (case k9 => first | exact BindsTo.of_eq rfl | exact binds_K (by k_in) rfl (by k_is) rfl rfl rfl | fail "k_enter: no rule for these arguments"); (case c5 => decide); (case kB => exact locs rfl); (case c2 => exact rfl); (case c3 => exact rfl); (case c4 => exact rfl); k_whole; intro _ _ _ _ _ zzN' _ _ _; (try dsimp only); (try k_fold))
  | (refine' code_defC ?k1 ?k2 ?k3 ?k4 ?k5 ?kA ?kF ?kK ?k6 ?k7 ?k8 ?k9 ?kB ?kD ?_ ?c2 ?c3 ?c4; (case kA => exact rfl); (case kF => exact rfl); (case kK => first | exact rfl | (with_reducible assumption)); (case k1 => k_asm); (case k2 => k_asm); (case k3 => k_asm); (case k4 => k_asm); (case k5 => k_asm); (case k6 => k_is); (case k7 => k_is); (case k8 => ktr_room); (case k9 => first | exact BindsTo.of_eq rfl | exact binds_K (by k_in) rfl (by k_is) rfl rfl rfl | fail "k_enter: no rule for these arguments"); (case kB => exact rfl); (case kD => decide +kernel); (case c2 => exact rfl); (case c3 => exact rfl); (case c4 => exact rfl); k_whole; intro _ _ _ _ _ _ _ zzN' zzY' _ _ _ zzl1; revert zzl1; intro _; (have _ := Mk9.mk); k_cells zzY'; (try (simp only [List.cons_append, List.nil_append] at zzN'; revert zzN'; intro _)); (try dsimp only); (try k_fold)))
  k_with "call type:tuple" => ((k_here; (with_reducible show wpAny _ _ (call (Value.type _) [Value.ref _]) _ _ _); k_dflt (refine' kde_tupleOf ?k1 ?k2 (News.isList ?k3 ?k6) ?k4 ?k5 ?_; (case k1 => k_asm); (case k2 => k_asm); (case k3 => k_asm); (case k6 => k_mem); (case k4 => (simp only [List.size_toArray]; k_extra "OM")); (case k5 => exact rfl); k_whole); intro _ _ _ _ zzl1; revert zzl1; intro _; (have _ := Mk9.mk); (try k_sweep)))
  k_with "tb_rel" => (first | (refine' TailIs.rebase ?tr1; (case tr1 => (with_reducible assumption))) | (refine' TailIs.at ?tr1 _; (case tr1 => (with_reducible assumption))) | (refine' TailIs.moveT ?tb1; (case tb1 => tb_rel)) | (refine' TailIs.cons ?tb1; (case tb1 => tb_rel)) | exact TailIs.nil)
  trivial
-- every old address stands in the ledger
theorem rows_C10_2 : True := by
  k_with "kcf_m" => (first
  | (refine' covC ?kc1 ?kc2; (case kc1 => k_mem); (case kc2 => kcf_m))
  | exact List.forall_mem_nil _
  | (intro zzq9 zzhq9; refine ⟨Prod.snd zzq9, ?_⟩; repeat (first | exact zzhq9 | (refine' TailIs.coverAt ?tc1 (Run.sub ?tc2) zzq9 zzhq9; (case tc1 => (with_reducible assumption)); (case tc2 => (with_reducible assumption))) | refine List.mem_cons_of_mem _ ?_)))
  trivial
-- what is made here is none of the old
theorem rows_C10_3 : True := by
  k_with "kcf_all" => ((intro zzq9 zzhq9 zzho9; repeat (first | exact zzho9 | refine List.forall_mem_cons.mpr ⟨tmp_ne (by (with_reducible assumption)) (by kcf_m) zzq9 zzhq9, ?_⟩)))
  k_with "tb_start" => ((
  (rename Grow _ _ _ _ => zzG9)
  (have zzgB9 := Grow.base zzG9)
  (repeat (rename Run _ _ (Grow.R zzG9) => zzR9; have _ := Run.step zzR9 zzG9 (by kcf_m) (by kcf_all); clear zzR9))
  (repeat (rename DatIn (Grow.R zzG9) _ _ => zzhX9; have _ := DatIn.mono zzgB9 zzhX9; clear zzhX9))
  (repeat (rename DatAll (Grow.R zzG9) _ _ => zzhX9; have _ := DatAll.mono zzgB9 zzhX9; clear zzhX9))
  (repeat (rename IntsAt (Grow.R zzG9) _ _ => zzhX9; have _ := IntsAt.mono zzhX9 zzgB9; clear zzhX9))
  (repeat (rename (_ ∈ Grow.R zzG9) => zzhX9; have _ := zzgB9 _ zzhX9; clear zzhX9))
  (repeat (rename OffL (Grow.R zzG9) _ => zzhX9; have _ := Grow.offL zzG9 zzhX9 ⟨_, by k_mem⟩ (by k_all); clear zzhX9))
  (have zzhS9 := Grow.sub zzG9; (first | refine fd_6 zzhS9 ?_ | refine fd_5 zzhS9 ?_ | refine fd_4 zzhS9 ?_ | refine fd_3 zzhS9 ?_ | refine fd_2 zzhS9 ?_ | refine fd_1 zzhS9 ?_ | refine fd_0 zzhS9 ?_); clear zzhS9)
  clear zzgB9 zzG9
  intros))
  k_with "kqd_in" => (first | (refine' DatIn.mono ?kd1 ?kd2; (case kd2 => first | (with_reducible assumption) | assumption); (case kd1 => (intro _ zzhp9; repeat (first | exact zzhp9 | (refine' TailIs.sub ?kd3 _ zzhp9; (case kd3 => first | (refine' TailIs.rebase ?tr1; (case tr1 => (with_reducible assumption))) | (refine' TailIs.at ?tr1 _; (case tr1 => (with_reducible assumption))))) | refine List.mem_cons_of_mem _ ?_)))) | fail "kqd_in")
  k_with "kqd_all" => (first | (refine' DatAll.mono ?kd1 ?kd2; (case kd2 => first | (with_reducible assumption) | assumption); (case kd1 => (intro _ zzhp9; repeat (first | exact zzhp9 | (refine' TailIs.sub ?kd3 _ zzhp9; (case kd3 => first | (refine' TailIs.rebase ?tr1; (case tr1 => (with_reducible assumption))) | (refine' TailIs.at ?tr1 _; (case tr1 => (with_reducible assumption))))) | refine List.mem_cons_of_mem _ ?_)))) | fail "kqd_all")
  k_with "compareOp Eq ref ref" => ((k_here; (with_reducible show wpAny _ _ (compareOp CmpOp.Eq (Value.ref _) (Value.ref _)) _ _ _); k_dflt (refine' dat_eq ?n9 ?da (fun _ h => h) ?db (fun _ h => h) ?oa ?ob ?u9 ?_; (case n9 => k_asm); (case da => kqd_in); (case db => kqd_in); (case oa => first | exact domD_ok _ | rfl | (with_reducible assumption)); (case ob => first | exact domD_ok _ | rfl | (with_reducible assumption)); (case u9 => ktr_units); intro _ _)))
  k_with "compareOp NotEq ref ref" => ((k_here; (with_reducible show wpAny _ _ (compareOp CmpOp.NotEq (Value.ref _) (Value.ref _)) _ _ _); k_dflt (refine' dat_ne ?n9 ?da (fun _ h => h) ?db (fun _ h => h) ?oa ?ob ?u9 ?_; (case n9 => k_asm); (case da => kqd_in); (case db => kqd_in); (case oa => first | exact domD_ok _ | rfl | (with_reducible assumption)); (case ob => first | exact domD_ok _ | rfl | (with_reducible assumption)); (case u9 => ktr_units); intro _ _)))
  k_with "call builtin:list.append" => ((k_here; (with_reducible show wpAny _ _ (call (Value.builtin _) [Value.ref _, _]) _ _ _); k_dflt (refine' append_L ?k1 ?k2 ?k3 ?z ?_; (case k1 => k_asm); (case k2 => k_asm); (case k3 => k_upd); (case z => first | k_extra "OM" | ((simp only [List.length_cons, List.length_nil, List.length_append]); k_extra "OM")); k_whole); intro _ _ _; (try k_sweep)))
  k_with "call builtin:min" => ((k_here; (with_reducible show wpAny _ _ (call (Value.builtin _) [Value.ref _]) _ _ _); k_dflt ((refine' min_L ?f9 ?n9 ?m9 ?i9 ?z9 ?h9 ?_; (case f9 => k_asm); (case n9 => k_asm); (case m9 => k_mem); (case i9 => (with_reducible assumption)); (case z9 => first | k_extra "OM" | (simp_all; k_extra "OM")); (case h9 => with_unfolding_all rfl)); intro _ _ _ _ _)))
  k_with "call builtin:max" => ((k_here; (with_reducible show wpAny _ _ (call (Value.builtin _) [Value.ref _]) _ _ _); k_dflt ((refine' max_L ?f9 ?n9 ?m9 ?i9 ?z9 ?h9 ?_; (case f9 => k_asm); (case n9 => k_asm); (case m9 => k_mem); (case i9 => (with_reducible assumption)); (case z9 => first | k_extra "OM" | (simp_all; k_extra "OM")); (case h9 => with_unfolding_all rfl)); intro _ _ _ _ _)))
  k_with "ktr_rel" => (((case n9 => k_asm); (case b9 => k_asm); (case f9 => k_asm); (case x9 => k_asm); (case t9 => k_asm); (case k9 => first | exact rfl | (with_reducible assumption)); (case d9 => ktr_room); (case u9 => ktr_units)))
  k_with "exec For" => ((k_here; (with_reducible show wpAny _ _ (exec (Stmt.For _ _ _ _ _) _) _ _ _); k_dflt ((rename Fr _ _ _ _ => lF'); refine' For_invVF lF' ?k1 ?k2 ?_; (case k1 => exact rfl); (case k2 => exact rfl))))
  k_with "pyIter ref" => ((k_here; (with_reducible show wpAny _ _ (pyIter (Value.ref _)) _ _ _); refine Stop.intro ?_))
  k_with "call builtin:sorted" => ((k_here; (with_reducible show wpAny _ _ (call (Value.builtin _) [Value.ref _]) _ _ _); k_dflt ((refine' kso_sorted ?f9 ?n9 (News.isList ?n ?m) ?i ?z ?_; (case f9 => k_asm); (case n9 => k_asm); (case n => k_asm); (case m => k_mem); (case i => (with_reducible assumption)); (case z => k_extra "OM")); intro _ _ _ _ _ _ _ zzl1 _ _ _ _ _; revert zzl1; intro _; (have _ := Mk9.mk); (try k_sweep))))
  trivial
local macro_rules | `(tactic| tb_rel) => `(tactic| (refine' TailIs.pre ?tl9; (case tl9 => tb_rel)))
theorem rows_C10_4 : True := by
  k_with "kcf_m" => ((intro zzq9 zzhq9; refine ⟨Prod.snd zzq9, ?_⟩; (repeat (first | exact zzhq9 | exact List.mem_append_left _ zzhq9 | (refine' TailIs.coverAt ?tc1 (Run.sub ?tc2) zzq9 zzhq9; (case tc1 => (with_reducible assumption)); (case tc2 => (with_reducible assumption))) | refine List.mem_cons_of_mem _ ?_ | refine List.mem_append_right _ ?_)); done))
  k_with "call ref" => ((k_here; (with_reducible show wpAny _ _ (call (Value.ref 35) _) _ _ _); k_dflt (first | ((refine' Call.cps (put_c0 ?ti ?da ?ln ?lt ?of) t_3_2 ?b9 ?f9 ?x9 ?t9 ?k9 ?d9 ?u9 ?n9 ?_; ktr_rel; (case ti => tb_rel); (case da => kqd_all); (case ln => k_extra "OM"); (case lt => (with_reducible assumption)); (case of => (with_reducible assumption))); intro _ _ _ _ _ _ _ _ zzN9; (try dsimp only at zzN9); tb_start) | refine Stop.intro ?_)))
  trivial
theorem fromValues_c {w : World} {la : Addr} {nv : List Value} {nn : Nat} {ns : List Int} {news r0 rest : Led} {g : Led → Led}
  (TI : TailIs news r0 rest g) (hln : (la, listOf nv.toArray nn) ∈ rest) (hi : IntsAre nv ns) (hns : ns.length < 64) (hs : ns.Pairwise (· < ·)) :
  Call w 4 42 [.ref la] news (fun r nw => ∃ ra rest', r = .ref ra ∧ nw = g rest' ∧ Grow news r0 rest rest' ∧ DatIn rest' (.ref ra) (domD (ivs ns))) := by
  intro p loose mean mg mb dp un gd cn cs a ccd cl outer A₀ base h₀ L m s Q E B F X T hk hd hu N hret
  revert X; k_fill; intro X
  have R0 : Run news rest rest := Run.refl
  w_strict (
    refine wpAny_call ?_
    k_dflt k_enter
    k_steps
    (rename IntsAre _ _ => I1; rename List.Perm _ _ => P1; rename (List.Pairwise _ _) => S1)
    rw [perm_asc P1 S1 hs] at I1
    (rename News _ _ _ _ => N1; rename Fr _ _ _ _ => F1)
    unfold Stop
    rename_i fd9 _ l1a _ _ Ds vs' ns' c' _ e9 _ l9 _
    have hlv : vs'.length = ns.length := I1.length
    have o1 : OffL news fd9 := fun p hp => Nat.ne_of_lt (l1a p hp)
    have o2 : Apart Ds fd9 := fun e => absurd (l9 _ (.head _)) (e ▸ Nat.lt_irrefl _)
    clear l9 l1a
    have N2 := TailIs.news (.cons (.cons TI)) (News.swap N1)
    refine' loop_L (fun i nx => ∃ fv n rest', nx = (fd9, listOf fv.toArray n) :: (Ds, listOf vs'.toArray c') :: g rest' ∧ Run news rest rest' ∧ OffL rest' fd9 ∧ DatAll rest' fv ((ivs (ns.take i)).map ivD)) rfl (.tail _ (.head _)) F1 N2 ?hj ?turn ?done
    case hj => exact ⟨[], 0, rest, rfl, R0, fun p hp => o1 p (TI.sub p hp), .nil⟩
    case turn =>
      rintro i v _ h tk' own hv ho _ ⟨fv, n, rest', rfl, R, hof, D⟩ F2 N2
      obtain ⟨k, t, rfl, et, en, hil⟩ := ints_at I1 hv
      rw [et, ivs_snoc]
      have hv' : ∀ a b, (ivs (ns.take i)).getLast? = some (a, b) → b < k := fun a b hl => asc_last hs en hl
      have hfv : fv.length ≤ 64 := by rw [D.length]; have := ivs_len (ns.take i); simp at *; k_extra "OM"
      have N3 : News _ _ _ ((fd9, listOf fv.toArray n) :: (own ++ ((Ds, listOf vs'.toArray c') :: g rest'))) := fun p hp => N2 p (by
        rcases List.mem_cons.mp hp with e | hp
        · exact e ▸ .head _
        · rcases List.mem_append.mp hp with hp | hp
          · exact List.mem_append_right _ hp
          · exact .tail _ (List.mem_append_left _ hp))
      have oo : OffL (own ++ ((Ds, listOf vs'.toArray c') :: g rest')) fd9 := offL_app (off_of ho (.head _)) (List.forall_mem_cons.mpr ⟨Apart.l o2, TailIs.offAt TI o1 hof⟩)
      clear N2 hv
      have RO : Run own rest' rest' := Run.refl
      k_steps
      (rename Run own _ _ => RO9; rename Run news _ _ => R9; rename Fr _ _ _ _ => F9; rename News _ _ _ _ => N9; rename DatAll _ _ (List.map ivD (putV _ _)) => D9; rename OffL _ fd9 => O9)
      rename_i _ _ fv8 n8 rest8 _
      refine InvEndG.intro F9 N9 (nx := (fd9, listOf fv8.toArray n8) :: (Ds, listOf vs'.toArray c') :: g rest8) ⟨.tail _ (.head _), fun y hy => if_neg hy, _, _, _, rfl, R9, O9, D9⟩ ?_ ?_ ?_
      · exact own_grow TI ho RO9
      · intro q hq
        rcases List.mem_cons.mp hq with e | hq
        · exact e ▸ .head _
        · exact .tail _ (List.mem_append_right _ hq)
      · exact fun q hq => .tail _ (List.mem_append_left _ hq)
    case done =>
      rintro u _ h tk' ⟨fv, n, rest', rfl, R, hof, D⟩ F2 N2
      rw [hlv, List.take_length] at D
      have hfv : fv.length < 64 := by rw [D.length]; have := ivs_len ns; simp; k_extra "OM"
      k_steps
      (rename Run _ _ _ => R9; rename Fr _ _ _ _ => F9; rename News _ _ _ _ => N9)
      replace N9 := news_drop2 N9
      refine' hret _ _ _ _ F9 (TailIs.news ?t9 N9) ?p9
      case t9 => tb_rel
      case p9 =>
        refine ⟨_, _, rfl, rfl, Run.grow TI.base (Run.ext R9 (fun p hp => ?q8) ?r9), ?q0⟩
        case r9 => kcf_all
        case q8 => repeat (first | exact hp | refine List.mem_cons_of_mem _ ?_)
        case q0 => refine DatIn.tuple (.head _) ?_; kqd_all)
theorem rows_C11_0 : True := by
  k_with_none
  w_top off
  trivial
/-- the domain of x with the entries taken back -/
def undo : List Ent → Int → Dom → Dom
  | [], _, d => d
  | e :: es, x, d => if e.x = x then e.old else undo es x d
theorem undo_at {tr : List Ent} {k : Nat} {e : Ent} (h : tr[k]? = some e) (x : Int) (d : Dom) : undo (tr.drop k) x d = if e.x = x then e.old else undo (tr.drop (k + 1)) x d := by
  obtain ⟨hl, he⟩ := List.getElem?_eq_some_iff.mp h
  rw [List.drop_eq_getElem_cons hl, he]; rfl
theorem datIn_ent {r : Led} {v : Value} {e : Ent} (h : DatIn r v (entD e)) : ∃ la n a b c t1 t2, v = .ref la ∧ (la, tupO [.int e.x t1, .ref a, b, c, .int e.sp t2] n) ∈ r ∧ DatIn r (.ref a) (domD e.old) ∧ DatIn r b e.lit ∧ DatIn r c e.rs := by
  cases h with
  | tuple hm hr =>
    cases hr with
    | cons h1 hr =>
      cases h1
      cases hr with
      | cons h2 hr =>
        cases hr with
        | cons h3 hr =>
          cases hr with
          | cons h4 hr =>
            cases hr with
            | cons h5 hr =>
              cases h5
              cases hr
              cases h2 with
              | tuple hm2 hr2 => exact ⟨_, _, _, _, _, _, _, rfl, hm, DatIn.tuple hm2 hr2, h3, h4⟩
theorem kl_last_snoc (p : List Value) (y : Value) : kl_last (p ++ [y]) = some (p, y) := by
  induction p with
  | nil => rfl
  | cons a p ih => rw [List.cons_append, kl_last, ih]
section
variable {prog : Program} {w : World} {A : Around} {E : Value → Shared → Prop} {s : Shared} {env : Env} {h₀ : Heap} {L D : Addr} {m : Str → Option Value} {news news' : Led}
theorem pop_L {p : List Value} {y : Value} {n : Nat} {Q : Value → Shared → Prop} (F : Fr h₀ L s.heap m) (N : News h₀ L s.heap news) (U : Upd D (listOf (p ++ [y]).toArray n) (listOf p.toArray (n + 1)) news news')
    (hz : p.length ≤ 16384) (h : ∀ h', Fr h₀ L h' m → News h₀ L h' news' → Q y { s with heap := h' }) : wpAny (model prog w) A (call (.builtin "list.pop") [.ref D]) Q E s :=
  kl_pop F N (by simpa using kl_last_snoc p y) U (by rw [sizeLine_eq]; simp; omega) h
open Classical in
theorem in_no {a : Addr} {xs : List Value} {ka : Nat} {ds : List Dat} {x : Value} {d : Dat} {Q : Value → Shared → Prop} (N : News h₀ L s.heap news) (ma : (a, listOf xs.toArray ka) ∈ news) (Da : DatAll news xs ds)
    (Dx : DatIn news x d) (ha : ∀ d ∈ ds, kqdOk 8 d = true) (hd : kqdOk 8 d = true) (hn : d ∉ ds) (hu : A.units + 64 < cLine) (h : Q (.bool false) s) : wpAny (model prog w) A (compareOp .In x (.ref a)) Q E s := by
  refine kqd_isIn N ma rfl rfl Da (fun _ h => h) Dx (fun _ h => h) ha hd hu ?_
  rw [decide_eq_false hn]; exact h
theorem While_L (x : Str) {test : PySem.Expr} {body : List Stmt} {pos : Pos} {m₀ : Str → Option Value} {Q : Flow → Shared → Prop} (J : Nat → Led → Prop) {n₀ : Nat} (F : Fr h₀ L s.heap m₀) (N : News h₀ L s.heap news) (hJ : J n₀ news)
    (turn : ∀ n u nx h tk, Fr h₀ L h (fun y => if y = x then u else m₀ y) → News h₀ L h nx → J n nx →
      wpAny (model prog w) A (isTrue test env (eval test env)) (fun b s₂ =>
        if b = true then wpAny (model prog w) A (execs body env) (WhileStep h₀ L s (fun k m nx => (∀ y, y ≠ x → m y = m₀ y) ∧ J k nx) n) E s₂ else Q .next s₂) E { s with heap := h, toks := tk })
    (hE : PassesOwn (model prog w) A env E := by passes_own) :
    wpAny (model prog w) A (exec (.While test body [] pos) env) Q E s := by
  refine While_inv (fun k m nx => (∀ y, y ≠ x → m y = m₀ y) ∧ J k nx) F N ⟨fun _ _ => rfl, hJ⟩ ?_ hE
  intro n m₁ nx h tk F₁ N₁ hJ₁
  have e : m₁ = fun y => if y = x then m₁ x else m₀ y := by
    funext y
    by_cases hy : y = x
    · rw [if_pos hy, hy]
    · rw [if_neg hy]; exact hJ₁.1 y hy
  rw [e] at F₁
  exact turn n _ nx h tk F₁ N₁ hJ₁.2
end
theorem take_snoc {α : Type} {l : List α} {k : Nat} (h : k < l.length) : ∃ v, l[k]? = some v ∧ l.take (k + 1) = l.take k ++ [v] :=
  ⟨l[k], List.getElem?_eq_getElem h, by rw [List.take_add_one, List.getElem?_eq_getElem h]; rfl⟩
theorem c11a {m n a : Nat} (e : a = m) (h : n ≤ m) : ((a : Int) - (n : Int)).toNat = m - n := by omega
theorem c11b {m k : Nat} (h : m < k) : ∃ k', k = k' + 1 := ⟨k - 1, by omega⟩
theorem c11c {α : Type} {l : List α} {k n : Nat} (e : l.length = n) (h : k ≤ n) : (l.take k).length = k := by rw [List.length_take]; omega
theorem c11d {α : Type} {l : List α} {k n : Nat} (e : l.length = n) (h : k + 1 ≤ n) : k < l.length := by omega
theorem dat_u0 {r : Led} {x : Int} {a b : Addr} {o u : Dom} (hx : x = 0 ∨ x = 1) (ha : DatIn r (.ref a) (domD o)) (hb : DatIn r (.ref b) (domD u)) : DatIn r (.ref (sel x a b)) (domD (if x = 0 then o else u)) := by
  rcases hx with rfl | rfl
  · exact ha
  · exact hb
theorem dat_u1 {r : Led} {x : Int} {a b : Addr} {o u : Dom} (hx : x = 0 ∨ x = 1) (ha : DatIn r (.ref a) (domD o)) (hb : DatIn r (.ref b) (domD u)) : DatIn r (.ref (sel x b a)) (domD (if x = 1 then o else u)) := by
  rcases hx with rfl | rfl
  · exact hb
  · exact ha
theorem rows_C11_1 : True := by
  k_with "LT9" => (first | (with_reducible assumption) | (refine' ltM ?lt1 ?lt2; (case lt1 => (with_reducible assumption)); (case lt2 => (repeat (first | exact List.Mem.head _ | refine List.Mem.tail _ ?_)); done)) | (refine' ltT ?lt0 ?lt1 ?lt2; (case lt0 => (with_reducible assumption)); (case lt1 => (with_reducible assumption)); (case lt2 => (repeat (first | exact List.Mem.head _ | refine List.Mem.tail _ ?_)); done)) | fail "LT9")
  k_with "k_ne" => (first | (with_reducible assumption) | (refine' Ne.symm ?ne1; (case ne1 => (with_reducible assumption))) | (refine neG ?_; walk_at "LT9") | (refine neL ?_; walk_at "LT9") | (refine neS ?_; walk_at "LT9") | (refine neT ?_; walk_at "LT9") | (refine neS2 ?_; walk_at "LT9") | (refine neT2 ?_; walk_at "LT9") | (refine neS3 ?_; walk_at "LT9") | (refine neT3 ?_; walk_at "LT9") | (refine' neM (l := _ :: _) ?lt1 ?lt2; (case lt1 => (with_reducible assumption)); (case lt2 => (repeat (first | exact List.Mem.head _ | refine List.Mem.tail _ ?_)); done)) | (refine' neN (l := _ :: _) ?lt1 ?lt2; (case lt1 => (with_reducible assumption)); (case lt2 => (repeat (first | exact List.Mem.head _ | refine List.Mem.tail _ ?_)); done)) | exact nc12 | exact nc21 | exact nc13 | exact nc31 | exact nc23 | exact nc32 | fail "k_ne")
  k_with "ktr_room" => (first | (rename (_ + _ < recursionLimit) => zzh9; first | exact rmU 0 zzh9 rfl rfl | exact rmU 1 zzh9 rfl rfl | exact rmU 2 zzh9 rfl rfl | exact rmU 3 zzh9 rfl rfl | exact rmU 4 zzh9 rfl rfl | exact rmU 5 zzh9 rfl rfl | exact rmU 6 zzh9 rfl rfl | exact rmU 7 zzh9 rfl rfl | exact rmU 8 zzh9 rfl rfl | exact rmU 9 zzh9 rfl rfl) | exact ltB rfl)
  k_with "ktr_units" => (first | (rename (_ + _ + _ < cLine) => zzh9; first | exact umU 0 zzh9 rfl rfl | exact umU 3 zzh9 rfl rfl | exact umU 6 zzh9 rfl rfl | exact umU 9 zzh9 rfl rfl | exact umU 12 zzh9 rfl rfl | exact umU 1 zzh9 rfl rfl | exact umU 4 zzh9 rfl rfl | exact umU 7 zzh9 rfl rfl | exact umU 10 zzh9 rfl rfl | exact umU 2 zzh9 rfl rfl | exact umU 5 zzh9 rfl rfl | exact umU 8 zzh9 rfl rfl | exact umU 11 zzh9 rfl rfl | exact umU 13 zzh9 rfl rfl | exact umU 14 zzh9 rfl rfl | exact umU 15 zzh9 rfl rfl | exact umV 0 zzh9 rfl rfl | exact umV 3 zzh9 rfl rfl | exact umV 6 zzh9 rfl rfl | exact umV 9 zzh9 rfl rfl | exact umV 12 zzh9 rfl rfl | exact umV 1 zzh9 rfl rfl | exact umV 4 zzh9 rfl rfl | exact umV 7 zzh9 rfl rfl | exact umV 10 zzh9 rfl rfl | exact umV 2 zzh9 rfl rfl | exact umV 5 zzh9 rfl rfl | exact umV 8 zzh9 rfl rfl | exact umV 11 zzh9 rfl rfl | exact umV 13 zzh9 rfl rfl | exact umV 14 zzh9 rfl rfl | exact umV 15 zzh9 rfl rfl) | exact ltB rfl)
  k_with "OM" => (first | (with_reducible assumption) | exact Nat.zero_le _ | (refine' leB ?om1 ?om2; (case om1 => (with_reducible assumption)); (case om2 => (fail_if_success (fail_if_success decide)); exact rfl)) | (refine' leS ?om1 ?om2; (case om1 => (with_reducible assumption)); (case om2 => (fail_if_success (fail_if_success decide)); exact rfl)) | (with_reducible refine' ltL ?om1 ?om2; (case om1 => (with_reducible assumption)); (case om2 => (fail_if_success (fail_if_success decide)); exact rfl)) | ((fail_if_success (fail_if_success decide)); exact ltB rfl) | (refine' i0_1 ?om1; (case om1 => (with_reducible assumption))) | (refine' i0_2 ?om1; (case om1 => (with_reducible assumption))) | (refine' i0_3 ?om1; (case om1 => (with_reducible assumption))) | (refine' il_0 ?om1 ?om2; (case om1 => (with_reducible assumption)); (case om2 => decide)) | (refine' il_1 ?om1 ?om2; (case om1 => (with_reducible assumption)); (case om2 => decide)) | (refine' il_2 ?om1 ?om2; (case om1 => (with_reducible assumption)); (case om2 => decide)) | (refine' il_3 ?om1 ?om2; (case om1 => (with_reducible assumption)); (case om2 => decide)) | exact ia_3 | exact ia_5 | exact ic_0 | decide | omega)
  k_with "k_all" => (first
  | (with_reducible assumption)
  | (refine' OffL.out ?ko1; (case ko1 => (with_reducible assumption)))
  | (refine' offA ?ko1; (case ko1 => (with_reducible assumption)))
  | (refine' TailIs.offAtL ?ko1 ?ko2 ?ko3; (case ko1 => (with_reducible assumption)); (case ko2 => (with_reducible assumption)); (case ko3 => (with_reducible assumption)))
  | (refine' offC ?ka1 ?ka2; (case ka1 => first | (refine' Apart.l ?kp1; (case kp1 => (with_reducible assumption))) | (refine' Apart.r ?kp1; (case kp1 => (with_reducible assumption))) | k_ne); (case ka2 => k_all))
  | assumption)
  k_with "k_upd" => (first | (refine' Upd.head ?ku1; (case ku1 => k_all)) | (refine' Upd.tail ?ku1 ?ku2; (case ku1 => first | (refine' Apart.l ?kp1; (case kp1 => (with_reducible assumption))) | (refine' Apart.r ?kp1; (case kp1 => (with_reducible assumption))) | k_ne); (case ku2 => k_upd)) | fail "k_upd")
  k_with "k_updF" => (first | (refine' Pull.head ?kf1; (case kf1 => k_all)) | (refine' Pull.tail ?_ ?kf2; (case kf2 => k_updF); (first | (refine' Apart.l ?kp1; (case kp1 => (with_reducible assumption))) | (refine' Apart.r ?kp1; (case kp1 => (with_reducible assumption))) | k_ne)) | (refine' UpdF.head ?kf1; (case kf1 => k_all)) | (refine' UpdF.tail ?_ ?kf2; (case kf2 => k_updF); (first | (refine' Apart.l ?kp1; (case kp1 => (with_reducible assumption))) | (refine' Apart.r ?kp1; (case kp1 => (with_reducible assumption))) | k_ne)) | fail "k_updF")
  k_with "k_mem" => (first | (refine mem_of ?_; (with_reducible assumption)) | (refine mem_of ?_; refine' TailIs.sub ?km1 _ ?km2; (case km1 => first | (refine' TailIs.rebase ?tr1; (case tr1 => (with_reducible assumption))) | (refine' TailIs.at ?tr1 _; (case tr1 => (with_reducible assumption)))); (case km2 => (with_reducible assumption))) | fail "k_mem")
  k_with "call builtin:len" => ((k_here; (with_reducible show wpAny _ _ (call (Value.builtin "len") [Value.ref _]) _ _ _); k_dflt (refine' len_ints_fit (News.isList ?n ?m) ?i ?f ?_; (case n => k_asm); (case m => k_mem); (case i => (with_reducible assumption)); (case f => k_extra "OM"); k_whole)))
  k_with "subscriptTail Name Name ref int" => ((k_here; (with_reducible show wpAny _ _ (subscriptTail _ _ (Value.ref _) (Value.int _ _)) _ _ _); (with_unfolding_all refine' item_list_ints (News.isList ?n ?m) ?k2 ?k3 ?k4 ?k5 ?_; (case n => k_asm); (case m => k_mem); (case k2 => (with_reducible assumption)); (case k3 => k_extra "OM"); (case k4 => k_extra "OM"); (case k5 => k_extra "OM"); k_whole); intro _))
  k_with "k_enter" => (first
  | (refine' code_def ?k1 ?k2 ?k3 ?k4 ?k5 ?kA ?kF ?kK ?k6 ?k7 ?k8 ?k9 ?kB ?_ ?c2 ?c3 ?c4 ?c5; (case kA => exact rfl); (case kF => exact rfl); (case kK => first | exact rfl | (with_reducible assumption)); (case k1 => k_asm); (case k2 => k_asm); (case k3 => k_asm); (case k4 => k_asm); (case k5 => k_asm); (case k6 => k_is); (case k7 => k_is); (case k8 => ktr_room); (case k9 => first | exact BindsTo.of_eq rfl | exact binds_K (by k_in) rfl (by k_is) rfl rfl rfl | fail "k_enter: no rule for these arguments"); (case c5 => decide); (case kB => exact locs rfl); (case c2 => exact rfl); (case c3 => exact rfl); (case c4 => exact rfl); k_whole; intro _ _ _ _ _ zzN' _ _ _; (try dsimp only); (try k_fold))
  | (refine' code_defC ?k1 ?k2 ?k3 ?k4 ?k5 ?kA ?kF ?kK ?k6 ?k7 ?k8 ?k9 ?kB ?kD ?_ ?c2 ?c3 ?c4; (case kA => exact rfl); (case kF => exact rfl); (case kK => first | exact rfl | (with_reducible assumption)); (case k1 => k_asm); (case k2 => k_asm); (case k3 => k_asm); (case k4 => k_asm); (case k5 => k_asm); (case k6 => k_is); (case k7 => k_is); (case k8 => ktr_room); (case k9 => first | exact BindsTo.of_eq rfl | exact binds_K (by k_in) rfl (by k_is) rfl rfl rfl | fail "k_enter: no rule for these arguments"); (case kB => exact rfl); (case kD => decide +kernel); (case c2 => exact rfl); (case c3 => exact rfl); (case c4 => exact rfl); k_whole; intro _ _ _ _ _ _ _ zzN' zzY' _ _ _ zzl1; revert zzl1; intro _; (have _ := Mk9.mk); k_cells zzY'; (try (simp only [List.cons_append, List.nil_append] at zzN'; revert zzN'; intro _)); (try dsimp only); (try k_fold)))
  k_with "call type:tuple" => ((k_here; (with_reducible show wpAny _ _ (call (Value.type _) [Value.ref _]) _ _ _); k_dflt (refine' kde_tupleOf ?k1 ?k2 (News.isList ?k3 ?k6) ?k4 ?k5 ?_; (case k1 => k_asm); (case k2 => k_asm); (case k3 => k_asm); (case k6 => k_mem); (case k4 => (simp only [List.size_toArray]; k_extra "OM")); (case k5 => exact rfl); k_whole); intro _ _ _ _ zzl1; revert zzl1; intro _; (have _ := Mk9.mk); (try k_sweep)))
  k_with "tb_rel" => (first | (refine' TailIs.rebase ?tr1; (case tr1 => (with_reducible assumption))) | (refine' TailIs.at ?tr1 _; (case tr1 => (with_reducible assumption))) | (refine' TailIs.moveT ?tb1; (case tb1 => tb_rel)) | (refine' TailIs.cons ?tb1; (case tb1 => tb_rel)) | exact TailIs.nil)
  trivial
-- every old address stands in the ledger
theorem rows_C11_2 : True := by
  k_with "kcf_m" => (first
  | (refine' covC ?kc1 ?kc2; (case kc1 => k_mem); (case kc2 => kcf_m))
  | exact List.forall_mem_nil _
  | (intro zzq9 zzhq9; refine ⟨Prod.snd zzq9, ?_⟩; repeat (first | exact zzhq9 | (refine' TailIs.coverAt ?tc1 (Run.sub ?tc2) zzq9 zzhq9; (case tc1 => (with_reducible assumption)); (case tc2 => (with_reducible assumption))) | refine List.mem_cons_of_mem _ ?_)))
  trivial
-- what is made here is none of the old
theorem rows_C11_3 : True := by
  k_with "kcf_all" => ((intro zzq9 zzhq9 zzho9; repeat (first | exact zzho9 | refine List.forall_mem_cons.mpr ⟨tmp_ne (by (with_reducible assumption)) (by kcf_m) zzq9 zzhq9, ?_⟩)))
  k_with "tb_start" => ((
  (rename Grow _ _ _ _ => zzG9)
  (have zzgB9 := Grow.base zzG9)
  (repeat (rename Run _ _ (Grow.R zzG9) => zzR9; have _ := Run.step zzR9 zzG9 (by kcf_m) (by kcf_all); clear zzR9))
  (repeat (rename DatIn (Grow.R zzG9) _ _ => zzhX9; have _ := DatIn.mono zzgB9 zzhX9; clear zzhX9))
  (repeat (rename DatAll (Grow.R zzG9) _ _ => zzhX9; have _ := DatAll.mono zzgB9 zzhX9; clear zzhX9))
  (repeat (rename IntsAt (Grow.R zzG9) _ _ => zzhX9; have _ := IntsAt.mono zzhX9 zzgB9; clear zzhX9))
  (repeat (rename (_ ∈ Grow.R zzG9) => zzhX9; have _ := zzgB9 _ zzhX9; clear zzhX9))
  (repeat (rename OffL (Grow.R zzG9) _ => zzhX9; have _ := Grow.offL zzG9 zzhX9 ⟨_, by k_mem⟩ (by k_all); clear zzhX9))
  (have zzhS9 := Grow.sub zzG9; (first | refine fd_6 zzhS9 ?_ | refine fd_5 zzhS9 ?_ | refine fd_4 zzhS9 ?_ | refine fd_3 zzhS9 ?_ | refine fd_2 zzhS9 ?_ | refine fd_1 zzhS9 ?_ | refine fd_0 zzhS9 ?_); clear zzhS9)
  clear zzgB9 zzG9
  intros))
  k_with "kqd_in" => (first | (refine' DatIn.mono ?kd1 ?kd2; (case kd2 => first | (with_reducible assumption) | assumption); (case kd1 => (intro _ zzhp9; repeat (first | exact zzhp9 | (refine' TailIs.sub ?kd3 _ zzhp9; (case kd3 => first | (refine' TailIs.rebase ?tr1; (case tr1 => (with_reducible assumption))) | (refine' TailIs.at ?tr1 _; (case tr1 => (with_reducible assumption))))) | refine List.mem_cons_of_mem _ ?_)))) | fail "kqd_in")
  k_with "kqd_all" => (first | (refine' DatAll.mono ?kd1 ?kd2; (case kd2 => first | (with_reducible assumption) | assumption); (case kd1 => (intro _ zzhp9; repeat (first | exact zzhp9 | (refine' TailIs.sub ?kd3 _ zzhp9; (case kd3 => first | (refine' TailIs.rebase ?tr1; (case tr1 => (with_reducible assumption))) | (refine' TailIs.at ?tr1 _; (case tr1 => (with_reducible assumption))))) | refine List.mem_cons_of_mem _ ?_)))) | fail "kqd_all")
  k_with "compareOp Eq ref ref" => ((k_here; (with_reducible show wpAny _ _ (compareOp CmpOp.Eq (Value.ref _) (Value.ref _)) _ _ _); k_dflt (refine' dat_eq ?n9 ?da (fun _ h => h) ?db (fun _ h => h) ?oa ?ob ?u9 ?_; (case n9 => k_asm); (case da => kqd_in); (case db => kqd_in); (case oa => first | exact domD_ok _ | rfl | (with_reducible assumption)); (case ob => first | exact domD_ok _ | rfl | (with_reducible assumption)); (case u9 => ktr_units); intro _ _)))
  k_with "compareOp NotEq ref ref" => ((k_here; (with_reducible show wpAny _ _ (compareOp CmpOp.NotEq (Value.ref _) (Value.ref _)) _ _ _); k_dflt (refine' dat_ne ?n9 ?da (fun _ h => h) ?db (fun _ h => h) ?oa ?ob ?u9 ?_; (case n9 => k_asm); (case da => kqd_in); (case db => kqd_in); (case oa => first | exact domD_ok _ | rfl | (with_reducible assumption)); (case ob => first | exact domD_ok _ | rfl | (with_reducible assumption)); (case u9 => ktr_units); intro _ _)))
  k_with "call builtin:list.append" => ((k_here; (with_reducible show wpAny _ _ (call (Value.builtin _) [Value.ref _, _]) _ _ _); k_dflt (refine' append_L ?k1 ?k2 ?k3 ?z ?_; (case k1 => k_asm); (case k2 => k_asm); (case k3 => k_upd); (case z => first | k_extra "OM" | ((simp only [List.length_cons, List.length_nil, List.length_append]); k_extra "OM")); k_whole); intro _ _ _; (try k_sweep)))
  k_with "call builtin:min" => ((k_here; (with_reducible show wpAny _ _ (call (Value.builtin _) [Value.ref _]) _ _ _); k_dflt ((refine' min_L ?f9 ?n9 ?m9 ?i9 ?z9 ?h9 ?_; (case f9 => k_asm); (case n9 => k_asm); (case m9 => k_mem); (case i9 => (with_reducible assumption)); (case z9 => first | k_extra "OM" | (simp_all; k_extra "OM")); (case h9 => with_unfolding_all rfl)); intro _ _ _ _ _)))
  k_with "call builtin:max" => ((k_here; (with_reducible show wpAny _ _ (call (Value.builtin _) [Value.ref _]) _ _ _); k_dflt ((refine' max_L ?f9 ?n9 ?m9 ?i9 ?z9 ?h9 ?_; (case f9 => k_asm); (case n9 => k_asm); (case m9 => k_mem); (case i9 => (with_reducible assumption)); (case z9 => first | k_extra "OM" | (simp_all; k_extra "OM")); (case h9 => with_unfolding_all rfl)); intro _ _ _ _ _)))
  k_with "ktr_rel" => (((case n9 => k_asm); (case b9 => k_asm); (case f9 => k_asm); (case x9 => k_asm); (case t9 => k_asm); (case k9 => first | exact rfl | (with_reducible assumption)); (case d9 => ktr_room); (case u9 => ktr_units)))
  trivial
theorem rows_C11_4 : True := by
  k_with "kcf_m" => ((intro zzq9 zzhq9; refine ⟨Prod.snd zzq9, ?_⟩; (repeat (first | exact zzhq9 | exact List.mem_append_left _ zzhq9 | (refine' TailIs.coverAt ?tc1 (Run.sub ?tc2) zzq9 zzhq9; (case tc1 => (with_reducible assumption)); (case tc2 => (with_reducible assumption))) | refine List.mem_cons_of_mem _ ?_ | refine List.mem_append_right _ ?_)); done))
  k_with "call builtin:len" => ((k_here; (with_reducible show wpAny _ _ (call (Value.builtin "len") [Value.ref _]) _ _ _); k_dflt (refine' len_L ?n9 ?m9 ?z9 ?_; (case n9 => k_asm); (case m9 => k_mem); (case z9 => (first | k_extra "OM" | ((simp only [List.length_append, List.length_cons, List.length_nil]); k_extra "OM"))); k_whole)))
  k_with "exec While" => ((k_here; (with_reducible show wpAny _ _ (exec (Stmt.While _ _ _ _) _) _ _ _); refine Stop.intro ?_))
  k_with "exec While Compare" => ((k_here; (with_reducible show wpAny _ _ (exec (Stmt.While _ _ _ _) _) _ _ _); refine Stop.intro ?_))
  k_with "call builtin:list.pop" => ((k_here; (with_reducible show wpAny _ _ (call (Value.builtin _) [Value.ref _]) _ _ _); k_dflt (refine' pop_L ?f9 ?n9 ?u9 ?z9 ?_; (case f9 => k_asm); (case n9 => k_asm); (case u9 => k_upd); (case z9 => (first | k_extra "OM" | ((simp only [List.length_cons, List.length_nil, List.length_append]); k_extra "OM"))); k_whole); intro _ _ _))
  k_with "compareOp In ref ref" => ((k_here; (with_reducible show wpAny _ _ (compareOp CmpOp.In _ (Value.ref _)) _ _ _); k_dflt (refine' in_no ?n9 ?a9 ?d9 ?x9 ?l9 ?y9 ?m9 ?u9 ?_; (case n9 => k_asm); (case a9 => k_mem); (case d9 => kqd_all); (case x9 => kqd_in); (case l9 => (with_reducible assumption)); (case y9 => rfl); (case m9 => (with_reducible assumption)); (case u9 => ktr_units))))
  k_with "setItem ref int ref" => ((k_here; (with_reducible show wpAny _ _ (setItem (Value.ref _) (Value.int _ _) (Value.ref _)) _ _ _); k_dflt (refine' set_sel ?f9 ?n9 ?x9 ?u9 ?_; (case f9 => k_asm); (case n9 => k_asm); (case x9 => (with_reducible assumption)); (case u9 => k_upd); k_whole; intro _ _ _)))
  trivial
theorem pop_c0 {w : World} {K : Sk} {si sd dl fl tl ml nd a0 a1 ca f0 f1 : Addr} {sp : Int} {st : Tok} {fa : Bool} {n1 n2 nf nm mk : Nat} {tv mv : List Value} {ms : List Int} {tr : List Ent} {d0 d1 e0 e1 : Dom} {n : Nat} {tn : Tok} {others r0 rest : Led} {g : Led → Led}
  (TI : TailIs others r0 rest g) (hsi : (si, instObj 265 sd) ∈ rest) (D0 : DatIn rest (.ref a0) (domD d0)) (D1 : DatIn rest (.ref a1) (domD d1)) (Dt : DatAll rest tv (tr.map entD)) (htx : ∀ e ∈ tr, e.x = 0 ∨ e.x = 1)
  (hfl : (fl, listOf [Value.ref f0, .ref f1].toArray nf) ∈ rest) (Df0 : DatIn rest (.ref f0) (domD e0)) (Df1 : DatIn rest (.ref f1) (domD e1)) (he0 : e0 ≠ []) (he1 : e1 ≠ [])
  (hm : IntsAre mv ms) (hml : ms.length ≤ 1000) (htl : tr.length ≤ 1000) (hn1 : 1 ≤ n) (hn2 : n ≤ ms.length) (hmk : ms[ms.length - n]? = some (mk : Int)) (hmt : mk ≤ tr.length)
  (o1 : OffL others sd) (o2 : OffL others dl) (o3 : OffL others tl) (o4 : OffL others ml)
  (h12 : Apart sd dl) (h13 : Apart sd tl) (h14 : Apart sd ml) (h23 : Apart dl tl) (h24 : Apart dl ml) (h34 : Apart tl ml) :
  Call w 4 248 [.ref si, .int (n : Int) tn] ((sd, sdO w K dl fl tl ml nd sp st fa ca) :: (dl, listOf [Value.ref a0, .ref a1].toArray n1) :: (tl, listOf tv.toArray n2) :: (ml, listOf mv.toArray nm) :: others) (fun r nw =>
    ∃ ca' a0' a1' n1' n2' nm' ml' nd' no' mv' rest', r = .none ∧ nw = (sd, sdO w K dl fl tl ml' nd' sp st false ca') :: (dl, listOf [Value.ref a0', .ref a1'].toArray n1') :: (tl, listOf (tv.take mk).toArray n2') :: (ml', listOf mv'.toArray nm') :: (nd', no') :: g rest' ∧
      Grow ((sd, sdO w K dl fl tl ml nd sp st fa ca) :: (dl, listOf [Value.ref a0, .ref a1].toArray n1) :: (tl, listOf tv.toArray n2) :: (ml, listOf mv.toArray nm) :: others) r0 rest rest' ∧ NewsO w no' ∧ IntsAre mv' (ms.take (ms.length - n)) ∧
      DatIn rest' (.ref a0') (domD (undo (tr.drop mk) 0 d0)) ∧ DatIn rest' (.ref a1') (domD (undo (tr.drop mk) 1 d1)) ∧
      (∀ q ∈ (sd, sdO w K dl fl tl ml nd sp st fa ca) :: (dl, listOf [Value.ref a0, .ref a1].toArray n1) :: (tl, listOf tv.toArray n2) :: (ml, listOf mv.toArray nm) :: others, Apart q.1 ml' ∧ Apart q.1 nd') ∧ OffL rest' ml' ∧ OffL rest' nd' ∧ Apart ml' nd') := by
  intro p loose mean mg mb dp un gd cn cs a ccd cl outer A₀ base h₀ L m s Q E B F X T hk hd hu N hret
  revert X; k_fill; intro X
  have R0 : Run ((sd, sdO w K dl fl tl ml nd sp st fa ca) :: (dl, listOf [Value.ref a0, .ref a1].toArray n1) :: (tl, listOf tv.toArray n2) :: (ml, listOf mv.toArray nm) :: others) rest rest := Run.refl
  have q1 : OffL rest sd := fun p hp => o1 p (TI.sub p hp)
  have q2 : OffL rest dl := fun p hp => o2 p (TI.sub p hp)
  have q3 : OffL rest tl := fun p hp => o3 p (TI.sub p hp)
  have q4 : OffL rest ml := fun p hp => o4 p (TI.sub p hp)
  have hmv : mv.length = ms.length := hm.length
  have Dff : DatAll rest [.ref f0, .ref f1] [domD e0, domD e1] := .cons Df0 (.cons Df1 .nil)
  have hok : ∀ d ∈ [domD e0, domD e1], kqdOk 8 d = true := by
    intro d hd
    simp only [List.mem_cons, List.not_mem_nil, or_false] at hd
    rcases hd with rfl | rfl <;> exact domD_ok _
  have hno : Dat.tuple [] ∉ [domD e0, domD e1] := by
    intro hd
    simp only [List.mem_cons, List.not_mem_nil, or_false] at hd
    rcases hd with h | h
    · exact he0 (domD_nil.mp h.symm)
    · exact he1 (domD_nil.mp h.symm)
  have htv : tv.length = tr.length := by have := Dt.length; simpa using this
  w_strict (
    refine wpAny_call ?_
    k_dflt k_enter
    k_steps
    unfold Stop
    (rename IntsAre _ _ => I1; rename News _ _ _ _ => N1; rename Fr _ _ _ _ => F1)
    rename_i Dm ws _ _ _ hL9 l9 _
    have ed : ((mv.length : Int) - (n : Int)).toNat = ms.length - n := c11a hmv hn2
    have emk : ms.getD ((mv.length : Int) - (n : Int)).toNat 0 = (mk : Int) := by rw [ed, List.getD_eq_getElem?_getD, hmk]; rfl
    rw [emk] at F1
    rw [ed] at I1
    have hfr : ∀ q ∈ (sd, sdO w K dl fl tl ml nd sp st fa ca) :: (dl, listOf [Value.ref a0, .ref a1].toArray n1) :: (tl, listOf tv.toArray n2) :: (ml, listOf mv.toArray nm) :: others, Apart q.1 Dm := fun q hq => Nat.ne_of_lt (hL9 q hq)
    have c1 := hfr _ (.head _)
    have c2 := hfr _ (.tail _ (.head _))
    have c3 := hfr _ (.tail _ (.tail _ (.head _)))
    have q5 : OffL others Dm := fun q hq => hfr q (.tail _ (.tail _ (.tail _ (.tail _ hq))))
    have q6 : OffL rest Dm := fun q hq => q5 q (TI.sub q hq)
    have N2 : News _ _ _ ((sd, sdO w K dl fl tl Dm nd sp st fa ca) :: (dl, listOf [Value.ref a0, .ref a1].toArray n1) :: (tl, listOf tv.toArray n2) :: (Dm, listOf ws.toArray 0) :: (ml, listOf mv.toArray nm) :: others) :=
      List.forall_mem_cons.mpr ⟨N1 _ (.tail _ (.head _)), List.forall_mem_cons.mpr ⟨N1 _ (.tail _ (.tail _ (.head _))), List.forall_mem_cons.mpr ⟨N1 _ (.tail _ (.tail _ (.tail _ (.head _)))), List.forall_mem_cons.mpr ⟨N1 _ (.head _), fun q hq => N1 q (.tail _ (.tail _ (.tail _ (.tail _ hq))))⟩⟩⟩⟩
    have c4 := hfr _ (.tail _ (.tail _ (.tail _ (.head _))))
    clear l9 hL9 N1
    refine While_L (Str.ofString "entry") (fun k nx => ∃ b0 b1 k1 k2, mk ≤ k ∧ k ≤ tr.length ∧ nx = (sd, sdO w K dl fl tl Dm nd sp st fa ca) :: (dl, listOf [Value.ref b0, .ref b1].toArray k1) :: (tl, listOf (tv.take k).toArray k2) :: (Dm, listOf ws.toArray 0) :: (ml, listOf mv.toArray nm) :: others ∧
      DatIn rest (.ref b0) (domD (undo (tr.drop k) 0 d0)) ∧ DatIn rest (.ref b1) (domD (undo (tr.drop k) 1 d1))) (n₀ := tr.length) F1 N2 ⟨a0, a1, n1, n2, hmt, Nat.le_refl _, ?_, ?_, ?_⟩ ?_
    · rw [← htv, List.take_length]
    · rw [List.drop_length]; exact D0
    · rw [List.drop_length]; exact D1
    · rintro k u _ h tk9 F2 N3 ⟨b0, b1, k1, k2, hk1, hk2, rfl, B0, B1⟩
      rcases Nat.lt_or_ge mk k with hlt | hge
      · obtain ⟨k', rfl⟩ : ∃ k', k = k' + 1 := c11b hlt
        obtain ⟨v, hv, et⟩ := take_snoc (l := tv) (k := k') (c11d htv hk2)
        obtain ⟨e, he, De⟩ := datAll_get Dt hv
        rw [List.getElem?_map, Option.map_eq_some_iff] at he
        obtain ⟨e, he, rfl⟩ := he
        obtain ⟨la, nla, a9, b9, c9, t1, t2, rfl, hla, Do, _, _⟩ := datIn_ent De
        rw [et] at N3
        have hpl : (tv.take k').length = k' := c11c htv (Nat.le_of_succ_le hk2)
        have hx := htx e (List.mem_of_getElem? he)
        have hpl2 : (tv.take k').length ≤ 1000 := by rw [hpl]; exact Nat.le_trans (Nat.le_of_succ_le hk2) htl
        k_steps
        · (rename Fr _ _ _ _ => F9; rename News _ _ _ _ => N9)
          refine WhileStep.intro F9 N9 (n' := k') (Nat.lt_succ_self _) ⟨fun y hy => by simp [hy], _, _, _, _, Nat.le_of_lt_succ hlt, Nat.le_of_succ_le hk2, rfl, ?_, ?_⟩
          · rw [undo_at he]; exact dat_u0 hx Do B0
          · rw [undo_at he]; exact dat_u1 hx Do B1
        · exfalso; (rename ¬ _ => hZ); simp only [List.length_append, List.length_cons, List.length_nil] at hZ; k_extra "OM"
      · obtain rfl : k = mk := Nat.le_antisymm hge hk1
        have hpl : (tv.take k).length = k := c11c htv hk2
        have hpl2 : (tv.take k).length ≤ 1000 := by rw [hpl]; exact Nat.le_trans hk2 htl
        k_steps
        (rename Obj.IsDictOf (intKind _ _) _ _ => hi9; rename Fr _ _ _ _ => F9; rename News _ _ _ _ => N9)
        rename_i d9 _ o9 _ _ _ _ hA lA _ T1 _ hB lB _ _ T2 _ hC lC _ _ _ _ _
        have t1 := N9 (sd, sdO w K dl fl tl Dm d9 sp st false T2) (by k_mem)
        have t2 := N9 (dl, listOf [Value.ref b0, .ref b1].toArray k1) (by k_mem)
        have t3 := N9 (tl, listOf (tv.take k).toArray k2) (by k_mem)
        have t4 := N9 (Dm, listOf ws.toArray 0) (by k_mem)
        have t5 := N9 (d9, o9) (by k_mem)
        have t6 := N9 (T2, tupO [] 0) (by k_mem)
        have t7 := N9 (T1, tupO [] 0) (by k_mem)
        have t8 : News _ _ _ others := fun q hq => N9 q (by repeat (first | exact hq | refine List.mem_cons_of_mem _ ?_))
        have N8 : News _ _ _ ((sd, sdO w K dl fl tl Dm d9 sp st false T2) :: (dl, listOf [Value.ref b0, .ref b1].toArray k1) :: (tl, listOf (tv.take k).toArray k2) :: (Dm, listOf ws.toArray 0) :: (d9, o9) :: (T2, tupO [] 0) :: (T1, tupO [] 0) :: others) :=
          List.forall_mem_cons.mpr ⟨t1, List.forall_mem_cons.mpr ⟨t2, List.forall_mem_cons.mpr ⟨t3, List.forall_mem_cons.mpr ⟨t4, List.forall_mem_cons.mpr ⟨t5, List.forall_mem_cons.mpr ⟨t6, List.forall_mem_cons.mpr ⟨t7, t8⟩⟩⟩⟩⟩⟩⟩
        have G8 := TailIs.news (.cons (.cons (.cons (.cons (.cons (.move (.move TI))))))) N8
        have d8 : ∀ q ∈ others, Apart q.1 d9 := fun q hq => Nat.ne_of_lt (hA q (.tail _ (.tail _ (.tail _ (.tail _ (.tail _ hq))))))
        refine hret _ _ _ _ F9 G8 (in_11_11 _ _ _ _ _ _ _ _ _ _ _ rfl rfl (Run.grow TI.base (Run.ext R0 (fun p hp => .tail _ (.tail _ hp)) ?_)) ⟨[], hi9, .inl rfl⟩ I1 ?_ ?_ ?_ ?_ ?_ ?_)
        · kcf_all
        · exact (B0.mono fun p hp => .tail _ (.tail _ hp))
        · exact (B1.mono fun p hp => .tail _ (.tail _ hp))
        · exact fun q hq => ⟨hfr q hq, Ne.symm (tmp_ne hA (by kcf_m) q hq)⟩
        · exact List.forall_mem_cons.mpr ⟨Ne.symm (Nat.ne_of_lt (hC (Dm, listOf ws.toArray 0) (by k_mem))), List.forall_mem_cons.mpr ⟨Ne.symm (Nat.ne_of_lt (hB (Dm, listOf ws.toArray 0) (by k_mem))), q6⟩⟩
        · exact List.forall_mem_cons.mpr ⟨Ne.symm (Nat.ne_of_lt (hC (d9, o9) (by k_mem))), List.forall_mem_cons.mpr ⟨Ne.symm (Nat.ne_of_lt (hB (d9, o9) (by k_mem))), fun p hp => d8 p (TI.sub p hp)⟩⟩
        · exact Nat.ne_of_lt (hA (Dm, listOf ws.toArray 0) (by k_mem)))
theorem rows_P1_0 : True := by
  k_with_none
  w_top off
  trivial
theorem rows_P1_1 : True := by
  k_with "OMI" => (first | (with_reducible assumption) | (refine' Int.not_lt.mp ?q1; (case q1 => (with_reducible assumption))) | (refine' Int.not_le.mp ?q1; (case q1 => (with_reducible assumption))) | (refine' Int.add_one_le_of_lt ?q1; (case q1 => (with_reducible assumption))) | (refine' Int.le_of_lt ?q1; (case q1 => (with_reducible assumption))) | (refine' Int.le_of_lt_add_one ?q1; (case q1 => (with_reducible assumption))) | (refine' Int.le_trans ?q1 ?q2; (case q1 => (with_reducible assumption)); (case q2 => (with_reducible assumption))) | (refine' Int.lt_of_lt_of_le ?q1 ?q2; (case q1 => (with_reducible assumption)); (case q2 => (with_reducible assumption))) | (refine' Int.lt_of_le_of_lt ?q1 ?q2; (case q1 => (with_reducible assumption)); (case q2 => (with_reducible assumption))) | (refine' Int.le_antisymm ?q1 ?q2; (case q1 => (with_reducible assumption)); (case q2 => (with_reducible assumption))) | omega)
  trivial
/-! plain laws on domains -/
def Can (d : Dom) : Prop := (∀ p ∈ d, p.1 ≤ p.2) ∧ d.Pairwise (fun p q => p.2 + 1 < q.1)
def InD (d : Dom) (v : Int) : Prop := ∃ p ∈ d, p.1 ≤ v ∧ v ≤ p.2
abbrev Asc (q : List Int) : Prop := q.Pairwise (· < ·)
theorem can_cons {p : Int × Int} {d : Dom} : Can (p :: d) ↔ p.1 ≤ p.2 ∧ (∀ r ∈ d, p.2 + 1 < r.1) ∧ Can d := by
  simp only [Can, List.mem_cons, forall_eq_or_imp, List.pairwise_cons]
  constructor
  · rintro ⟨⟨a, b⟩, c, d⟩; exact ⟨a, c, b, d⟩
  · rintro ⟨a, c, b, d⟩; exact ⟨⟨a, b⟩, c, d⟩
theorem inD_cons {p : Int × Int} {d : Dom} {v : Int} : InD (p :: d) v ↔ (p.1 ≤ v ∧ v ≤ p.2) ∨ InD d v := by
  simp only [InD, List.mem_cons, exists_eq_or_imp]
theorem can_ext {d e : Dom} (hd : Can d) (he : Can e) (h : ∀ v, InD d v ↔ InD e v) : d = e := by
  induction d generalizing e with
  | nil => cases e with
    | nil => rfl
    | cons q e =>
      obtain ⟨p, hp, _⟩ := (h q.1).mpr (inD_cons.mpr (.inl ⟨Int.le_refl _, (can_cons.mp he).1⟩))
      cases hp
  | cons p d ih => cases e with
    | nil =>
      obtain ⟨p, hp, _⟩ := (h p.1).mp (inD_cons.mpr (.inl ⟨Int.le_refl _, (can_cons.mp hd).1⟩))
      cases hp
    | cons q e =>
      obtain ⟨a1, a2, a3⟩ := can_cons.mp hd
      obtain ⟨b1, b2, b3⟩ := can_cons.mp he
      have up : ∀ v, InD d v → p.2 + 1 < v := fun v ⟨r, hr, x, y⟩ => by have := a2 r hr; k_extra "OMI"
      have uq : ∀ v, InD e v → q.2 + 1 < v := fun v ⟨r, hr, x, y⟩ => by have := b2 r hr; k_extra "OMI"
      have h1 : q.1 ≤ p.1 := by
        rcases inD_cons.mp ((h p.1).mp (inD_cons.mpr (.inl ⟨Int.le_refl _, a1⟩))) with x | x
        · k_extra "OMI"
        · have := uq _ x; k_extra "OMI"
      have h2 : p.1 ≤ q.1 := by
        rcases inD_cons.mp ((h q.1).mpr (inD_cons.mpr (.inl ⟨Int.le_refl _, b1⟩))) with x | x
        · k_extra "OMI"
        · have := up _ x; k_extra "OMI"
      have h3 : q.2 ≤ p.2 := by
        by_cases z : p.2 < q.2
        · rcases inD_cons.mp ((h (p.2 + 1)).mpr (inD_cons.mpr (.inl ⟨by k_extra "OMI", by k_extra "OMI"⟩))) with x | x
          · k_extra "OMI"
          · have := up _ x; k_extra "OMI"
        · k_extra "OMI"
      have h4 : p.2 ≤ q.2 := by
        by_cases z : q.2 < p.2
        · rcases inD_cons.mp ((h (q.2 + 1)).mp (inD_cons.mpr (.inl ⟨by k_extra "OMI", by k_extra "OMI"⟩))) with x | x
          · k_extra "OMI"
          · have := uq _ x; k_extra "OMI"
        · k_extra "OMI"
      have e1 : p = q := Prod.ext (by k_extra "OMI") (by k_extra "OMI")
      subst e1
      rw [ih a3 b3 fun v => ⟨fun x => ?_, fun x => ?_⟩]
      · rcases inD_cons.mp ((h v).mp (inD_cons.mpr (.inr x))) with y | y
        · have := up _ x; k_extra "OMI"
        · exact y
      · rcases inD_cons.mp ((h v).mpr (inD_cons.mpr (.inr x))) with y | y
        · have := uq _ x; k_extra "OMI"
        · exact y
theorem can_upTo {d : Dom} {k : Int} (h : Can d) : Can (upTo d k) := by
  constructor
  · intro p hp
    simp only [upTo, List.mem_map, List.mem_filter, decide_eq_true_eq] at hp
    obtain ⟨r, ⟨hr, hk⟩, rfl⟩ := hp
    have := h.1 r hr
    dsimp only
    split <;> k_extra "OMI"
  · unfold upTo
    rw [List.pairwise_map]
    refine (h.2.filter _).imp fun {a b} hab => ?_
    dsimp only
    split <;> k_extra "OMI"
theorem inD_upTo {d : Dom} {k v : Int} : InD (upTo d k) v ↔ InD d v ∧ v ≤ k := by
  constructor
  · rintro ⟨p, hp, a, b⟩
    simp only [upTo, List.mem_map, List.mem_filter, decide_eq_true_eq] at hp
    obtain ⟨r, ⟨hr, hk⟩, rfl⟩ := hp
    dsimp only at a b
    split at b
    · exact ⟨⟨r, hr, a, by k_extra "OMI"⟩, b⟩
    · exact ⟨⟨r, hr, a, b⟩, by k_extra "OMI"⟩
  · rintro ⟨⟨p, hp, a, b⟩, c⟩
    refine ⟨_, List.mem_map.mpr ⟨p, List.mem_filter.mpr ⟨hp, decide_eq_true (by k_extra "OMI")⟩, rfl⟩, a, ?_⟩
    dsimp only
    split <;> k_extra "OMI"
theorem can_fromOn {d : Dom} {k : Int} (h : Can d) : Can (fromOn d k) := by
  constructor
  · intro p hp
    simp only [fromOn, List.mem_map, List.mem_filter, decide_eq_true_eq] at hp
    obtain ⟨r, ⟨hr, hk⟩, rfl⟩ := hp
    have := h.1 r hr
    dsimp only
    split <;> k_extra "OMI"
  · unfold fromOn
    rw [List.pairwise_map]
    refine (h.2.filter _).imp fun {a b} hab => ?_
    dsimp only
    split <;> k_extra "OMI"
theorem inD_fromOn {d : Dom} {k v : Int} : InD (fromOn d k) v ↔ InD d v ∧ k ≤ v := by
  constructor
  · rintro ⟨p, hp, a, b⟩
    simp only [fromOn, List.mem_map, List.mem_filter, decide_eq_true_eq] at hp
    obtain ⟨r, ⟨hr, hk⟩, rfl⟩ := hp
    dsimp only at a b
    split at a
    · exact ⟨⟨r, hr, by k_extra "OMI", b⟩, a⟩
    · exact ⟨⟨r, hr, a, b⟩, by k_extra "OMI"⟩
  · rintro ⟨⟨p, hp, a, b⟩, c⟩
    refine ⟨_, List.mem_map.mpr ⟨p, List.mem_filter.mpr ⟨hp, decide_eq_true (by k_extra "OMI")⟩, rfl⟩, ?_, b⟩
    dsimp only
    split <;> k_extra "OMI"
theorem inD_append {d e : Dom} {v : Int} : InD (d ++ e) v ↔ InD d v ∨ InD e v := by
  constructor
  · rintro ⟨p, hp, a⟩
    exact (List.mem_append.mp hp).imp (fun h => ⟨p, h, a⟩) (fun h => ⟨p, h, a⟩)
  · rintro (⟨p, hp, a⟩ | ⟨p, hp, a⟩)
    · exact ⟨p, List.mem_append.mpr (.inl hp), a⟩
    · exact ⟨p, List.mem_append.mpr (.inr hp), a⟩
theorem can_append {d e : Dom} (hd : Can d) (he : Can e) (h : ∀ p ∈ d, ∀ q ∈ e, p.2 + 1 < q.1) : Can (d ++ e) :=
  ⟨fun p hp => (List.mem_append.mp hp).elim (hd.1 p) (he.1 p), List.pairwise_append.mpr ⟨hd.2, he.2, h⟩⟩
theorem can_without {d : Dom} {k : Int} (h : Can d) : Can (without d k) := by
  refine can_append (can_upTo h) (can_fromOn h) fun p hp q hq => ?_
  have hp' := can_upTo (k := k - 1) h
  have hq' := can_fromOn (k := k + 1) h
  have h1 := (inD_upTo (d := d) (k := k - 1) (v := p.2)).mp ⟨p, hp, hp'.1 p hp, Int.le_refl _⟩
  have h2 := (inD_fromOn (d := d) (k := k + 1) (v := q.1)).mp ⟨q, hq, Int.le_refl _, hq'.1 q hq⟩
  k_extra "OMI"
theorem inD_without {d : Dom} {k v : Int} : InD (without d k) v ↔ InD d v ∧ v ≠ k := by
  unfold without
  rw [inD_append, inD_upTo, inD_fromOn]
  constructor
  · rintro (⟨a, b⟩ | ⟨a, b⟩)
    · exact ⟨a, by k_extra "OMI"⟩
    · exact ⟨a, by k_extra "OMI"⟩
  · rintro ⟨a, b⟩
    rcases Int.lt_or_gt_of_ne b with c | c
    · exact .inl ⟨a, by k_extra "OMI"⟩
    · exact .inr ⟨a, by k_extra "OMI"⟩
theorem ivs_spec (q : List Int) (h : Asc q) : Can (ivs q) ∧ ∀ v, InD (ivs q) v ↔ v ∈ q := by
  rcases List.eq_nil_or_concat q with rfl | ⟨i, a, rfl⟩
  · exact ⟨⟨by simp [ivs], by simp [ivs]⟩, fun v => by simp [ivs, InD]⟩
  · rw [List.concat_eq_append] at h ⊢
    obtain ⟨h1, _, h3⟩ := List.pairwise_append.mp h
    obtain ⟨c, m⟩ := ivs_spec i h1
    have hlt : ∀ v, InD (ivs i) v → v < a := fun v hv => h3 v ((m v).mp hv) a (by simp)
    rw [ivs_snoc]
    rcases list_snoc (ivs i) with e | ⟨j, ⟨lo, hi⟩, e⟩
    · rw [e] at m ⊢
      rw [putV_nil]
      refine ⟨⟨by simp, by simp⟩, fun v => ?_⟩
      have : i = [] := by
        cases i with
        | nil => rfl
        | cons b i => obtain ⟨_, hp, _⟩ := (m b).mpr (.head _); cases hp
      subst this
      simp [InD]; k_extra "OMI"
    · rw [e] at c m hlt ⊢
      have cl := c.1 (lo, hi) (by simp)
      dsimp only at cl
      obtain ⟨cj, _, cx⟩ := List.pairwise_append.mp c.2
      have hh := hlt hi ⟨(lo, hi), by simp, cl, Int.le_refl _⟩
      rw [putV_snoc]
      split
      · have ea : a = hi + 1 := by k_extra "OMI"
        refine ⟨can_append ⟨fun p hp => c.1 p (List.mem_append.mpr (.inl hp)), cj⟩ ⟨by simp; k_extra "OMI", by simp⟩ fun p hp q hq => ?_, fun v => ?_⟩
        · rw [List.mem_singleton.mp hq]; exact cx p hp (lo, hi) (by simp)
        · rw [List.mem_append, ← m v, inD_append, inD_append]
          simp only [InD, List.mem_singleton, exists_eq_left]
          constructor
          · rintro (x | x)
            · exact .inl (.inl x)
            · by_cases hv : v = a
              · exact .inr hv
              · exact .inl (.inr ⟨x.1, by k_extra "OMI"⟩)
          · rintro ((x | x) | x)
            · exact .inl x
            · exact .inr ⟨x.1, by k_extra "OMI"⟩
            · exact .inr ⟨by k_extra "OMI", by k_extra "OMI"⟩
      · refine ⟨can_append c ⟨by simp, by simp⟩ fun p hp q hq => ?_, fun v => ?_⟩
        · rw [List.mem_singleton.mp hq]
          rcases List.mem_append.mp hp with hp | hp
          · have := cx p hp (lo, hi) (by simp); dsimp only at this ⊢; k_extra "OMI"
          · rw [List.mem_singleton.mp hp]; dsimp only; k_extra "OMI"
        · rw [List.mem_append, ← m v, inD_append (e := [(a, a)])]
          simp only [InD, List.mem_singleton, exists_eq_left]
          constructor
          · rintro (x | x)
            · exact .inl x
            · exact .inr (by k_extra "OMI")
          · rintro (x | x)
            · exact .inl x
            · exact .inr (by k_extra "OMI")
termination_by q.length
theorem asc_filter {q : List Int} (p : Int → Bool) (h : Asc q) : Asc (q.filter p) := h.filter _
theorem upTo_ivs {q : List Int} {k : Int} (h : Asc q) : upTo (ivs q) k = ivs (q.filter fun v => decide (v ≤ k)) := by
  have a := ivs_spec q h
  have b := ivs_spec _ (asc_filter (fun v => decide (v ≤ k)) h)
  refine can_ext (can_upTo a.1) b.1 fun v => ?_
  rw [inD_upTo, a.2, b.2, List.mem_filter, decide_eq_true_eq]
theorem fromOn_ivs {q : List Int} {k : Int} (h : Asc q) : fromOn (ivs q) k = ivs (q.filter fun v => decide (k ≤ v)) := by
  have a := ivs_spec q h
  have b := ivs_spec _ (asc_filter (fun v => decide (k ≤ v)) h)
  refine can_ext (can_fromOn a.1) b.1 fun v => ?_
  rw [inD_fromOn, a.2, b.2, List.mem_filter, decide_eq_true_eq]
theorem without_ivs {q : List Int} {k : Int} (h : Asc q) : without (ivs q) k = ivs (q.filter fun v => decide (v ≠ k)) := by
  have a := ivs_spec q h
  have b := ivs_spec _ (asc_filter (fun v => decide (v ≠ k)) h)
  refine can_ext (can_without a.1) b.1 fun v => ?_
  rw [inD_without, a.2, b.2, List.mem_filter, decide_eq_true_eq]
theorem ivs_nil {q : List Int} (h : Asc q) : ivs q = [] ↔ q = [] := by
  constructor
  · intro e
    have a := ivs_spec q h
    cases q with
    | nil => rfl
    | cons b i => obtain ⟨_, hp, _⟩ := (a.2 b).mpr (.head _); rw [e] at hp; cases hp
  · rintro rfl; rfl
theorem ivs_filter {q : List Int} (h : Asc q) (p : Int → Bool) : ivs (q.filter p) = ivs q ↔ ∀ v ∈ q, p v = true := by
  constructor
  · intro e v hv
    have a := ivs_spec q h
    have b := ivs_spec _ (asc_filter p h)
    have := (a.2 v).mpr hv
    rw [← e] at this
    exact (List.mem_filter.mp ((b.2 v).mp this)).2
  · intro e
    rw [List.filter_eq_self.mpr e]
def barsB (sg : Sg) (k v : Int) : Bool := match sg with
  | .le => decide (v > k)
  | .ge => decide (v < k)
  | .ne => decide (v = k)
theorem barsB_iff {sg : Sg} {k v : Int} : barsB sg k v = true ↔ barsP sg k v := by
  cases sg <;> exact decide_eq_true_iff
/-- what a literal leaves of the values -/
def keepL (sg : Sg) (k : Int) (q : List Int) : List Int := q.filter fun v => !barsB sg k v
theorem keepL_mem {q : List Int} {sg : Sg} {k v : Int} : v ∈ keepL sg k q ↔ v ∈ q ∧ ¬ barsP sg k v := by
  rw [keepL, List.mem_filter, ← barsB_iff]; simp
theorem keepL_asc {q : List Int} {sg : Sg} {k : Int} (h : Asc q) : Asc (keepL sg k q) := asc_filter _ h
theorem struck_ivs {q : List Int} {sg : Sg} {k : Int} (h : Asc q) : struckF sg k (ivs q) = ivs (keepL sg k q) := by
  cases sg
  · show upTo (ivs q) k = _
    rw [upTo_ivs h]; congr 1; refine List.filter_congr fun v _ => ?_
    show _ = !decide (v > k)
    rw [← decide_not]; exact decide_eq_decide.mpr (by k_extra "OMI")
  · show fromOn (ivs q) k = _
    rw [fromOn_ivs h]; congr 1; refine List.filter_congr fun v _ => ?_
    show _ = !decide (v < k)
    rw [← decide_not]; exact decide_eq_decide.mpr (by k_extra "OMI")
  · show without (ivs q) k = _
    rw [without_ivs h]; congr 1; refine List.filter_congr fun v _ => ?_
    show _ = !decide (v = k)
    rw [← decide_not]
theorem keepL_self {q : List Int} {sg : Sg} {k : Int} (h : Asc q) : ivs (keepL sg k q) = ivs q ↔ ∀ v ∈ q, ¬ barsP sg k v := by
  rw [keepL, ivs_filter h]; simp [← barsB_iff]
theorem struck_self {q : List Int} {sg : Sg} {k : Int} (h : Asc q) : struckF sg k (ivs q) = ivs q ↔ ∀ v ∈ q, ¬ barsP sg k v := by
  rw [struck_ivs h, keepL_self h]
theorem struck_nil {q : List Int} {sg : Sg} {k : Int} (h : Asc q) : struckF sg k (ivs q) = [] ↔ keepL sg k q = [] := by
  rw [struck_ivs h, ivs_nil (keepL_asc h)]
theorem keepL_eq {q : List Int} {sg : Sg} {k : Int} (h : ∀ v ∈ q, ¬ barsP sg k v) : keepL sg k q = q :=
  List.filter_eq_self.mpr fun v hv => by
    cases e : barsB sg k v with
    | false => rfl
    | true => exact absurd (barsB_iff.mp e) (h v hv)
/-- a good list of values -/
structure Good (q : List Int) : Prop where
  asc : Asc q
  ne : q ≠ []
  lo : ∀ v ∈ q, 0 ≤ v ∧ v < 8
theorem asc_len {q : List Int} {a b : Int} (h : Asc q) (hb : ∀ v ∈ q, a ≤ v ∧ v < b) : q.length ≤ (b - a).toNat := by
  induction q generalizing a with
  | nil => exact Nat.zero_le _
  | cons v r ih =>
    obtain ⟨h1, h2⟩ := List.pairwise_cons.mp h
    have := ih (a := v + 1) h2 fun u hu => ⟨h1 u hu, (hb u (.tail _ hu)).2⟩
    have := hb v (.head _)
    rw [List.length_cons]; k_extra "OMI"
theorem Good.len {q : List Int} (h : Good q) : q.length ≤ 8 := asc_len (a := 0) (b := 8) h.asc h.lo
theorem Good.ivs {q : List Int} (h : Good q) : ivs q ≠ [] := fun e => h.ne ((ivs_nil h.asc).mp e)
theorem Good.filter {q : List Int} (h : Good q) {p : Int → Bool} (hp : q.filter p ≠ []) : Good (q.filter p) := ⟨asc_filter p h.asc, hp, fun v hv => h.lo v (List.mem_filter.mp hv).1⟩
theorem undo_append (a b : List Ent) (x : Int) (d : Dom) : undo (a ++ b) x d = undo a x (undo b x d) := by
  induction a with
  | nil => rfl
  | cons e a ih =>
    show (if e.x = x then e.old else undo (a ++ b) x d) = if e.x = x then e.old else undo a x (undo b x d)
    rw [ih]
theorem undo_off {a : List Ent} {x : Int} {d : Dom} (h : ∀ e ∈ a, e.x ≠ x) : undo a x d = d := by
  induction a with
  | nil => rfl
  | cons e a ih =>
    show (if e.x = x then e.old else undo a x d) = d
    rw [if_neg (h e (.head _)), ih fun e he => h e (.tail _ he)]
/-- what the numbers leave -/
def keptL (ns q : List Int) : List Int := keepL .le (maxI ns) (keepL .ge (minI ns) q)
theorem keptL_mem {ns q : List Int} {v : Int} : v ∈ keptL ns q ↔ v ∈ q ∧ minI ns ≤ v ∧ v ≤ maxI ns := by
  rw [keptL, keepL_mem, keepL_mem]; simp only [barsP]
  constructor
  · rintro ⟨⟨a, b⟩, c⟩; exact ⟨a, by k_extra "OMI", by k_extra "OMI"⟩
  · rintro ⟨a, b, c⟩; exact ⟨⟨a, by k_extra "OMI"⟩, by k_extra "OMI"⟩
theorem keptL_asc {ns q : List Int} (h : Asc q) : Asc (keptL ns q) := keepL_asc (keepL_asc h)
theorem keptL_good {ns q : List Int} (h : Good q) (hk : keptL ns q ≠ []) : Good (keptL ns q) := ⟨keptL_asc h.asc, hk, fun v hv => h.lo v (keptL_mem.mp hv).1⟩
/-- how many ends are cut -/
def cutsOf (ns q : List Int) : Nat := (if q.headD 0 < minI ns then 1 else 0) + (if maxI ns < q.getLastD 0 then 1 else 0)
theorem asc_head {q : List Int} (h : Asc q) (hz : q ≠ []) : q.headD 0 ∈ q ∧ ∀ v ∈ q, q.headD 0 ≤ v := by
  cases q with
  | nil => exact absurd rfl hz
  | cons a r =>
    refine ⟨.head _, fun v hv => ?_⟩
    rcases List.mem_cons.mp hv with e | hv
    · rw [e]; exact Int.le_refl _
    · exact Int.le_of_lt ((List.pairwise_cons.mp h).1 v hv)
theorem asc_lastD {q : List Int} (h : Asc q) (hz : q ≠ []) : q.getLastD 0 ∈ q ∧ ∀ v ∈ q, v ≤ q.getLastD 0 := by
  rcases List.eq_nil_or_concat q with rfl | ⟨i, a, rfl⟩
  · exact absurd rfl hz
  · rw [List.concat_eq_append] at h ⊢
    have e : (i ++ [a]).getLastD 0 = a := by simp
    rw [e]
    refine ⟨by simp, fun v hv => ?_⟩
    rcases List.mem_append.mp hv with hv | hv
    · exact Int.le_of_lt ((List.pairwise_append.mp h).2.2 v hv a (by simp))
    · rw [List.mem_singleton.mp hv]; exact Int.le_refl _
/-- what a level has laid onto the trail -/
structure Lev (x sp : Int) (c : Nat) (q q' : List Int) (tre : List Ent) : Prop where
  len : tre.length = c
  is : ∀ e ∈ tre, e.x = x ∧ e.rs = .tuple [] ∧ e.sp = sp
  back : undo tre x (ivs q') = ivs q
theorem betw_ok {x sp : Int} {ns q : List Int} {tr : List Ent} (h : Good q) (hz : ns ≠ []) (hk : keptL ns q ≠ []) :
    (betwF x sp ns (ivs q) tr).ok = true ∧ (betwF x sp ns (ivs q) tr).dx = ivs (keptL ns q) ∧ ∃ tre, (betwF x sp ns (ivs q) tr).tr = tr ++ tre ∧ Lev x sp (cutsOf ns q) q (keptL ns q) tre := by
  have h1 : keepL .ge (minI ns) q ≠ [] := fun e => hk (by rw [keptL, e]; rfl)
  have s1 : struckF .ge (minI ns) (ivs q) = ivs (keepL .ge (minI ns) q) := struck_ivs h.asc
  have a1 : Asc (keepL .ge (minI ns) q) := keepL_asc h.asc
  have s2 : struckF .le (maxI ns) (ivs (keepL .ge (minI ns) q)) = ivs (keptL ns q) := struck_ivs a1
  have z1 : struckF .ge (minI ns) (ivs q) ≠ [] := fun e => h1 ((struck_nil h.asc).mp e)
  have z2 : struckF .le (maxI ns) (struckF .ge (minI ns) (ivs q)) ≠ [] := fun e => by
    rw [s1] at e; exact hk ((struck_nil a1).mp e)
  rw [betw3 hz z1 z2]
  refine ⟨rfl, by show struckF .le _ (struckF .ge _ _) = _; rw [s1, s2], ?_⟩
  obtain ⟨p1, p2⟩ := asc_head h.asc h.ne
  obtain ⟨p3, p4⟩ := asc_lastD h.asc h.ne
  have c1 : struckF .ge (minI ns) (ivs q) = ivs q ↔ ¬ q.headD 0 < minI ns := by
    rw [struck_self h.asc]
    exact ⟨fun f => f _ p1, fun f v hv => by have := p2 v hv; show ¬ v < _; k_extra "OMI"⟩
  have c2 : struckF .le (maxI ns) (ivs (keepL .ge (minI ns) q)) = ivs (keepL .ge (minI ns) q) ↔ ¬ maxI ns < q.getLastD 0 := by
    rw [struck_self a1]
    have lst : q.getLastD 0 ∈ keepL .ge (minI ns) q := by
      obtain ⟨v, hv⟩ := List.exists_mem_of_ne_nil _ h1
      obtain ⟨u1, u2⟩ := keepL_mem.mp hv
      have := p4 v u1
      refine keepL_mem.mpr ⟨p3, ?_⟩
      show ¬ _ < _
      have : ¬ v < minI ns := u2
      k_extra "OMI"
    refine ⟨fun f => f _ lst, fun f v hv => ?_⟩
    have := p4 v (keepL_mem.mp hv).1
    show ¬ v > _
    k_extra "OMI"
  show ∃ tre, tr1 .le (maxI ns) x (struckF .ge (minI ns) (ivs q)) sp (tr1 .ge (minI ns) x (ivs q) sp tr) = tr ++ tre ∧ _
  unfold tr1 cutsOf
  rw [s1]
  by_cases b1 : q.headD 0 < minI ns <;> by_cases b2 : maxI ns < q.getLastD 0
  · rw [if_neg (by rw [c2]; exact fun f => f b2), if_neg (by rw [← s1, c1]; exact fun f => f b1), if_pos b1, if_pos b2]
    refine ⟨[_, _], by rw [List.append_assoc]; rfl, rfl, by simp, ?_⟩
    simp [undo]
  · rw [if_pos (c2.mpr b2), if_neg (by rw [← s1, c1]; exact fun f => f b1), if_pos b1, if_neg b2]
    refine ⟨[_], rfl, rfl, by simp, ?_⟩
    simp [undo]
  · rw [if_neg (by rw [c2]; exact fun f => f b2), if_pos (by rw [← s1]; exact c1.mpr b1), if_neg b1, if_pos b2]
    refine ⟨[_], rfl, rfl, by simp, ?_⟩
    simp only [undo, if_true]
    rw [← s1]; exact c1.mpr b1
  · rw [if_pos (c2.mpr b2), if_pos (by rw [← s1]; exact c1.mpr b1), if_neg b1, if_neg b2]
    refine ⟨[], by simp, rfl, by simp, ?_⟩
    show ivs (keptL ns q) = ivs q
    rw [← s2, c2.mpr b2, ← s1]
    exact c1.mpr b1
/-- the numbers turned about and doubled strike nothing more -/
theorem betw_same {x sp : Int} {ns q : List Int} {tr : List Ent} (h : Good q) (hz : ns ≠ []) (hk : ∀ v ∈ q, minI ns ≤ v ∧ v ≤ maxI ns) : betwF x sp ns (ivs q) tr = ⟨true, ivs q, tr, []⟩ := by
  have e1 : struckF .ge (minI ns) (ivs q) = ivs q := (struck_self h.asc).mpr fun v hv => by have := hk v hv; show ¬ v < _; k_extra "OMI"
  have e2 : struckF .le (maxI ns) (ivs q) = ivs q := (struck_self h.asc).mpr fun v hv => by have := hk v hv; show ¬ v > _; k_extra "OMI"
  rw [betw3 hz (by rw [e1]; exact h.ivs) (by rw [e1, e2]; exact h.ivs)]
  unfold tr1
  rw [e1, e2, if_pos rfl, if_pos rfl]
theorem turned {ns : List Int} (hz : ns ≠ []) : minI (ns.reverse ++ ns) = minI ns ∧ maxI (ns.reverse ++ ns) = maxI ns := by
  have hp : 0 < ns.length := List.length_pos_iff.mpr hz
  have a := minI_spec hp
  have b := maxI_spec hp
  constructor
  · refine (minI_uniq (List.mem_append.mpr (.inr a.1)) fun v hv => ?_).symm
    rcases List.mem_append.mp hv with hv | hv
    · exact a.2 v (List.mem_reverse.mp hv)
    · exact a.2 v hv
  · refine (maxI_uniq (List.mem_append.mpr (.inr b.1)) fun v hv => ?_).symm
    rcases List.mem_append.mp hv with hv | hv
    · exact b.2 v (List.mem_reverse.mp hv)
    · exact b.2 v hv
/-- the values from the least number on; all, if there is none -/
def someL (ns q : List Int) : List Int := if keepL .ge (minI ns) q = [] then q else keepL .ge (minI ns) q
theorem someL_good {ns q : List Int} (h : Good q) : Good (someL ns q) := by
  unfold someL
  split
  · exact h
  · exact h.filter (by assumption)
/-- between that does not stand: one literal is the clash; it holds of all that is left, and bars the numbers -/
theorem betw_no {x sp : Int} {ns q : List Int} {tr : List Ent} (h : Good q) (hz : ns ≠ []) (hk : keptL ns q = []) :
    ∃ tre sg k, betwF x sp ns (ivs q) tr = ⟨false, ivs (someL ns q), tr ++ tre, [litD x (Sg.str sg) k]⟩ ∧ (sg = .le ∨ sg = .ge) ∧ (∀ v ∈ someL ns q, ¬ barsP sg k v) ∧ (∀ v, minI ns ≤ v → v ≤ maxI ns → barsP sg k v) ∧
      tre.length ≤ 1 ∧ (∀ e ∈ tre, e.x = x) ∧ undo tre x (ivs (someL ns q)) = ivs q := by
  have s1 : struckF .ge (minI ns) (ivs q) = ivs (keepL .ge (minI ns) q) := struck_ivs h.asc
  have a1 : Asc (keepL .ge (minI ns) q) := keepL_asc h.asc
  by_cases h1 : keepL .ge (minI ns) q = []
  · rw [betw1 hz ((struck_nil h.asc).mpr h1)]
    refine ⟨[], .le, minI ns - 1, ?_, .inl rfl, ?_, ?_, Nat.zero_le _, by simp, ?_⟩
    · rw [someL, if_pos h1, List.append_nil]; rfl
    · intro v hv
      rw [someL, if_pos h1] at hv
      show ¬ v > _
      by_cases b : v < minI ns
      · k_extra "OMI"
      · have : v ∈ keepL .ge (minI ns) q := keepL_mem.mpr ⟨hv, b⟩
        rw [h1] at this; cases this
    · intro v a _; show v > _; k_extra "OMI"
    · rw [someL, if_pos h1]; rfl
  · have z1 : struckF .ge (minI ns) (ivs q) ≠ [] := fun e => h1 ((struck_nil h.asc).mp e)
    have z2 : struckF .le (maxI ns) (struckF .ge (minI ns) (ivs q)) = [] := by rw [s1]; exact (struck_nil a1).mpr hk
    rw [betw2 hz z1 z2]
    have lst : ∀ v ∈ keepL .ge (minI ns) q, ¬ v < maxI ns + 1 := fun v hv hl => by
      have : v ∈ keptL ns q := keptL_mem.mpr ⟨(keepL_mem.mp hv).1, by have : ¬ v < _ := (keepL_mem.mp hv).2; k_extra "OMI", by k_extra "OMI"⟩
      rw [hk] at this; cases this
    unfold tr1
    by_cases b1 : struckF .ge (minI ns) (ivs q) = ivs q
    · refine ⟨[], .ge, maxI ns + 1, ?_, .inr rfl, ?_, ?_, Nat.zero_le _, by simp, ?_⟩
      · rw [someL, if_neg h1, if_pos b1, s1, List.append_nil]; rfl
      · rw [someL, if_neg h1]; exact lst
      · intro v _ a; show v < _; k_extra "OMI"
      · rw [someL, if_neg h1, ← s1, b1]; rfl
    · refine ⟨[⟨x, ivs q, litD x Sg.ge.str (minI ns), .tuple [], sp⟩], .ge, maxI ns + 1, ?_, .inr rfl, ?_, ?_, Nat.le_refl _, ?_, ?_⟩
      · rw [someL, if_neg h1, if_neg b1, s1]; rfl
      · rw [someL, if_neg h1]; exact lst
      · intro v _ a; show v < _; k_extra "OMI"
      · simp
      · simp [undo]
theorem betw_none {x sp : Int} {q : List Int} {tr : List Ent} : betwF x sp [] (ivs q) tr = ⟨false, ivs q, tr, []⟩ := betw0 rfl
/-- a decided literal -/
theorem decided_lev {x sp : Int} {sg : Sg} {k : Int} {q : List Int} {tr : List Ent} {rd : Dat} (h : Good q) (hk : keepL sg k q ≠ []) :
    ∃ tre, (if struckF sg k (ivs q) = ivs q then tr else tr ++ [⟨x, ivs q, litD x sg.str k, rd, sp⟩]) = tr ++ tre ∧ tre.length ≤ 1 ∧ (∀ e ∈ tre, e.x = x) ∧ undo tre x (ivs (keepL sg k q)) = ivs q := by
  by_cases b : struckF sg k (ivs q) = ivs q
  · rw [if_pos b]
    exact ⟨[], by simp, Nat.zero_le _, by simp, by rw [← struck_ivs h.asc, b]; rfl⟩
  · rw [if_neg b]
    exact ⟨[_], rfl, Nat.le_refl _, by simp, by simp [undo]⟩
/-- the levels that stand: the trail, the marks, what each level found -/
inductive Hist (f0 f1 : List Int) : List Ent → List Int → List (List Int × List Int) → List Int → List Int → Prop
  | nil : Good f0 → Good f1 → Hist f0 f1 [] [] [] f0 f1
  | push {tr ms st q0 q1 tre q0' q1'} : Hist f0 f1 tr ms st q0 q1 → undo tre 0 (ivs q0') = ivs q0 → undo tre 1 (ivs q1') = ivs q1 → (∀ e ∈ tre, e.x = 0 ∨ e.x = 1) → tre.length ≤ 2 → Good q0' → Good q1' →
      Hist f0 f1 (tr ++ tre) (ms ++ [(tr.length : Int)]) (st ++ [(q0, q1)]) q0' q1'
theorem Hist.facts {f0 f1 : List Int} {tr : List Ent} {ms : List Int} {st : List (List Int × List Int)} {q0 q1 : List Int} (H : Hist f0 f1 tr ms st q0 q1) :
    ms.length = st.length ∧ tr.length ≤ 2 * st.length ∧ (∀ e ∈ tr, e.x = 0 ∨ e.x = 1) ∧ Good q0 ∧ Good q1 ∧ undo tr 0 (ivs q0) = ivs f0 ∧ undo tr 1 (ivs q1) = ivs f1 ∧ (st = [] → tr = [] ∧ q0 = f0 ∧ q1 = f1) ∧ (∀ k, ms[0]? = some k → k = 0) := by
  induction H with
  | nil a b => exact ⟨rfl, Nat.zero_le _, by simp, a, b, rfl, rfl, fun _ => ⟨rfl, rfl, rfl⟩, by simp⟩
  | @push tr ms st q0 q1 tre q0' q1' H u0 u1 hx hl g0 g1 ih =>
    obtain ⟨i1, i2, i3, _, _, i6, i7, i8, i9⟩ := ih
    refine ⟨by simp [i1], by simp; k_extra "OMI", fun e he => (List.mem_append.mp he).elim (i3 e) (hx e), g0, g1, by rw [undo_append, u0, i6], by rw [undo_append, u1, i7], fun e => by simp at e, fun k hk => ?_⟩
    cases ms with
    | nil =>
      have : st = [] := List.length_eq_zero_iff.mp i1.symm
      rw [(i8 this).1] at hk
      simp at hk; exact hk.symm
    | cons a ms => exact i9 k (by simpa using hk)
/-- the last level -/
theorem Hist.top {f0 f1 : List Int} {tr : List Ent} {ms : List Int} {st : List (List Int × List Int)} {q0 q1 a0 a1 : List Int} (H : Hist f0 f1 tr ms (st ++ [(a0, a1)]) q0 q1) :
    ∃ tr' ms' tre, tr = tr' ++ tre ∧ ms = ms' ++ [(tr'.length : Int)] ∧ Hist f0 f1 tr' ms' st a0 a1 ∧ undo tre 0 (ivs q0) = ivs a0 ∧ undo tre 1 (ivs q1) = ivs a1 := by
  generalize hs : st ++ [(a0, a1)] = s at H
  cases H with
  | nil => simp at hs
  | push H u0 u1 hx hl g0 g1 =>
    obtain ⟨e1, e2⟩ := List.append_inj' hs rfl
    simp only [List.cons.injEq, Prod.mk.injEq, and_true] at e2
    obtain ⟨rfl, rfl⟩ := e2
    subst e1
    exact ⟨_, _, _, rfl, rfl, H, u0, u1⟩
open PyProof.Rows.LCg
theorem rows_C12_0 : True := by
  k_with_none
  w_top off
  trivial
/-! comprehensions with an invariant -/
section
variable {prog : Program} {w : World} {A : Around} {E : Value → Shared → Prop} {s : Shared} {h₀ : Heap} {L : Addr} {m : Str → Option Value} {env : Env}
theorem restT_inv {ct elt : PySem.Expr} {x : Str} {scope : Scope} {cl : List (Str × Addr)} {S : Led → Prop} {P : Nat → Value → Prop} {Fin : List Value → Led → Prop} {n : Nat} {news : Led} (Inv : Nat → List Value → Led → Prop)
    (h0 : Inv 0 [] news)
    (turn : ∀ i v ys nw I oI C oC D m₂ h tk (E' : Value → Shared → Prop), i < n → P i v → Inv i ys nw → NsObj oC m₂ → m₂ x = some v → Fr h₀ L h m → News h₀ L h ((I, oI) :: (C, oC) :: (D, lst ys) :: nw) → (∀ p ∈ nw, p.1 ≠ I ∧ p.1 ≠ C ∧ p.1 ≠ D) → ((@Ne Nat I C) ∧ (@Ne Nat I D) ∧ (@Ne Nat C D)) →
      wpAny (model prog w) A (isTrue ct (compEnvC scope cl C env) (eval ct (compEnvC scope cl C env))) (fun ok s' => if ok = true then
        wpAny (model prog w) A (eval elt (compEnvC scope cl C env)) (CompEnd h₀ L m { s with heap := h, toks := tk } I oI C oC D (lst ys) S (fun y nw' => Inv (i + 1) (ys ++ [y]) nw')) E' s'
        else CompEnd h₀ L m { s with heap := h, toks := tk } I oI C oC D (lst ys) S (fun _ nw' => Inv (i + 1) ys nw') Value.none s') E' { s with heap := h, toks := tk })
    (fin : ∀ ys nw, Inv n ys nw → Fin ys nw) : LCt.CompRestT prog w A h₀ L m env ct elt x scope cl s S P Fin n 0 [] news := by
  have key : ∀ (j i : Nat) ys nw, i + j = n → Inv i ys nw → LCt.CompRestT prog w A h₀ L m env ct elt x scope cl s S P Fin j i ys nw := by
    intro j
    induction j with
    | zero => intro i ys nw hi hj; obtain rfl : i = n := by omega
              exact LCt.CompRestT.zero (fin ys nw hj)
    | succ j ih =>
      intro i ys nw hi hj
      refine LCt.CompRestT.succ ?_
      intro v I oI C oC D m₂ h tk E' hv hC hx F N off ne
      refine wpAny_mono (turn i v ys nw I oI C oC D m₂ h tk E' (by omega) hv hj hC hx F N off.mem ne) (fun b s₂ hq => ?_) fun _ _ e => e
      cases b with
      | true =>
        simp only [if_true] at hq ⊢
        refine wpAny_mono hq (fun y s₃ hr => ?_) fun _ _ e => e
        obtain ⟨h', tk', nw', e, F', N', off', hS, hI⟩ := hr
        exact ⟨h', tk', nw', e, F', N', off', hS, ih (i + 1) _ _ (by omega) hI⟩
      | false =>
        simp only [Bool.false_eq_true, if_false] at hq ⊢
        obtain ⟨h', tk', nw', e, F', N', off', hS, hI⟩ := hq
        exact ⟨h', tk', nw', e, F', N', off', hS, ih (i + 1) _ _ (by omega) hI⟩
  exact key n 0 [] news (by omega) h0
theorem rest_inv {elt : PySem.Expr} {x : Str} {scope : Scope} {cl : List (Str × Addr)} {S : Led → Prop} {P : Nat → Value → Prop} {Fin : List Value → Led → Prop} {n : Nat} {news : Led} (Inv : Nat → List Value → Led → Prop)
    (h0 : Inv 0 [] news)
    (turn : ∀ i v ys nw I oI C oC D m₂ h tk (E' : Value → Shared → Prop), i < n → P i v → Inv i ys nw → NsObj oC m₂ → m₂ x = some v → Fr h₀ L h m → News h₀ L h ((I, oI) :: (C, oC) :: (D, lst ys) :: nw) → (∀ p ∈ nw, p.1 ≠ I ∧ p.1 ≠ C ∧ p.1 ≠ D) → ((@Ne Nat I C) ∧ (@Ne Nat I D) ∧ (@Ne Nat C D)) →
      wpAny (model prog w) A (eval elt (compEnvC scope cl C env)) (CompEnd h₀ L m { s with heap := h, toks := tk } I oI C oC D (lst ys) S (fun y nw' => Inv (i + 1) (ys ++ [y]) nw')) E' { s with heap := h, toks := tk })
    (fin : ∀ ys nw, Inv n ys nw → Fin ys nw) : CompRest prog w A h₀ L m env elt x scope cl s S P Fin n 0 [] news := by
  have key : ∀ (j i : Nat) ys nw, i + j = n → Inv i ys nw → CompRest prog w A h₀ L m env elt x scope cl s S P Fin j i ys nw := by
    intro j
    induction j with
    | zero => intro i ys nw hi hj; obtain rfl : i = n := by omega
              exact CompRest.zero (fin ys nw hj)
    | succ j ih =>
      intro i ys nw hi hj
      refine CompRest.succ ?_
      intro v I oI C oC D m₂ h tk E' hv hC hx F N off ne
      refine wpAny_mono (turn i v ys nw I oI C oC D m₂ h tk E' (by omega) hv hj hC hx F N off.mem ne) (fun y s₃ hr => ?_) fun _ _ e => e
      obtain ⟨h', tk', nw', e, F', N', off', hS, hI⟩ := hr
      exact ⟨h', tk', nw', e, F', N', off', hS, ih (i + 1) _ _ (by omega) hI⟩
  exact key n 0 [] news (by omega) h0
/-- a comprehension over a tuple of the ledger, with no test -/
def TupSrc (prog : Program) (w : World) (A : Around) (h₀ : Heap) (L : Addr) (m : Str → Option Value) (env : Env) (elt : PySem.Expr) (x : Str) (scope : Scope) (cl : List (Str × Addr)) (Q : Value → Shared → Prop) (xv : Value) (s₁ : Shared) : Prop :=
  ∃ (ax : Addr) (its : Array Value) (k : Nat) (news : Led), xv = .ref ax ∧ A.handled = none ∧ Fr h₀ L s₁.heap m ∧ News h₀ L s₁.heap news ∧ its.size ≤ sizeLine ∧ (ax, ({ cls := .type "tuple", data := .seq its k } : Obj)) ∈ news ∧
    ∀ s₂ : Shared, (∃ h, s₂ = { s₁ with heap := h }) → CompRest prog w A h₀ L m env elt x scope cl s₂ (fun nw => ∃ k, (ax, ({ cls := .type "tuple", data := .seq its k } : Obj)) ∈ nw) (fun i v => its[i]? = some v) (FinE h₀ L m s₂ Q) its.size 0 [] news
theorem tup_st {ax I : Addr} {its : Array Value} : ∀ i (h h' : Heap) (o : Obj) (nw : Led), (h.IsTupleIter I ax i ∧ h.IsTuple ax its) → h.get? I = some o → h'.get? I = some o → (∀ b o, h₀.get? b = some o → h'.get? b = some o) → News h₀ L h' nw → (∃ k, (ax, ({ cls := .type "tuple", data := .seq its k } : Obj)) ∈ nw) → (h'.IsTupleIter I ax i ∧ h'.IsTuple ax its) := by
  rintro i h h' o nw ⟨⟨o', q, r⟩, _⟩ e e' _ N ⟨k, hm⟩
  obtain rfl : o = o' := Option.some.inj (e.symm.trans q)
  exact ⟨⟨o, e', r⟩, ⟨_, (N _ hm).1, rfl, k, rfl⟩⟩
theorem ListComp_tup {elt iter : PySem.Expr} {x : Str} {px : Pos} {scope : Scope} {cl : List (Str × Addr)} {pos : Pos} {Q : Value → Shared → Prop} (_F₀ : Fr h₀ L s.heap m)
    (hclos : closureFor scope env = pure cl) (hcell : ∀ y ∈ scope.names, y.2 ≠ .cell) (hkind : scope.kind = .function)
    (hnames : ∀ y ∈ scope.names, y.2 = .local → scope.names.lookup y.1 = some .local) (hx : scope.names.lookup x = some .local)
    (h : wpAny (model prog w) A (eval iter env) (TupSrc prog w A h₀ L m env elt x scope cl Q) E s)
    (hs : ∀ x, foldedSetIterable iter env x = pure x := by intro _; rfl) :
    wpAny (model prog w) A (eval (.ListComp elt [⟨.Name x px, iter, [], 0⟩] scope pos) env) Q E s := by
  rw [eval_ListComp]
  refine wpAny_comprehension_free (use := none) rfl hs hclos hkind hnames (wpAny_mono h (fun v z hz => ?_) fun _ _ e => e)
  obtain ⟨ax, its, k, news, rfl, hh, F, N, hsz, hm, R⟩ := hz
  have eax := (N _ hm).1
  have lax : ax < z.heap.objs.size := Heap.lt_size eax
  refine wpAny_pyIter_tuple ⟨_, eax, rfl, k, rfl⟩ ?_
  have upH : ∀ b o, z.heap.get? b = some o → (z.heap.push { cls := .type "tuple_iterator", data := .fields #[.ref ax, .int 0 0] }).get? b = some o := fun _ _ => Heap.get?_push_of_some _
  have inside : ∀ b ∈ [z.heap.objs.size, ax], b < (z.heap.push { cls := .type "tuple_iterator", data := .fields #[.ref ax, .int 0 0] }).objs.size := by
    rw [Heap.size_push]
    exact List.forall_mem_cons.mpr ⟨Nat.lt_succ_self _, fun b hb => List.mem_singleton.mp hb ▸ Nat.lt_succ_of_lt lax⟩
  refine block_U (S := fun nw => ∃ k, (ax, ({ cls := .type "tuple", data := .seq its k } : Obj)) ∈ nw) (Walks.tuple hh z.heap.objs.size ax (Nat.ne_of_lt lax) its) hsz (fun _ _ st => st.1.imp fun _ e => e.1) tup_st hcell hkind hx
    ⟨⟨_, Heap.get?_push_size _ rfl, rfl, rfl⟩, ⟨_, upH _ _ eax, rfl, k, rfl⟩⟩ inside (F.keeps upH) (N.grown upH) (Nat.ne_of_lt F.ns.lt) (next_is_new F) N.apart ⟨k, hm⟩ (R _ ⟨_, rfl⟩) ?_
  exact fun D C h tk q ys nw F' N' o1 hq c0 _ cl _ cd off fin => ⟨q, hq, fun g same => (left_cells cl c0 cd F' N' off same).elim fun F₂ N₂ => fin D g tk F₂ N₂ o1⟩
end
theorem draw_c {w : World} {fd ca : Addr} {o : Obj} {vs : List Value} {cells : List Int} {k : Int} {tm : Tok} {many : Int} {news others : Led} {nn : Nat}
  (P : Pull fd o news others) (hca : (ca, listOf vs.toArray nn) ∈ others) (ho : FeedO w o ca k) (hi : IntsAre vs cells) (hm1 : 1 ≤ many) (hm2 : many ≤ 20) (hk1 : 0 ≤ k) (hk2 : k < 1000) (hln : cells.length ≤ 60) :
  Call w 2 276 [.ref fd, .int many tm] news (fun r nw => ∃ v t o', r = .int v t ∧ 0 ≤ v ∧ v < many ∧ nw = (fd, o') :: others ∧ FeedO w o' ca (k + 1)) := by
  obtain ⟨t, ho⟩ := ho
  exact Call.sub (draw_c0 hca P.off ho hi hm1 hm2 hk1 hk2 hln) P.sub
theorem rows_C12_1 : True := by
  k_with "LT9" => (first | (with_reducible assumption) | (refine' ltM ?lt1 ?lt2; (case lt1 => (with_reducible assumption)); (case lt2 => (repeat (first | exact List.Mem.head _ | refine List.Mem.tail _ ?_)); done)) | (refine' ltT ?lt0 ?lt1 ?lt2; (case lt0 => (with_reducible assumption)); (case lt1 => (with_reducible assumption)); (case lt2 => (repeat (first | exact List.Mem.head _ | refine List.Mem.tail _ ?_)); done)) | fail "LT9")
  k_with "k_ne" => (first | (with_reducible assumption) | (refine' Ne.symm ?ne1; (case ne1 => (with_reducible assumption))) | (refine neG ?_; walk_at "LT9") | (refine neL ?_; walk_at "LT9") | (refine neS ?_; walk_at "LT9") | (refine neT ?_; walk_at "LT9") | (refine neS2 ?_; walk_at "LT9") | (refine neT2 ?_; walk_at "LT9") | (refine neS3 ?_; walk_at "LT9") | (refine neT3 ?_; walk_at "LT9") | (refine' neM (l := _ :: _) ?lt1 ?lt2; (case lt1 => (with_reducible assumption)); (case lt2 => (repeat (first | exact List.Mem.head _ | refine List.Mem.tail _ ?_)); done)) | (refine' neN (l := _ :: _) ?lt1 ?lt2; (case lt1 => (with_reducible assumption)); (case lt2 => (repeat (first | exact List.Mem.head _ | refine List.Mem.tail _ ?_)); done)) | exact nc12 | exact nc21 | exact nc13 | exact nc31 | exact nc23 | exact nc32 | fail "k_ne")
  k_with "ktr_room" => (first | (rename (_ + _ < recursionLimit) => zzh9; first | exact rmU 0 zzh9 rfl rfl | exact rmU 1 zzh9 rfl rfl | exact rmU 2 zzh9 rfl rfl | exact rmU 3 zzh9 rfl rfl | exact rmU 4 zzh9 rfl rfl | exact rmU 5 zzh9 rfl rfl | exact rmU 6 zzh9 rfl rfl | exact rmU 7 zzh9 rfl rfl | exact rmU 8 zzh9 rfl rfl | exact rmU 9 zzh9 rfl rfl) | exact ltB rfl)
  k_with "ktr_units" => (first | (rename (_ + _ + _ < cLine) => zzh9; first | exact umU 0 zzh9 rfl rfl | exact umU 3 zzh9 rfl rfl | exact umU 6 zzh9 rfl rfl | exact umU 9 zzh9 rfl rfl | exact umU 12 zzh9 rfl rfl | exact umU 1 zzh9 rfl rfl | exact umU 4 zzh9 rfl rfl | exact umU 7 zzh9 rfl rfl | exact umU 10 zzh9 rfl rfl | exact umU 2 zzh9 rfl rfl | exact umU 5 zzh9 rfl rfl | exact umU 8 zzh9 rfl rfl | exact umU 11 zzh9 rfl rfl | exact umU 13 zzh9 rfl rfl | exact umU 14 zzh9 rfl rfl | exact umU 15 zzh9 rfl rfl | exact umV 0 zzh9 rfl rfl | exact umV 3 zzh9 rfl rfl | exact umV 6 zzh9 rfl rfl | exact umV 9 zzh9 rfl rfl | exact umV 12 zzh9 rfl rfl | exact umV 1 zzh9 rfl rfl | exact umV 4 zzh9 rfl rfl | exact umV 7 zzh9 rfl rfl | exact umV 10 zzh9 rfl rfl | exact umV 2 zzh9 rfl rfl | exact umV 5 zzh9 rfl rfl | exact umV 8 zzh9 rfl rfl | exact umV 11 zzh9 rfl rfl | exact umV 13 zzh9 rfl rfl | exact umV 14 zzh9 rfl rfl | exact umV 15 zzh9 rfl rfl) | exact ltB rfl)
  k_with "OM" => (first | (with_reducible assumption) | exact Nat.zero_le _ | (refine' leB ?om1 ?om2; (case om1 => (with_reducible assumption)); (case om2 => (fail_if_success (fail_if_success decide)); exact rfl)) | (refine' leS ?om1 ?om2; (case om1 => (with_reducible assumption)); (case om2 => (fail_if_success (fail_if_success decide)); exact rfl)) | (with_reducible refine' ltL ?om1 ?om2; (case om1 => (with_reducible assumption)); (case om2 => (fail_if_success (fail_if_success decide)); exact rfl)) | ((fail_if_success (fail_if_success decide)); exact ltB rfl) | (refine' i0_1 ?om1; (case om1 => (with_reducible assumption))) | (refine' i0_2 ?om1; (case om1 => (with_reducible assumption))) | (refine' i0_3 ?om1; (case om1 => (with_reducible assumption))) | (refine' il_0 ?om1 ?om2; (case om1 => (with_reducible assumption)); (case om2 => decide)) | (refine' il_1 ?om1 ?om2; (case om1 => (with_reducible assumption)); (case om2 => decide)) | (refine' il_2 ?om1 ?om2; (case om1 => (with_reducible assumption)); (case om2 => decide)) | (refine' il_3 ?om1 ?om2; (case om1 => (with_reducible assumption)); (case om2 => decide)) | exact ia_3 | exact ia_5 | exact ic_0 | decide | omega)
  k_with "k_all" => (first
  | (with_reducible assumption)
  | (refine' OffL.out ?ko1; (case ko1 => (with_reducible assumption)))
  | (refine' offA ?ko1; (case ko1 => (with_reducible assumption)))
  | (refine' TailIs.offAtL ?ko1 ?ko2 ?ko3; (case ko1 => (with_reducible assumption)); (case ko2 => (with_reducible assumption)); (case ko3 => (with_reducible assumption)))
  | (refine' offC ?ka1 ?ka2; (case ka1 => first | (refine' Apart.l ?kp1; (case kp1 => (with_reducible assumption))) | (refine' Apart.r ?kp1; (case kp1 => (with_reducible assumption))) | k_ne); (case ka2 => k_all))
  | assumption)
  k_with "k_upd" => (first | (refine' Upd.head ?ku1; (case ku1 => k_all)) | (refine' Upd.tail ?ku1 ?ku2; (case ku1 => first | (refine' Apart.l ?kp1; (case kp1 => (with_reducible assumption))) | (refine' Apart.r ?kp1; (case kp1 => (with_reducible assumption))) | k_ne); (case ku2 => k_upd)) | fail "k_upd")
  k_with "k_updF" => (first | (refine' Pull.head ?kf1; (case kf1 => k_all)) | (refine' Pull.tail ?_ ?kf2; (case kf2 => k_updF); (first | (refine' Apart.l ?kp1; (case kp1 => (with_reducible assumption))) | (refine' Apart.r ?kp1; (case kp1 => (with_reducible assumption))) | k_ne)) | (refine' UpdF.head ?kf1; (case kf1 => k_all)) | (refine' UpdF.tail ?_ ?kf2; (case kf2 => k_updF); (first | (refine' Apart.l ?kp1; (case kp1 => (with_reducible assumption))) | (refine' Apart.r ?kp1; (case kp1 => (with_reducible assumption))) | k_ne)) | fail "k_updF")
  k_with "k_mem" => (first | (refine mem_of ?_; (with_reducible assumption)) | (refine mem_of ?_; refine' TailIs.sub ?km1 _ ?km2; (case km1 => first | (refine' TailIs.rebase ?tr1; (case tr1 => (with_reducible assumption))) | (refine' TailIs.at ?tr1 _; (case tr1 => (with_reducible assumption)))); (case km2 => (with_reducible assumption))) | fail "k_mem")
  k_with "call builtin:len" => ((k_here; (with_reducible show wpAny _ _ (call (Value.builtin "len") [Value.ref _]) _ _ _); k_dflt (refine' len_ints_fit (News.isList ?n ?m) ?i ?f ?_; (case n => k_asm); (case m => k_mem); (case i => (with_reducible assumption)); (case f => k_extra "OM"); k_whole)))
  k_with "subscriptTail Name Name ref int" => ((k_here; (with_reducible show wpAny _ _ (subscriptTail _ _ (Value.ref _) (Value.int _ _)) _ _ _); (with_unfolding_all refine' item_list_ints (News.isList ?n ?m) ?k2 ?k3 ?k4 ?k5 ?_; (case n => k_asm); (case m => k_mem); (case k2 => (with_reducible assumption)); (case k3 => k_extra "OM"); (case k4 => k_extra "OM"); (case k5 => k_extra "OM"); k_whole); intro _))
  k_with "k_enter" => (first
  | (refine' code_def ?k1 ?k2 ?k3 ?k4 ?k5 ?kA ?kF ?kK ?k6 ?k7 ?k8 ?k9 ?kB ?_ ?c2 ?c3 ?c4 ?c5; (case kA => exact rfl); (case kF => exact rfl); (case kK => first | exact rfl | (with_reducible assumption)); (case k1 => k_asm); (case k2 => k_asm); (case k3 => k_asm); (case k4 => k_asm); (case k5 => k_asm); (case k6 => k_is); (case k7 => k_is); (case k8 => ktr_room); (case k9 => first | exact BindsTo.of_eq rfl | exact binds_K (by k_in) rfl (by k_is) rfl rfl rfl | fail "k_enter: no rule for these arguments"); (case c5 => decide); (case kB => exact locs rfl); (case c2 => exact rfl); (case c3 => exact rfl); (case c4 => exact rfl); k_whole; intro _ _ _ _ _ zzN' _ _ _; (try dsimp only); (try k_fold))
  | (refine' code_defC ?k1 ?k2 ?k3 ?k4 ?k5 ?kA ?kF ?kK ?k6 ?k7 ?k8 ?k9 ?kB ?kD ?_ ?c2 ?c3 ?c4; (case kA => exact rfl); (case kF => exact rfl); (case kK => first | exact rfl | (with_reducible assumption)); (case k1 => k_asm); (case k2 => k_asm); (case k3 => k_asm); (case k4 => k_asm); (case k5 => k_asm); (case k6 => k_is); (case k7 => k_is); (case k8 => ktr_room); (case k9 => first | exact BindsTo.of_eq rfl | exact binds_K (by k_in) rfl (by k_is) rfl rfl rfl | fail "k_enter: no rule for these arguments"); (case kB => exact rfl); (case kD => decide +kernel); (case c2 => exact rfl); (case c3 => exact rfl); (case c4 => exact rfl); k_whole; intro _ _ _ _ _ _ _ zzN' zzY' _ _ _ zzl1; revert zzl1; intro _; (have _ := Mk9.mk); k_cells zzY'; (try (simp only [List.cons_append, List.nil_append] at zzN'; revert zzN'; intro _)); (try dsimp only); (try k_fold)))
  k_with "call type:tuple" => ((k_here; (with_reducible show wpAny _ _ (call (Value.type _) [Value.ref _]) _ _ _); k_dflt (refine' kde_tupleOf ?k1 ?k2 (News.isList ?k3 ?k6) ?k4 ?k5 ?_; (case k1 => k_asm); (case k2 => k_asm); (case k3 => k_asm); (case k6 => k_mem); (case k4 => (simp only [List.size_toArray]; k_extra "OM")); (case k5 => exact rfl); k_whole); intro _ _ _ _ zzl1; revert zzl1; intro _; (have _ := Mk9.mk); (try k_sweep)))
  k_with "tb_rel" => (first | (refine' TailIs.rebase ?tr1; (case tr1 => (with_reducible assumption))) | (refine' TailIs.at ?tr1 _; (case tr1 => (with_reducible assumption))) | (refine' TailIs.moveT ?tb1; (case tb1 => tb_rel)) | (refine' TailIs.cons ?tb1; (case tb1 => tb_rel)) | exact TailIs.nil)
  trivial
-- every old address stands in the ledger
theorem rows_C12_2 : True := by
  k_with "kcf_m" => (first
  | (refine' covC ?kc1 ?kc2; (case kc1 => k_mem); (case kc2 => kcf_m))
  | exact List.forall_mem_nil _
  | (intro zzq9 zzhq9; refine ⟨Prod.snd zzq9, ?_⟩; repeat (first | exact zzhq9 | (refine' TailIs.coverAt ?tc1 (Run.sub ?tc2) zzq9 zzhq9; (case tc1 => (with_reducible assumption)); (case tc2 => (with_reducible assumption))) | refine List.mem_cons_of_mem _ ?_)))
  trivial
-- what is made here is none of the old
theorem rows_C12_3 : True := by
  k_with "kcf_all" => ((intro zzq9 zzhq9 zzho9; repeat (first | exact zzho9 | refine List.forall_mem_cons.mpr ⟨tmp_ne (by (with_reducible assumption)) (by kcf_m) zzq9 zzhq9, ?_⟩)))
  k_with "tb_start" => ((
  (rename Grow _ _ _ _ => zzG9)
  (have zzgB9 := Grow.base zzG9)
  (repeat (rename Run _ _ (Grow.R zzG9) => zzR9; have _ := Run.step zzR9 zzG9 (by kcf_m) (by kcf_all); clear zzR9))
  (repeat (rename DatIn (Grow.R zzG9) _ _ => zzhX9; have _ := DatIn.mono zzgB9 zzhX9; clear zzhX9))
  (repeat (rename DatAll (Grow.R zzG9) _ _ => zzhX9; have _ := DatAll.mono zzgB9 zzhX9; clear zzhX9))
  (repeat (rename IntsAt (Grow.R zzG9) _ _ => zzhX9; have _ := IntsAt.mono zzhX9 zzgB9; clear zzhX9))
  (repeat (rename (_ ∈ Grow.R zzG9) => zzhX9; have _ := zzgB9 _ zzhX9; clear zzhX9))
  (repeat (rename OffL (Grow.R zzG9) _ => zzhX9; have _ := Grow.offL zzG9 zzhX9 ⟨_, by k_mem⟩ (by k_all); clear zzhX9))
  (have zzhS9 := Grow.sub zzG9; (first | refine fd_6 zzhS9 ?_ | refine fd_5 zzhS9 ?_ | refine fd_4 zzhS9 ?_ | refine fd_3 zzhS9 ?_ | refine fd_2 zzhS9 ?_ | refine fd_1 zzhS9 ?_ | refine fd_0 zzhS9 ?_); clear zzhS9)
  clear zzgB9 zzG9
  intros))
  k_with "kqd_in" => (first | (refine' DatIn.mono ?kd1 ?kd2; (case kd2 => first | (with_reducible assumption) | assumption); (case kd1 => (intro _ zzhp9; repeat (first | exact zzhp9 | (refine' TailIs.sub ?kd3 _ zzhp9; (case kd3 => first | (refine' TailIs.rebase ?tr1; (case tr1 => (with_reducible assumption))) | (refine' TailIs.at ?tr1 _; (case tr1 => (with_reducible assumption))))) | refine List.mem_cons_of_mem _ ?_)))) | fail "kqd_in")
  k_with "kqd_all" => (first | (refine' DatAll.mono ?kd1 ?kd2; (case kd2 => first | (with_reducible assumption) | assumption); (case kd1 => (intro _ zzhp9; repeat (first | exact zzhp9 | (refine' TailIs.sub ?kd3 _ zzhp9; (case kd3 => first | (refine' TailIs.rebase ?tr1; (case tr1 => (with_reducible assumption))) | (refine' TailIs.at ?tr1 _; (case tr1 => (with_reducible assumption))))) | refine List.mem_cons_of_mem _ ?_)))) | fail "kqd_all")
  k_with "compareOp Eq ref ref" => ((k_here; (with_reducible show wpAny _ _ (compareOp CmpOp.Eq (Value.ref _) (Value.ref _)) _ _ _); k_dflt (refine' dat_eq ?n9 ?da (fun _ h => h) ?db (fun _ h => h) ?oa ?ob ?u9 ?_; (case n9 => k_asm); (case da => kqd_in); (case db => kqd_in); (case oa => first | exact domD_ok _ | rfl | (with_reducible assumption)); (case ob => first | exact domD_ok _ | rfl | (with_reducible assumption)); (case u9 => ktr_units); intro _ _)))
  k_with "compareOp NotEq ref ref" => ((k_here; (with_reducible show wpAny _ _ (compareOp CmpOp.NotEq (Value.ref _) (Value.ref _)) _ _ _); k_dflt (refine' dat_ne ?n9 ?da (fun _ h => h) ?db (fun _ h => h) ?oa ?ob ?u9 ?_; (case n9 => k_asm); (case da => kqd_in); (case db => kqd_in); (case oa => first | exact domD_ok _ | rfl | (with_reducible assumption)); (case ob => first | exact domD_ok _ | rfl | (with_reducible assumption)); (case u9 => ktr_units); intro _ _)))
  k_with "call builtin:list.append" => ((k_here; (with_reducible show wpAny _ _ (call (Value.builtin _) [Value.ref _, _]) _ _ _); k_dflt (refine' append_L ?k1 ?k2 ?k3 ?z ?_; (case k1 => k_asm); (case k2 => k_asm); (case k3 => k_upd); (case z => first | k_extra "OM" | ((simp only [List.length_cons, List.length_nil, List.length_append]); k_extra "OM")); k_whole); intro _ _ _; (try k_sweep)))
  k_with "call builtin:min" => ((k_here; (with_reducible show wpAny _ _ (call (Value.builtin _) [Value.ref _]) _ _ _); k_dflt ((refine' min_L ?f9 ?n9 ?m9 ?i9 ?z9 ?h9 ?_; (case f9 => k_asm); (case n9 => k_asm); (case m9 => k_mem); (case i9 => (with_reducible assumption)); (case z9 => first | k_extra "OM" | (simp_all; k_extra "OM")); (case h9 => with_unfolding_all rfl)); intro _ _ _ _ _)))
  k_with "call builtin:max" => ((k_here; (with_reducible show wpAny _ _ (call (Value.builtin _) [Value.ref _]) _ _ _); k_dflt ((refine' max_L ?f9 ?n9 ?m9 ?i9 ?z9 ?h9 ?_; (case f9 => k_asm); (case n9 => k_asm); (case m9 => k_mem); (case i9 => (with_reducible assumption)); (case z9 => first | k_extra "OM" | (simp_all; k_extra "OM")); (case h9 => with_unfolding_all rfl)); intro _ _ _ _ _)))
  k_with "ktr_rel" => (((case n9 => k_asm); (case b9 => k_asm); (case f9 => k_asm); (case x9 => k_asm); (case t9 => k_asm); (case k9 => first | exact rfl | (with_reducible assumption)); (case d9 => ktr_room); (case u9 => ktr_units)))
  trivial
theorem rows_C12_4 : True := by
  k_with "kcf_m" => ((intro zzq9 zzhq9; refine ⟨Prod.snd zzq9, ?_⟩; (repeat (first | exact zzhq9 | exact List.mem_append_left _ zzhq9 | (refine' TailIs.coverAt ?tc1 (Run.sub ?tc2) zzq9 zzhq9; (case tc1 => (with_reducible assumption)); (case tc2 => (with_reducible assumption))) | refine List.mem_cons_of_mem _ ?_ | refine List.mem_append_right _ ?_)); done))
  k_with "call builtin:len" => ((k_here; (with_reducible show wpAny _ _ (call (Value.builtin "len") [Value.ref _]) _ _ _); k_dflt (refine' len_L ?n9 ?m9 ?z9 ?_; (case n9 => k_asm); (case m9 => k_mem); (case z9 => (first | k_extra "OM" | ((simp only [List.length_append, List.length_cons, List.length_nil]); k_extra "OM"))); k_whole)))
  k_with "exec While" => ((k_here; (with_reducible show wpAny _ _ (exec (Stmt.While _ _ _ _) _) _ _ _); refine Stop.intro ?_))
  k_with "exec While Compare" => ((k_here; (with_reducible show wpAny _ _ (exec (Stmt.While _ _ _ _) _) _ _ _); refine Stop.intro ?_))
  k_with "call builtin:list.pop" => ((k_here; (with_reducible show wpAny _ _ (call (Value.builtin _) [Value.ref _]) _ _ _); k_dflt (refine' pop_L ?f9 ?n9 ?u9 ?z9 ?_; (case f9 => k_asm); (case n9 => k_asm); (case u9 => k_upd); (case z9 => (first | k_extra "OM" | ((simp only [List.length_cons, List.length_nil, List.length_append]); k_extra "OM"))); k_whole); intro _ _ _))
  k_with "compareOp In ref ref" => ((k_here; (with_reducible show wpAny _ _ (compareOp CmpOp.In _ (Value.ref _)) _ _ _); k_dflt (refine' in_no ?n9 ?a9 ?d9 ?x9 ?l9 ?y9 ?m9 ?u9 ?_; (case n9 => k_asm); (case a9 => k_mem); (case d9 => kqd_all); (case x9 => kqd_in); (case l9 => (with_reducible assumption)); (case y9 => rfl); (case m9 => (with_reducible assumption)); (case u9 => ktr_units))))
  k_with "call ref" => ((k_here; (with_reducible show wpAny _ _ (call (Value.ref 276) _) _ _ _); k_dflt (first | ((refine' Call.cps (draw_c ?p1 ?ca ?ho ?hi ?m1 ?m2 ?k1 ?k2 ?ln) t_draw ?b9 ?f9 ?x9 ?t9 ?k9 ?d9 ?u9 ?n9 ?_; ktr_rel; (case p1 => k_updF); (case ho => (with_reducible assumption)); (case ca => k_mem); (case hi => (with_reducible assumption)); (case m1 => decide); (case m2 => decide); (case k1 => k_extra "OM"); (case k2 => k_extra "OM"); (case ln => k_extra "OM")); intro _ _ _ _ _ _ _ _ _ _) | refine Stop.intro ?_)))
  k_with "exec Assign cons ListComp" => ((k_here; (with_reducible show wpAny _ _ (exec _ _) _ _ _); refine Stop.intro ?_))
  k_with "eval ListComp" => ((k_here; (with_reducible show wpAny _ _ (eval (Expr.ListComp _ _ _ _) _) _ _ _); refine Stop.intro ?_))
  k_with "CompSrcT" => ((k_here; refine Stop.intro ?_))
  k_with "CompSrc" => ((k_here; refine Stop.intro ?_))
  k_with "CompEnd" => ((refine Stop.intro ?_))
  k_with "compareOp NotEq ref ref" => ((k_here; (with_reducible show wpAny _ _ (compareOp CmpOp.NotEq (Value.ref _) (Value.ref _)) _ _ _); k_dflt (refine' ints_ne ?n9 ?a9 ?i9 ?b9 ?j9 ?u9 ?_; (case n9 => k_asm); (case a9 => k_mem); (case b9 => k_mem); (case i9 => first | (with_reducible assumption) | exact IntsAre.nil); (case j9 => first | (with_reducible assumption) | exact IntsAre.nil); (case u9 => ktr_units); intro _ _)))
  k_with "compareOp Eq ref ref" => ((k_here; (with_reducible show wpAny _ _ (compareOp CmpOp.Eq (Value.ref _) (Value.ref _)) _ _ _); k_dflt (refine' ints_eq ?n9 ?a9 ?i9 ?b9 ?j9 ?u9 ?_; (case n9 => k_asm); (case a9 => k_mem); (case b9 => k_mem); (case i9 => first | (with_reducible assumption) | exact IntsAre.nil); (case j9 => first | (with_reducible assumption) | exact IntsAre.nil); (case u9 => ktr_units); intro _ _)))
  k_with "kqd_sub" => (first | (refine List.forall_mem_cons.mpr ⟨?kqa, ?kqb⟩; (case kqa => k_mem); (case kqb => kqd_sub)) | (intro _ zzhq9; (repeat (first | exact zzhq9 | refine List.mem_cons_of_mem _ ?_)); done))
  trivial
local macro_rules | `(tactic| kqd_sub) => `(tactic| k_extra "kqd_sub")
theorem ints_dat {r : Led} {vs : List Value} {ns : List Int} (h : IntsAre vs ns) : DatAll r vs (ns.map Dat.int) := by
  induction h with
  | nil => exact .nil
  | cons a t _ ih => exact .cons (.int a t) ih
theorem ints_ok (ns : List Int) : kqdOk 8 (Dat.list (ns.map Dat.int)) = true := by
  simp only [kqdOk, List.all_map, List.all_eq_true]
  intro p _
  rfl
theorem ints_inj {ns ms : List Int} : Dat.list (ns.map Dat.int) = Dat.list (ms.map Dat.int) ↔ ns = ms := by
  constructor
  · intro h
    injection h with h
    exact (List.map_inj_right (fun a b h => by injection h)).mp h
  · rintro rfl; rfl
section
variable {prog : Program} {w : World} {A : Around} {E : Value → Shared → Prop} {s : Shared} {h₀ : Heap} {L : Addr} {news : Led}
theorem ints_ne {a b : Addr} {vs us : List Value} {n n' : Nat} {ns ms : List Int} {Q : Value → Shared → Prop} (N : News h₀ L s.heap news) (ha : (a, listOf vs.toArray n) ∈ news) (Ia : IntsAre vs ns) (hb : (b, listOf us.toArray n') ∈ news) (Ib : IntsAre us ms) (hu : A.units + 64 < cLine)
    (h : ∀ t : Bool, (t = true ↔ ns ≠ ms) → Q (.bool t) s) : wpAny (model prog w) A (compareOp .NotEq (.ref a) (.ref b)) Q E s :=
  dat_ne N (DatIn.list ha (ints_dat Ia)) (fun _ h => h) (DatIn.list hb (ints_dat Ib)) (fun _ h => h) (ints_ok _) (ints_ok _) hu fun t ht => h t (ht.trans (not_congr ints_inj))
theorem ints_eq {a b : Addr} {vs us : List Value} {n n' : Nat} {ns ms : List Int} {Q : Value → Shared → Prop} (N : News h₀ L s.heap news) (ha : (a, listOf vs.toArray n) ∈ news) (Ia : IntsAre vs ns) (hb : (b, listOf us.toArray n') ∈ news) (Ib : IntsAre us ms) (hu : A.units + 64 < cLine)
    (h : ∀ t : Bool, (t = true ↔ ns = ms) → Q (.bool t) s) : wpAny (model prog w) A (compareOp .Eq (.ref a) (.ref b)) Q E s :=
  dat_eq N (DatIn.list ha (ints_dat Ia)) (fun _ h => h) (DatIn.list hb (ints_dat Ib)) (fun _ h => h) (ints_ok _) (ints_ok _) hu fun t ht => h t (ht.trans ints_inj)
end
theorem off1_mem {d : Addr} : ∀ {l : Led}, Off1 d l → ∀ q ∈ l, q.1 ≠ d
  | [], _ => fun _ h => nomatch h
  | _ :: _, hx => fun q hq => by
    rcases List.mem_cons.mp hq with rfl | hq
    · exact hx.1
    · exact off1_mem hx.2 q hq
/-- a made object is laid to the frozen part, behind one entry that has turned -/
theorem freezeL {h₀ h : Heap} {L T fd : Addr} {o o2 ob : Obj} {others r0 rest l : Led} {g : Led → Led} (TI : TailIs others r0 rest g) (N : News h₀ L h l) (hT : (T, ob) ∈ l) (hf : (fd, o2) ∈ l) (ho : ∀ p ∈ others, p ∈ l)
    (h1 : fd ≠ T) (h2 : ∀ p ∈ others, p.1 ≠ T) : News h₀ L h ((fd, o2) :: g ((T, ob) :: rest)) ∧ Grow ((fd, o) :: others) r0 rest ((T, ob) :: rest) := by
  obtain ⟨ex, hex, hen⟩ := TI.split
  constructor
  · refine List.forall_mem_cons.mpr ⟨N _ hf, ?_⟩
    exact done_pure (new := [(T, ob)]) hex hen TI.sub N (fun p hp => by rw [List.mem_singleton.mp hp]; exact hT) ho
  · refine grow_new (new := [(T, ob)]) (TailIs.cons (p := (fd, o)) TI) fun p hp q hq => ?_
    rw [List.mem_singleton.mp hp]
    rcases List.mem_cons.mp hq with e | hq
    · rw [e]; exact Ne.symm h1
    · exact Ne.symm (h2 q hq)
theorem drawn_c0 {w : World} {fd ca : Addr} {o : Obj} {vs : List Value} {cells : List Int} {k : Int} {nn : Nat} {others r0 rest : Led} {g : Led → Led}
  (TI : TailIs others r0 rest g) (hca : (ca, listOf vs.toArray nn) ∈ rest) (ho : FeedO w o ca k) (hi : IntsAre vs cells) (hk1 : 0 ≤ k) (hk2 : k < 900) (hln : cells.length ≤ 60) (o1 : OffL others fd) :
  Call w 4 288 [.ref fd] ((fd, o) :: others) (fun r nw => ∃ ra o' rest' ns, r = .ref ra ∧ nw = (fd, o') :: g rest' ∧ Grow ((fd, o) :: others) r0 rest rest' ∧ FeedO w o' ca (k + 8) ∧ IntsAt rest' ra ns ∧ ns ≠ [] ∧ ns.Pairwise (· < ·) ∧ ∀ v ∈ ns, 0 ≤ v ∧ v < 8) := by
  intro p loose mean mg mb dp un gd cn cs a ccd cl outer A₀ base h₀ L m s Q E B F X T hk hd hu N hret
  revert X; k_fill; intro X
  have q1 : OffL rest fd := fun p hp => o1 p (TI.sub p hp)
  w_strict (
    refine wpAny_call ?_
    k_dflt k_enter
    k_steps
    unfold Stop
    k_dflt (refine LCt.Assign_ListComp_T (F₀ := by k_asm) (by rfl) (by with_unfolding_all rfl) (by with_unfolding_all rfl) (by decide) (by rfl) (by decide) (by rfl) (by rfl) (by rfl) ?_)
    k_steps
    unfold Stop
    (rename Fr _ _ _ _ => F1; rename News _ _ _ _ => N1; rename IsRange _ _ _ _ _ _ _ _ => R1)
    rename_i L9 _ _ _ _ _ _ _ l9 _ oc d1 _ _ _ _ _ _ _
    have d1' : oc.data = .cell (some (.ref fd)) := d1
    clear d1
    refine LCt.CompSrcT.range rfl F1 N1 R1 (by decide) (n := 8) rfl (by rw [sizeLine_eq]; decide) fun g8 => restT_inv (fun i ys nw => ∃ o2 ns, nw = (L9 + 1, oc) :: (fd, o2) :: others ∧ FeedO w o2 ca (k + i) ∧ IntsAre ys ns ∧ ns.Pairwise (· < ·) ∧ ∀ v ∈ ns, 0 ≤ v ∧ v < i) ⟨o, [], rfl, by simpa using ho, .nil, .nil, by simp⟩ ?_ ?_
    · clear F1 N1 R1
      rintro i v ys nw I oI C oC D m₂ h tk E' hi8 ⟨tv, rfl⟩ ⟨o2, ns, rfl, ho2, hys, hpw, hlt⟩ hC hx F2 N2 off ne
      obtain ⟨a1, a2, a3⟩ : (@Ne Nat fd I) ∧ (@Ne Nat fd C) ∧ (@Ne Nat fd D) := off _ (.tail _ (.head _))
      obtain ⟨a4, a5, a6⟩ : (@Ne Nat (L9 + 1) I) ∧ (@Ne Nat (L9 + 1) C) ∧ (@Ne Nat (L9 + 1) D) := off _ (.head _)
      have hfl : @LT.lt Nat _ fd L9 := l9 _ (.head _)
      k_steps
      all_goals (unfold Stop; (rename Fr _ _ _ _ => F9; rename News _ _ _ _ => N9; rename FeedO _ _ _ _ => ho9; rename_i o9 _ _ _))
      all_goals have e9 : k + ((i + 1 : Nat) : Int) = k + i + 1 := by k_extra "OM"
      · refine CompEnd.intro F9 N9 ((L9 + 1, oc) :: (fd, o9) :: others) (by kqd_sub) ⟨⟨a4, a5, a6⟩, ⟨a1, a2, a3⟩, Off3.of fun p hp => off p (.tail _ (.tail _ hp))⟩ trivial ⟨o9, ns ++ [0 + (i : Int)], rfl, by rw [e9]; exact ho9, IntsAre.append hys (.cons _ _ .nil), ?_, ?_⟩
        · refine List.pairwise_append.mpr ⟨hpw, List.pairwise_singleton .., fun a ha b hb => ?_⟩
          rw [List.mem_singleton.mp hb]; have := hlt a ha; k_extra "OM"
        · intro v hv
          rcases List.mem_append.mp hv with hv | hv
          · have := hlt v hv; k_extra "OM"
          · rw [List.mem_singleton.mp hv]; k_extra "OM"
      · refine CompEnd.intro F9 N9 ((L9 + 1, oc) :: (fd, o9) :: others) (by kqd_sub) ⟨⟨a4, a5, a6⟩, ⟨a1, a2, a3⟩, Off3.of fun p hp => off p (.tail _ (.tail _ hp))⟩ trivial ⟨o9, ns, rfl, by rw [e9]; exact ho9, hys, hpw, fun v hv => by have := hlt v hv; k_extra "OM"⟩
    · rintro ys nw ⟨o2, ns, rfl, ho2, hys, hpw, hlt⟩
      unfold FinA
      intro D h tk F2 N2 o2'
      dsimp only
      walk1
      walk1
      walk1
      walk1
      walk1
      walk1
      walk1
      walk1
      k_dflt (refine' ints_ne ?n9 ?a9 ?i9 ?b9 ?j9 ?u9 ?_; (case n9 => k_asm); (case a9 => k_mem); (case b9 => k_mem); (case i9 => assumption); (case j9 => exact IntsAre.nil); (case u9 => ktr_units); intro t9 ht9)
      walk1
      walk1
      k_steps
      all_goals ((rename Fr h₀ _ _ _ => F9; rename News h₀ _ _ _ => N9))
      · have q9 := off1_mem o2'
        obtain ⟨N8, G8⟩ := freezeL (o := o) TI N9 (T := D) (ob := lst ys) (fd := fd) (o2 := o2) (by k_mem) (by k_mem) (by kqd_sub) (q9 (fd, o2) (.tail _ (.head _))) (fun p hp => q9 p (.tail _ (.tail _ hp)))
        exact hret _ _ _ _ F9 N8 ⟨D, o2, _, ns, rfl, rfl, G8, by simpa using ho2, ⟨ys, _, .head _, hys⟩, ht9.mp (by assumption), hpw, hlt⟩
      · (rename (∀ _ ∈ ((_, lst _) :: _), _) => hL9)
        rename_i l9 _ _ _ _ _ _
        obtain ⟨N8, G8⟩ := freezeL (o := o) TI N9 (T := l9) (fd := fd) (o2 := o2) (List.Mem.head _) (by k_mem) (by kqd_sub) (by k_ne) (fun p hp => Nat.ne_of_lt (hL9 p (by repeat (first | exact hp | refine List.mem_cons_of_mem _ ?_))))
        exact hret _ _ _ _ F9 N8 ⟨_, o2, _, [5], rfl, rfl, G8, by simpa using ho2, ⟨_, _, .head _, .cons _ _ .nil⟩, by simp, by simp, by simp⟩)
theorem rows_C13_0 : True := by
  k_with_none
  w_top off
  trivial
theorem bool_no {t : Bool} {P : Prop} (h : t = true ↔ P) (n : ¬ P) : t = false := by
  cases t with
  | false => rfl
  | true => exact absurd (h.mp rfl) n
/-- a parting of the ledger at which the entry at a is frozen -/
structure TailFor (_a : Addr) (l r0 r : Led) (g : Led → Led) : Prop where
  is : TailIs l r0 r g
theorem TailFor.nil {a : Addr} {r : Led} : TailFor a r r r (fun x => x) := ⟨.nil⟩
theorem TailFor.cons {a : Addr} {p : Addr × Obj} {l r0 r : Led} {g : Led → Led} (h : TailFor a l r0 r g) : TailFor a (p :: l) r0 r (fun x => p :: g x) := ⟨.cons h.is⟩
theorem TailFor.moveT {x a : Addr} {vs : Array Value} {n : Nat} {l r0 r : Led} {g : Led → Led} (h : TailFor x l r0 r g) : TailFor x ((a, ({ cls := .type "tuple", data := .seq vs n } : Obj)) :: l) r0 ((a, ({ cls := .type "tuple", data := .seq vs n } : Obj)) :: r) g := ⟨.move h.is⟩
theorem TailFor.moveA {a : Addr} {o : Obj} {l r0 r : Led} {g : Led → Led} (h : TailFor a l r0 r g) : TailFor a ((a, o) :: l) r0 ((a, o) :: r) g := ⟨.move h.is⟩
theorem TailFor.rebase {a : Addr} {l r0 r : Led} {g : Led → Led} (h : TailIs l r0 r g) : TailFor a l r r g := ⟨.rebase h⟩
theorem TailFor.at {a : Addr} {l r0 r : Led} {g : Led → Led} (h : TailIs l r0 r g) (x : Led) : TailFor a (g x) x x g := ⟨.at h x⟩
theorem TailFor.pre {a : Addr} {ex l r0 r : Led} {g : Led → Led} (h : TailFor a l r0 r g) : TailFor a (ex ++ l) r0 r (fun x => ex ++ g x) := ⟨.pre h.is⟩
theorem fromValues_f {w : World} {la : Addr} {nv : List Value} {nn : Nat} {ns : List Int} {news r0 rest : Led} {g : Led → Led}
  (TI : TailFor la news r0 rest g) (hln : (la, listOf nv.toArray nn) ∈ rest) (hi : IntsAre nv ns) (hns : ns.length < 64) (hs : ns.Pairwise (· < ·)) :
  Call w 4 42 [.ref la] news (fun r nw => ∃ ra rest', r = .ref ra ∧ nw = g rest' ∧ Grow news r0 rest rest' ∧ DatIn rest' (.ref ra) (domD (ivs ns))) := fromValues_c TI.is hln hi hns hs
section
variable {prog : Program} {w : World} {A : Around} {E : Value → Shared → Prop} {s : Shared} {h₀ : Heap} {L D : Addr} {m : Str → Option Value} {news news' : Led}
theorem item_tup {value slice : PySem.Expr} {vs : List Value} {x : Value} {k : Int} {u : Tok} {n : Nat} {Q : Value → Shared → Prop} (N : News h₀ L s.heap news) (hm : (D, tupO vs n) ∈ news) (hx : vs[k.toNat]? = some x) (h0 : 0 ≤ k) (hz : k < 2 ^ 63) (h : Q x s)
    (hs : subscripted slice false (.ref D) (.int k u) = operate [.ref D, .int k u] (getItem (.ref D) (.int k u)) := by with_unfolding_all rfl) :
    wpAny (model prog w) A (subscriptTail value slice (.ref D) (.int k u)) Q E s :=
  item_tupleT (News.isTup N hm) (by omega) hz (seqIndex_of h0 (by have := (List.getElem?_eq_some_iff.mp hx).1; omega)) hx h hs
end
theorem tmp_off {l news : Led} {T : Addr} (hL : ∀ p ∈ l, p.1 ≠ T) (c : ∀ q ∈ news, ∃ o, (q.1, o) ∈ l) : ∀ q ∈ news, T ≠ q.1 := fun q hq e => by
  obtain ⟨o, ho⟩ := c q hq
  exact hL _ ho e.symm
theorem rows_C13_1 : True := by
  k_with "LT9" => (first | (with_reducible assumption) | (refine' ltM ?lt1 ?lt2; (case lt1 => (with_reducible assumption)); (case lt2 => (repeat (first | exact List.Mem.head _ | refine List.Mem.tail _ ?_)); done)) | (refine' ltT ?lt0 ?lt1 ?lt2; (case lt0 => (with_reducible assumption)); (case lt1 => (with_reducible assumption)); (case lt2 => (repeat (first | exact List.Mem.head _ | refine List.Mem.tail _ ?_)); done)) | fail "LT9")
  k_with "k_ne" => (first | (with_reducible assumption) | (refine' Ne.symm ?ne1; (case ne1 => (with_reducible assumption))) | (refine neG ?_; walk_at "LT9") | (refine neL ?_; walk_at "LT9") | (refine neS ?_; walk_at "LT9") | (refine neT ?_; walk_at "LT9") | (refine neS2 ?_; walk_at "LT9") | (refine neT2 ?_; walk_at "LT9") | (refine neS3 ?_; walk_at "LT9") | (refine neT3 ?_; walk_at "LT9") | (refine' neM (l := _ :: _) ?lt1 ?lt2; (case lt1 => (with_reducible assumption)); (case lt2 => (repeat (first | exact List.Mem.head _ | refine List.Mem.tail _ ?_)); done)) | (refine' neN (l := _ :: _) ?lt1 ?lt2; (case lt1 => (with_reducible assumption)); (case lt2 => (repeat (first | exact List.Mem.head _ | refine List.Mem.tail _ ?_)); done)) | exact nc12 | exact nc21 | exact nc13 | exact nc31 | exact nc23 | exact nc32 | fail "k_ne")
  k_with "ktr_room" => (first | (rename (_ + _ < recursionLimit) => zzh9; first | exact rmU 0 zzh9 rfl rfl | exact rmU 1 zzh9 rfl rfl | exact rmU 2 zzh9 rfl rfl | exact rmU 3 zzh9 rfl rfl | exact rmU 4 zzh9 rfl rfl | exact rmU 5 zzh9 rfl rfl | exact rmU 6 zzh9 rfl rfl | exact rmU 7 zzh9 rfl rfl | exact rmU 8 zzh9 rfl rfl | exact rmU 9 zzh9 rfl rfl) | exact ltB rfl)
  k_with "ktr_units" => (first | (rename (_ + _ + _ < cLine) => zzh9; first | exact umU 0 zzh9 rfl rfl | exact umU 3 zzh9 rfl rfl | exact umU 6 zzh9 rfl rfl | exact umU 9 zzh9 rfl rfl | exact umU 12 zzh9 rfl rfl | exact umU 1 zzh9 rfl rfl | exact umU 4 zzh9 rfl rfl | exact umU 7 zzh9 rfl rfl | exact umU 10 zzh9 rfl rfl | exact umU 2 zzh9 rfl rfl | exact umU 5 zzh9 rfl rfl | exact umU 8 zzh9 rfl rfl | exact umU 11 zzh9 rfl rfl | exact umU 13 zzh9 rfl rfl | exact umU 14 zzh9 rfl rfl | exact umU 15 zzh9 rfl rfl | exact umV 0 zzh9 rfl rfl | exact umV 3 zzh9 rfl rfl | exact umV 6 zzh9 rfl rfl | exact umV 9 zzh9 rfl rfl | exact umV 12 zzh9 rfl rfl | exact umV 1 zzh9 rfl rfl | exact umV 4 zzh9 rfl rfl | exact umV 7 zzh9 rfl rfl | exact umV 10 zzh9 rfl rfl | exact umV 2 zzh9 rfl rfl | exact umV 5 zzh9 rfl rfl | exact umV 8 zzh9 rfl rfl | exact umV 11 zzh9 rfl rfl | exact umV 13 zzh9 rfl rfl | exact umV 14 zzh9 rfl rfl | exact umV 15 zzh9 rfl rfl) | exact ltB rfl)
  k_with "OM" => (first | (with_reducible assumption) | exact Nat.zero_le _ | (refine' leB ?om1 ?om2; (case om1 => (with_reducible assumption)); (case om2 => (fail_if_success (fail_if_success decide)); exact rfl)) | (refine' leS ?om1 ?om2; (case om1 => (with_reducible assumption)); (case om2 => (fail_if_success (fail_if_success decide)); exact rfl)) | (with_reducible refine' ltL ?om1 ?om2; (case om1 => (with_reducible assumption)); (case om2 => (fail_if_success (fail_if_success decide)); exact rfl)) | ((fail_if_success (fail_if_success decide)); exact ltB rfl) | (refine' i0_1 ?om1; (case om1 => (with_reducible assumption))) | (refine' i0_2 ?om1; (case om1 => (with_reducible assumption))) | (refine' i0_3 ?om1; (case om1 => (with_reducible assumption))) | (refine' il_0 ?om1 ?om2; (case om1 => (with_reducible assumption)); (case om2 => decide)) | (refine' il_1 ?om1 ?om2; (case om1 => (with_reducible assumption)); (case om2 => decide)) | (refine' il_2 ?om1 ?om2; (case om1 => (with_reducible assumption)); (case om2 => decide)) | (refine' il_3 ?om1 ?om2; (case om1 => (with_reducible assumption)); (case om2 => decide)) | exact ia_3 | exact ia_5 | exact ic_0 | decide | omega)
  k_with "k_all" => (first
  | (with_reducible assumption)
  | (refine' OffL.out ?ko1; (case ko1 => (with_reducible assumption)))
  | (refine' offA ?ko1; (case ko1 => (with_reducible assumption)))
  | (refine' TailIs.offAtL ?ko1 ?ko2 ?ko3; (case ko1 => (with_reducible assumption)); (case ko2 => (with_reducible assumption)); (case ko3 => (with_reducible assumption)))
  | (refine' offC ?ka1 ?ka2; (case ka1 => first | (refine' Apart.l ?kp1; (case kp1 => (with_reducible assumption))) | (refine' Apart.r ?kp1; (case kp1 => (with_reducible assumption))) | k_ne); (case ka2 => k_all))
  | assumption)
  k_with "k_upd" => (first | (refine' Upd.head ?ku1; (case ku1 => k_all)) | (refine' Upd.tail ?ku1 ?ku2; (case ku1 => first | (refine' Apart.l ?kp1; (case kp1 => (with_reducible assumption))) | (refine' Apart.r ?kp1; (case kp1 => (with_reducible assumption))) | k_ne); (case ku2 => k_upd)) | fail "k_upd")
  k_with "k_updF" => (first | (refine' Pull.head ?kf1; (case kf1 => k_all)) | (refine' Pull.tail ?_ ?kf2; (case kf2 => k_updF); (first | (refine' Apart.l ?kp1; (case kp1 => (with_reducible assumption))) | (refine' Apart.r ?kp1; (case kp1 => (with_reducible assumption))) | k_ne)) | (refine' UpdF.head ?kf1; (case kf1 => k_all)) | (refine' UpdF.tail ?_ ?kf2; (case kf2 => k_updF); (first | (refine' Apart.l ?kp1; (case kp1 => (with_reducible assumption))) | (refine' Apart.r ?kp1; (case kp1 => (with_reducible assumption))) | k_ne)) | fail "k_updF")
  k_with "k_mem" => (first | (refine mem_of ?_; (with_reducible assumption)) | (refine mem_of ?_; refine' TailIs.sub ?km1 _ ?km2; (case km1 => first | (refine' TailIs.rebase ?tr1; (case tr1 => (with_reducible assumption))) | (refine' TailIs.at ?tr1 _; (case tr1 => (with_reducible assumption)))); (case km2 => (with_reducible assumption))) | fail "k_mem")
  k_with "call builtin:len" => ((k_here; (with_reducible show wpAny _ _ (call (Value.builtin "len") [Value.ref _]) _ _ _); k_dflt (refine' len_ints_fit (News.isList ?n ?m) ?i ?f ?_; (case n => k_asm); (case m => k_mem); (case i => (with_reducible assumption)); (case f => k_extra "OM"); k_whole)))
  k_with "subscriptTail Name Name ref int" => ((k_here; (with_reducible show wpAny _ _ (subscriptTail _ _ (Value.ref _) (Value.int _ _)) _ _ _); (with_unfolding_all refine' item_list_ints (News.isList ?n ?m) ?k2 ?k3 ?k4 ?k5 ?_; (case n => k_asm); (case m => k_mem); (case k2 => (with_reducible assumption)); (case k3 => k_extra "OM"); (case k4 => k_extra "OM"); (case k5 => k_extra "OM"); k_whole); intro _))
  k_with "k_enter" => (first
  | (refine' code_def ?k1 ?k2 ?k3 ?k4 ?k5 ?kA ?kF ?kK ?k6 ?k7 ?k8 ?k9 ?kB ?_ ?c2 ?c3 ?c4 ?c5; (case kA => exact rfl); (case kF => exact rfl); (case kK => first | exact rfl | (with_reducible assumption)); (case k1 => k_asm); (case k2 => k_asm); (case k3 => k_asm); (case k4 => k_asm); (case k5 => k_asm); (case k6 => k_is); (case k7 => k_is); (case k8 => ktr_room); (case k9 => first | exact BindsTo.of_eq rfl | exact binds_K (by k_in) rfl (by k_is) rfl rfl rfl | fail "k_enter: no rule for these arguments"); (case c5 => decide); (case kB => exact locs rfl); (case c2 => exact rfl); (case c3 => exact rfl); (case c4 => exact rfl); k_whole; intro _ _ _ _ _ zzN' _ _ _; (try dsimp only); (try k_fold))
  | (refine' code_defC ?k1 ?k2 ?k3 ?k4 ?k5 ?kA ?kF ?kK ?k6 ?k7 ?k8 ?k9 ?kB ?kD ?_ ?c2 ?c3 ?c4; (case kA => exact rfl); (case kF => exact rfl); (case kK => first | exact rfl | (with_reducible assumption)); (case k1 => k_asm); (case k2 => k_asm); (case k3 => k_asm); (case k4 => k_asm); (case k5 => k_asm); (case k6 => k_is); (case k7 => k_is); (case k8 => ktr_room); (case k9 => first | exact BindsTo.of_eq rfl | exact binds_K (by k_in) rfl (by k_is) rfl rfl rfl | fail "k_enter: no rule for these arguments"); (case kB => exact rfl); (case kD => decide +kernel); (case c2 => exact rfl); (case c3 => exact rfl); (case c4 => exact rfl); k_whole; intro _ _ _ _ _ _ _ zzN' zzY' _ _ _ zzl1; revert zzl1; intro _; (have _ := Mk9.mk); k_cells zzY'; (try (simp only [List.cons_append, List.nil_append] at zzN'; revert zzN'; intro _)); (try dsimp only); (try k_fold)))
  k_with "call type:tuple" => ((k_here; (with_reducible show wpAny _ _ (call (Value.type _) [Value.ref _]) _ _ _); k_dflt (refine' kde_tupleOf ?k1 ?k2 (News.isList ?k3 ?k6) ?k4 ?k5 ?_; (case k1 => k_asm); (case k2 => k_asm); (case k3 => k_asm); (case k6 => k_mem); (case k4 => (simp only [List.size_toArray]; k_extra "OM")); (case k5 => exact rfl); k_whole); intro _ _ _ _ zzl1; revert zzl1; intro _; (have _ := Mk9.mk); (try k_sweep)))
  k_with "tb_rel" => (first | (refine' TailIs.rebase ?tr1; (case tr1 => (with_reducible assumption))) | (refine' TailIs.at ?tr1 _; (case tr1 => (with_reducible assumption))) | (refine' TailIs.moveT ?tb1; (case tb1 => tb_rel)) | (refine' TailIs.cons ?tb1; (case tb1 => tb_rel)) | exact TailIs.nil)
  trivial
-- every old address stands in the ledger
theorem rows_C13_2 : True := by
  k_with "kcf_m" => (first
  | (refine' covC ?kc1 ?kc2; (case kc1 => k_mem); (case kc2 => kcf_m))
  | exact List.forall_mem_nil _
  | (intro zzq9 zzhq9; refine ⟨Prod.snd zzq9, ?_⟩; repeat (first | exact zzhq9 | (refine' TailIs.coverAt ?tc1 (Run.sub ?tc2) zzq9 zzhq9; (case tc1 => (with_reducible assumption)); (case tc2 => (with_reducible assumption))) | refine List.mem_cons_of_mem _ ?_)))
  trivial
-- what is made here is none of the old
theorem rows_C13_3 : True := by
  k_with "kcf_all" => ((intro zzq9 zzhq9 zzho9; repeat (first | exact zzho9 | refine List.forall_mem_cons.mpr ⟨tmp_ne (by (with_reducible assumption)) (by kcf_m) zzq9 zzhq9, ?_⟩)))
  k_with "tb_start" => ((
  (rename Grow _ _ _ _ => zzG9)
  (have zzgB9 := Grow.base zzG9)
  (repeat (rename Run _ _ (Grow.R zzG9) => zzR9; have _ := Run.step zzR9 zzG9 (by kcf_m) (by kcf_all); clear zzR9))
  (repeat (rename DatIn (Grow.R zzG9) _ _ => zzhX9; have _ := DatIn.mono zzgB9 zzhX9; clear zzhX9))
  (repeat (rename DatAll (Grow.R zzG9) _ _ => zzhX9; have _ := DatAll.mono zzgB9 zzhX9; clear zzhX9))
  (repeat (rename IntsAt (Grow.R zzG9) _ _ => zzhX9; have _ := IntsAt.mono zzhX9 zzgB9; clear zzhX9))
  (repeat (rename (_ ∈ Grow.R zzG9) => zzhX9; have _ := zzgB9 _ zzhX9; clear zzhX9))
  (repeat (rename OffL (Grow.R zzG9) _ => zzhX9; have _ := Grow.offL zzG9 zzhX9 ⟨_, by k_mem⟩ (by k_all); clear zzhX9))
  (have zzhS9 := Grow.sub zzG9; (first | refine fd_6 zzhS9 ?_ | refine fd_5 zzhS9 ?_ | refine fd_4 zzhS9 ?_ | refine fd_3 zzhS9 ?_ | refine fd_2 zzhS9 ?_ | refine fd_1 zzhS9 ?_ | refine fd_0 zzhS9 ?_); clear zzhS9)
  clear zzgB9 zzG9
  intros))
  k_with "kqd_in" => (first | (refine' DatIn.mono ?kd1 ?kd2; (case kd2 => first | (with_reducible assumption) | assumption); (case kd1 => (intro _ zzhp9; repeat (first | exact zzhp9 | (refine' TailIs.sub ?kd3 _ zzhp9; (case kd3 => first | (refine' TailIs.rebase ?tr1; (case tr1 => (with_reducible assumption))) | (refine' TailIs.at ?tr1 _; (case tr1 => (with_reducible assumption))))) | refine List.mem_cons_of_mem _ ?_)))) | fail "kqd_in")
  k_with "kqd_all" => (first | (refine' DatAll.mono ?kd1 ?kd2; (case kd2 => first | (with_reducible assumption) | assumption); (case kd1 => (intro _ zzhp9; repeat (first | exact zzhp9 | (refine' TailIs.sub ?kd3 _ zzhp9; (case kd3 => first | (refine' TailIs.rebase ?tr1; (case tr1 => (with_reducible assumption))) | (refine' TailIs.at ?tr1 _; (case tr1 => (with_reducible assumption))))) | refine List.mem_cons_of_mem _ ?_)))) | fail "kqd_all")
  k_with "compareOp Eq ref ref" => ((k_here; (with_reducible show wpAny _ _ (compareOp CmpOp.Eq (Value.ref _) (Value.ref _)) _ _ _); k_dflt (refine' dat_eq ?n9 ?da (fun _ h => h) ?db (fun _ h => h) ?oa ?ob ?u9 ?_; (case n9 => k_asm); (case da => kqd_in); (case db => kqd_in); (case oa => first | exact domD_ok _ | rfl | (with_reducible assumption)); (case ob => first | exact domD_ok _ | rfl | (with_reducible assumption)); (case u9 => ktr_units); intro _ _)))
  k_with "compareOp NotEq ref ref" => ((k_here; (with_reducible show wpAny _ _ (compareOp CmpOp.NotEq (Value.ref _) (Value.ref _)) _ _ _); k_dflt (refine' dat_ne ?n9 ?da (fun _ h => h) ?db (fun _ h => h) ?oa ?ob ?u9 ?_; (case n9 => k_asm); (case da => kqd_in); (case db => kqd_in); (case oa => first | exact domD_ok _ | rfl | (with_reducible assumption)); (case ob => first | exact domD_ok _ | rfl | (with_reducible assumption)); (case u9 => ktr_units); intro _ _)))
  k_with "call builtin:list.append" => ((k_here; (with_reducible show wpAny _ _ (call (Value.builtin _) [Value.ref _, _]) _ _ _); k_dflt (refine' append_L ?k1 ?k2 ?k3 ?z ?_; (case k1 => k_asm); (case k2 => k_asm); (case k3 => k_upd); (case z => first | k_extra "OM" | ((simp only [List.length_cons, List.length_nil, List.length_append]); k_extra "OM")); k_whole); intro _ _ _; (try k_sweep)))
  k_with "call builtin:min" => ((k_here; (with_reducible show wpAny _ _ (call (Value.builtin _) [Value.ref _]) _ _ _); k_dflt ((refine' min_L ?f9 ?n9 ?m9 ?i9 ?z9 ?h9 ?_; (case f9 => k_asm); (case n9 => k_asm); (case m9 => k_mem); (case i9 => (with_reducible assumption)); (case z9 => first | k_extra "OM" | (simp_all; k_extra "OM")); (case h9 => with_unfolding_all rfl)); intro _ _ _ _ _)))
  k_with "call builtin:max" => ((k_here; (with_reducible show wpAny _ _ (call (Value.builtin _) [Value.ref _]) _ _ _); k_dflt ((refine' max_L ?f9 ?n9 ?m9 ?i9 ?z9 ?h9 ?_; (case f9 => k_asm); (case n9 => k_asm); (case m9 => k_mem); (case i9 => (with_reducible assumption)); (case z9 => first | k_extra "OM" | (simp_all; k_extra "OM")); (case h9 => with_unfolding_all rfl)); intro _ _ _ _ _)))
  k_with "ktr_rel" => (((case n9 => k_asm); (case b9 => k_asm); (case f9 => k_asm); (case x9 => k_asm); (case t9 => k_asm); (case k9 => first | exact rfl | (with_reducible assumption)); (case d9 => ktr_room); (case u9 => ktr_units)))
  trivial
theorem rows_C13_4 : True := by
  k_with "kcf_m" => ((intro zzq9 zzhq9; refine ⟨Prod.snd zzq9, ?_⟩; (repeat (first | exact zzhq9 | exact List.mem_append_left _ zzhq9 | (refine' TailIs.coverAt ?tc1 (Run.sub ?tc2) zzq9 zzhq9; (case tc1 => (with_reducible assumption)); (case tc2 => (with_reducible assumption))) | refine List.mem_cons_of_mem _ ?_ | refine List.mem_append_right _ ?_)); done))
  k_with "call builtin:len" => ((k_here; (with_reducible show wpAny _ _ (call (Value.builtin "len") [Value.ref _]) _ _ _); k_dflt (refine' len_L ?n9 ?m9 ?z9 ?_; (case n9 => k_asm); (case m9 => k_mem); (case z9 => (first | k_extra "OM" | ((simp only [List.length_append, List.length_cons, List.length_nil]); k_extra "OM"))); k_whole)))
  k_with "exec Assign cons ListComp" => ((k_here; (with_reducible show wpAny _ _ (exec _ _) _ _ _); refine Stop.intro ?_))
  k_with "eval ListComp" => ((k_here; (with_reducible show wpAny _ _ (eval (Expr.ListComp _ _ _ _) _) _ _ _); refine Stop.intro ?_))
  k_with "CompSrcT" => ((k_here; refine Stop.intro ?_))
  k_with "CompSrc" => ((k_here; refine Stop.intro ?_))
  k_with "CompEnd" => ((refine Stop.intro ?_))
  k_with "kqd_sub" => (first | (refine List.forall_mem_cons.mpr ⟨?kqa, ?kqb⟩; (case kqa => k_mem); (case kqb => kqd_sub)) | (intro _ zzhq9; (repeat (first | exact zzhq9 | refine List.mem_cons_of_mem _ ?_)); done))
  trivial
-- what a comparison has answered
theorem rows_C13_5 : True := by
  k_with "ANSWER" => (((rename Bool => zzt9); (rename (zzt9 = true ↔ _) => zzht9); (first | (have zze9 := zzht9.mpr (by first | rfl | (with_reducible assumption)); subst zze9) | (have zze9 := bool_no zzht9 (by first | (with_reducible assumption) | (intro zzh9; exact zzh9 rfl) | (intro zzh9; exact zzh9 (by (with_reducible assumption)))); subst zze9) | skip)))
  k_with "compareOp Eq ref ref" => ((k_here; (with_reducible show wpAny _ _ (compareOp CmpOp.Eq (Value.ref _) (Value.ref _)) _ _ _); k_dflt (refine' dat_eq ?n9 ?da (fun _ h => h) ?db (fun _ h => h) ?oa ?ob ?u9 ?_; (case n9 => k_asm); (case da => kqd_in); (case db => kqd_in); (case oa => first | exact domD_ok _ | rfl | (with_reducible assumption)); (case ob => first | exact domD_ok _ | rfl | (with_reducible assumption)); (case u9 => ktr_units); intro _ _; walk_at "ANSWER")))
  k_with "compareOp NotEq ref ref" => ((k_here; (with_reducible show wpAny _ _ (compareOp CmpOp.NotEq (Value.ref _) (Value.ref _)) _ _ _); k_dflt (refine' dat_ne ?n9 ?da (fun _ h => h) ?db (fun _ h => h) ?oa ?ob ?u9 ?_; (case n9 => k_asm); (case da => kqd_in); (case db => kqd_in); (case oa => first | exact domD_ok _ | rfl | (with_reducible assumption)); (case ob => first | exact domD_ok _ | rfl | (with_reducible assumption)); (case u9 => ktr_units); intro _ _; walk_at "ANSWER")))
  k_with "compareOp NotEq ref ref" => ((k_here; (with_reducible show wpAny _ _ (compareOp CmpOp.NotEq (Value.ref _) (Value.ref _)) _ _ _); k_dflt (refine' ints_ne ?n9 ?a9 ?i9 ?b9 ?j9 ?u9 ?_; (case n9 => k_asm); (case a9 => k_mem); (case b9 => k_mem); (case i9 => first | (with_reducible assumption) | exact IntsAre.nil); (case j9 => first | (with_reducible assumption) | exact IntsAre.nil); (case u9 => ktr_units); intro _ _; walk_at "ANSWER")))
  k_with "compareOp Eq ref ref" => ((k_here; (with_reducible show wpAny _ _ (compareOp CmpOp.Eq (Value.ref _) (Value.ref _)) _ _ _); k_dflt (refine' ints_eq ?n9 ?a9 ?i9 ?b9 ?j9 ?u9 ?_; (case n9 => k_asm); (case a9 => k_mem); (case b9 => k_mem); (case i9 => first | (with_reducible assumption) | exact IntsAre.nil); (case j9 => first | (with_reducible assumption) | exact IntsAre.nil); (case u9 => ktr_units); intro _ _; walk_at "ANSWER")))
  k_with "TAILFOR" => (first | (refine' TailFor.rebase ?tf1; (case tf1 => (with_reducible assumption))) | (refine' TailFor.at ?tf1 _; (case tf1 => (with_reducible assumption))) | (refine' TailFor.moveT ?tl9; (case tl9 => walk_at "TAILFOR")) | (refine' TailFor.moveA ?tl9; (case tl9 => walk_at "TAILFOR")) | (refine' TailFor.cons ?tl9; (case tl9 => walk_at "TAILFOR")) | exact TailFor.nil | (refine' TailFor.pre ?tl9; (case tl9 => walk_at "TAILFOR")))
  k_with "call ref" => ((k_here; (with_reducible show wpAny _ _ (call (Value.ref 42) _) _ _ _); k_dflt (first | ((refine' Call.cps (fromValues_f ?ti ?m9 ?i9 ?ln ?as) t_gD ?b9 ?f9 ?x9 ?t9 ?k9 ?d9 ?u9 ?n9 ?_; ktr_rel; (case ti => walk_at "TAILFOR"); (case m9 => k_mem); (case i9 => (with_reducible assumption)); (case ln => first | k_extra "OM" | (with_reducible assumption)); (case as => (with_reducible assumption))); intro _ _ _ _ _ _ _ zzN9; (try dsimp only at zzN9); tb_start) | (fail_if_success skip) | refine Stop.intro ?_)))
  k_with "call ref" => ((k_here; (with_reducible show wpAny _ _ (call (Value.ref 283) _) _ _ _); k_dflt (first | ((refine' Call.cps (bars_c ?m9) t_bool ?b9 ?f9 ?x9 ?t9 ?k9 ?d9 ?u9 ?n9 ?_; ktr_rel; (case m9 => k_mem)); intro _ _ _ _ _ _) | refine Stop.intro ?_)))
  k_with "setItem ref int ref" => ((k_here; (with_reducible show wpAny _ _ (setItem (Value.ref _) (Value.int _ _) (Value.ref _)) _ _ _); k_dflt (refine' set_sel ?f9 ?n9 ?x9 ?u9 ?_; (case f9 => k_asm); (case n9 => k_asm); (case x9 => (with_reducible assumption)); (case u9 => k_upd); k_whole; intro _ _ _)))
  k_with "kcf_all" => ((intro zzq9 zzhq9 zzho9; repeat (first | exact zzho9 | refine List.forall_mem_cons.mpr ⟨tmp_ne (by (with_reducible assumption)) (by kcf_m) zzq9 zzhq9, ?_⟩ | refine List.forall_mem_cons.mpr ⟨tmp_off (by (with_reducible assumption)) (by kcf_m) zzq9 zzhq9, ?_⟩)))
  k_with "subscriptTail Attribute Name Name ref int" => ((k_here; (with_reducible show wpAny _ _ (subscriptTail _ _ (Value.ref _) (Value.int _ _)) _ _ _); k_dflt (refine' item_sel ?n9 ?m9 ?x9 ?_ ?s9; (case n9 => k_asm); (case x9 => (with_reducible assumption)); (case m9 => k_mem); (case s9 => with_unfolding_all rfl); k_whole)))
  k_with "subscriptTail Name Name ref int" => ((k_here; (with_reducible show wpAny _ _ (subscriptTail _ _ (Value.ref _) (Value.int _ _)) _ _ _); k_dflt (refine' item_sel ?n9 ?m9 ?x9 ?_ ?s9; (case n9 => k_asm); (case x9 => (with_reducible assumption)); (case m9 => k_mem); (case s9 => with_unfolding_all rfl); k_whole)))
  k_with "subscriptTail Attribute Name Constant ref int" => ((k_here; (with_reducible show wpAny _ _ (subscriptTail _ _ (Value.ref _) (Value.int (OfNat.ofNat _) _)) _ _ _); k_dflt (refine' item_tup ?n9 ?m9 ?x9 ?y9 ?z9 ?_ ?s9; (case n9 => k_asm); (case m9 => k_mem); (case x9 => rfl); (case y9 => decide); (case z9 => decide); (case s9 => with_unfolding_all rfl); k_whole)))
  k_with "subscriptTail Subscript Attribute Constant Constant ref int" => ((k_here; (with_reducible show wpAny _ _ (subscriptTail _ _ (Value.ref _) (Value.int (OfNat.ofNat _) _)) _ _ _); k_dflt (refine' item_tup ?n9 ?m9 ?x9 ?y9 ?z9 ?_ ?s9; (case n9 => k_asm); (case m9 => k_mem); (case x9 => rfl); (case y9 => decide); (case z9 => decide); (case s9 => with_unfolding_all rfl); k_whole)))
  k_with "subscriptTail Name Constant ref int" => ((k_here; (with_reducible show wpAny _ _ (subscriptTail _ _ (Value.ref _) (Value.int (OfNat.ofNat _) _)) _ _ _); k_dflt (refine' item_tup ?n9 ?m9 ?x9 ?y9 ?z9 ?_ ?s9; (case n9 => k_asm); (case m9 => k_mem); (case x9 => rfl); (case y9 => decide); (case z9 => decide); (case s9 => with_unfolding_all rfl); k_whole)))
  trivial
theorem clash_none {w : World} {K : Sk} {si sd dl fl tl ml nd ln lh a0 a1 ca : Addr} {sp : Int} {st tx : Tok} {fa : Bool} {n1 nn nh : Nat} {nv hv : List Value} {q : List Int} {x : Int} {others r0 rest : Led} {g : Led → Led}
  (TI : TailIs others r0 rest g) (hsi : (si, instObj 265 sd) ∈ rest) (Dx : DatIn rest (.ref (sel x a0 a1)) (domD (ivs q))) (Dc : DatIn rest (.ref ca) (.tuple []))
  (hln : (ln, listOf nv.toArray nn) ∈ rest) (hi : IntsAre nv []) (hlh : (lh, listOf hv.toArray nh) ∈ rest) (hh : IntsAre hv q) (hq : Good q) (hx : x = 0 ∨ x = 1) :
  Call w 6 293 [.ref si, .int x tx, .ref ln, .ref lh] ((sd, sdO w K dl fl tl ml nd sp st fa ca) :: (dl, listOf [Value.ref a0, .ref a1].toArray n1) :: others) (fun r nw =>
    ∃ rest', r = .bool true ∧ nw = (sd, sdO w K dl fl tl ml nd sp st fa ca) :: (dl, listOf [Value.ref a0, .ref a1].toArray n1) :: g rest' ∧
      Grow ((sd, sdO w K dl fl tl ml nd sp st fa ca) :: (dl, listOf [Value.ref a0, .ref a1].toArray n1) :: others) r0 rest rest') := by
  intro p loose mean mg mb dp un gd cn cs a ccd cl outer A₀ base h₀ L m s Q E B F X T hk hd hu N hret
  revert X; k_fill; intro X
  have R0 : Run ((sd, sdO w K dl fl tl ml nd sp st fa ca) :: (dl, listOf [Value.ref a0, .ref a1].toArray n1) :: others) rest rest := Run.refl
  have hql := hq.len
  have hqs := hq.asc
  have hql' : q.length < 64 := by omega
  w_strict (
    refine wpAny_call ?_
    k_dflt k_enter
    k_steps
    (rename Run _ _ _ => R9; rename Fr _ _ _ _ => F9; rename News _ _ _ _ => N9)
    have N8 : News _ _ _ ((sd, _) :: (dl, _) :: _) := fun p hp => N9 p (by repeat (first | exact hp | refine List.mem_cons_of_mem _ ?_))
    refine' hret _ _ _ _ F9 (TailIs.news ?t9 N8) ?p9
    case t9 => tb_rel
    case p9 => exact ⟨_, rfl, rfl, Run.grow TI.base R9⟩)
theorem rows_C14_0 : True := by
  k_with_none
  w_top off
  trivial
theorem ints_item {vs : List Value} {q : List Int} (h : IntsAre vs q) {i : Nat} {v : Value} (hv : vs.toArray[i]? = some v) : ∃ k t, v = .int k t ∧ q.take (i + 1) = q.take i ++ [k] ∧ k ∈ q := by
  obtain ⟨k, t, e, et, en, _⟩ := ints_at h (by simpa using hv)
  exact ⟨k, t, e, et, by rw [en]; simp⟩
theorem filt_yes {ys : List Value} {q : List Int} {p : Int → Bool} {i : Nat} {k : Int} {t : Tok} (h : IntsAre ys ((q.take i).filter p)) (e : q.take (i + 1) = q.take i ++ [k]) (hp : p k = true) : IntsAre (ys ++ [.int k t]) ((q.take (i + 1)).filter p) := by
  rw [e, List.filter_append, List.filter_cons_of_pos hp]
  exact IntsAre.append h (.cons k t .nil)
theorem filt_no {ys : List Value} {q : List Int} {p : Int → Bool} {i : Nat} {k : Int} (h : IntsAre ys ((q.take i).filter p)) (e : q.take (i + 1) = q.take i ++ [k]) (hp : p k = false) : IntsAre ys ((q.take (i + 1)).filter p) := by
  rw [e, List.filter_append, List.filter_cons_of_neg (by rw [hp]; decide), List.filter_nil, List.append_nil]
  exact h
/-- the end of a turn that has turned no object -/
def FiltEnd (h₀ : Heap) (L : Addr) (m : Str → Option Value) (s₁ : Shared) (I : Addr) (oI : Obj) (C : Addr) (oC : Obj) (D : Addr) (ys : List Value) (news : Led) (b : Prop) (v y : Value) (s₂ : Shared) : Prop :=
  b ∧ y = v ∧ ∃ h' tk, s₂ = { s₁ with heap := h', toks := tk } ∧ Fr h₀ L h' m ∧ News h₀ L h' ((I, oI) :: (C, oC) :: (D, lst ys) :: news)
section
variable {prog : Program} {w : World} {A : Around} {E : Value → Shared → Prop} {s : Shared} {h₀ : Heap} {L : Addr} {m : Str → Option Value} {env : Env}
theorem FiltEnd.intro {s₁ : Shared} {I C D : Addr} {oI oC : Obj} {ys : List Value} {news l : Led} {b : Prop} {v : Value} {h' : Heap} {tk : Nat} (hb : b) (F : Fr h₀ L h' m) (N : News h₀ L h' l) (hs : ∀ p ∈ (I, oI) :: (C, oC) :: (D, lst ys) :: news, p ∈ l) :
    FiltEnd h₀ L m s₁ I oI C oC D ys news b v v { s₁ with heap := h', toks := tk } := ⟨hb, rfl, h', tk, rfl, F, fun p hp => N p (hs p hp)⟩
/-- a comprehension over a list of ints that lets through what p says, and turns no object -/
theorem filtT {ct elt : PySem.Expr} {x : Str} {scope : Scope} {cl : List (Str × Addr)} {S : Led → Prop} {Fin : List Value → Led → Prop} {vs : List Value} {q : List Int} {news : Led} (p : Int → Bool) (I : IntsAre vs q) (hS : S news)
    (turn : ∀ k t ys I oI C oC D m₂ h tk (E' : Value → Shared → Prop), k ∈ q → NsObj oC m₂ → m₂ x = some (.int k t) → Fr h₀ L h m → News h₀ L h ((I, oI) :: (C, oC) :: (D, lst ys) :: news) → (∀ p ∈ news, p.1 ≠ I ∧ p.1 ≠ C ∧ p.1 ≠ D) → ((@Ne Nat I C) ∧ (@Ne Nat I D) ∧ (@Ne Nat C D)) →
      wpAny (model prog w) A (isTrue ct (compEnvC scope cl C env) (eval ct (compEnvC scope cl C env))) (fun ok s' => if ok = true then
        wpAny (model prog w) A (eval elt (compEnvC scope cl C env)) (fun y s₂ => FiltEnd h₀ L m { s with heap := h, toks := tk } I oI C oC D ys news (p k = true) (.int k t) y s₂) E' s'
        else FiltEnd h₀ L m { s with heap := h, toks := tk } I oI C oC D ys news (p k = false) Value.none Value.none s') E' { s with heap := h, toks := tk })
    (fin : ∀ ys, IntsAre ys (q.filter p) → Fin ys news) : LCt.CompRestT prog w A h₀ L m env ct elt x scope cl s S (fun i v => vs.toArray[i]? = some v) Fin vs.toArray.size 0 [] news := by
  refine restT_inv (fun i ys nw => nw = news ∧ IntsAre ys ((q.take i).filter p)) ⟨rfl, .nil⟩ ?_ ?_
  · rintro i v ys _ I' oI C oC D m₂ h tk E' _ hv ⟨rfl, hys⟩ hC hx F N off ne
    obtain ⟨k, t, rfl, et, hk⟩ := ints_item I hv
    refine wpAny_mono (turn k t ys I' oI C oC D m₂ h tk E' hk hC hx F N off ne) (fun ok s' h' => ?_) fun _ _ e => e
    cases ok with
    | true =>
      simp only [if_true] at h' ⊢
      refine wpAny_mono h' (fun y s₂ h₂ => ?_) fun _ _ e => e
      obtain ⟨hp, rfl, h₂, tk₂, rfl, F₂, N₂⟩ := h₂
      exact CompEnd.intro F₂ N₂ _ (fun _ h => h) (Off3.of off) hS ⟨rfl, filt_yes hys et hp⟩
    | false =>
      simp only [Bool.false_eq_true, if_false] at h' ⊢
      obtain ⟨hp, _, h₂, tk₂, rfl, F₂, N₂⟩ := h'
      exact CompEnd.intro F₂ N₂ _ (fun _ h => h) (Off3.of off) hS ⟨rfl, filt_no hys et hp⟩
  · rintro ys _ ⟨rfl, hys⟩
    have e : q.take vs.toArray.size = q := by rw [List.size_toArray, I.length, List.take_length]
    rw [e] at hys
    exact fin ys hys
end
theorem bars_yes {b : Bool} {sg : Sg} {k v : Int} (h : b = true ↔ barsP sg k v) (e : b = true) : barsB sg k v = true := barsB_iff.mpr (h.mp e)
theorem bars_no {b : Bool} {sg : Sg} {k v : Int} (h : b = true ↔ barsP sg k v) (e : b = false) : barsB sg k v = false := by
  cases q : barsB sg k v with
  | false => rfl
  | true => rw [e] at h; exact absurd (h.mpr (barsB_iff.mp q)) (by decide)
theorem filt_none {q : List Int} {sg : Sg} {k : Int} (h : ∀ v ∈ q, ¬ barsP sg k v) : q.filter (fun v => barsB sg k v) = [] :=
  List.filter_eq_nil_iff.mpr fun v hv e => h v hv (barsB_iff.mp e)
theorem bools_snoc {vs : List Value} {bs : List Bool} {b : Bool} (h : LSm.BoolsAre vs bs) : LSm.BoolsAre (vs ++ [.bool b]) (bs ++ [b]) := by
  induction h with
  | nil => exact .cons _ .nil
  | cons b _ ih => exact .cons b ih
theorem all_true {prog : Program} {w : World} {A : Around} {E : Value → Shared → Prop} {s : Shared} {h₀ : Heap} {L l : Addr} {m : Str → Option Value} {news : Led} {vs : List Value} {n k : Nat} {Q : Value → Shared → Prop} (F : Fr h₀ L s.heap m) (N : News h₀ L s.heap news) (hh : A.handled = none) (hm : (l, listOf vs.toArray n) ∈ news) (hb : LSm.BoolsAre vs (List.replicate k true))
    (h : ∀ h' tk, Fr h₀ L h' m → News h₀ L h' news → Q (.bool true) { s with heap := h', toks := tk }) : wpAny (model prog w) A (call (.builtin "all") [.ref l]) Q E s :=
  LSm.all_bools F N hh (News.isList N hm) hb fun h' tk F' N' => by
    have e : (List.replicate k true).all id = true := by simp
    rw [e]; exact h h' tk F' N'
theorem rows_C14_1 : True := by
  k_with "LT9" => (first | (with_reducible assumption) | (refine' ltM ?lt1 ?lt2; (case lt1 => (with_reducible assumption)); (case lt2 => (repeat (first | exact List.Mem.head _ | refine List.Mem.tail _ ?_)); done)) | (refine' ltT ?lt0 ?lt1 ?lt2; (case lt0 => (with_reducible assumption)); (case lt1 => (with_reducible assumption)); (case lt2 => (repeat (first | exact List.Mem.head _ | refine List.Mem.tail _ ?_)); done)) | fail "LT9")
  k_with "k_ne" => (first | (with_reducible assumption) | (refine' Ne.symm ?ne1; (case ne1 => (with_reducible assumption))) | (refine neG ?_; walk_at "LT9") | (refine neL ?_; walk_at "LT9") | (refine neS ?_; walk_at "LT9") | (refine neT ?_; walk_at "LT9") | (refine neS2 ?_; walk_at "LT9") | (refine neT2 ?_; walk_at "LT9") | (refine neS3 ?_; walk_at "LT9") | (refine neT3 ?_; walk_at "LT9") | (refine' neM (l := _ :: _) ?lt1 ?lt2; (case lt1 => (with_reducible assumption)); (case lt2 => (repeat (first | exact List.Mem.head _ | refine List.Mem.tail _ ?_)); done)) | (refine' neN (l := _ :: _) ?lt1 ?lt2; (case lt1 => (with_reducible assumption)); (case lt2 => (repeat (first | exact List.Mem.head _ | refine List.Mem.tail _ ?_)); done)) | exact nc12 | exact nc21 | exact nc13 | exact nc31 | exact nc23 | exact nc32 | fail "k_ne")
  k_with "ktr_room" => (first | (rename (_ + _ < recursionLimit) => zzh9; first | exact rmU 0 zzh9 rfl rfl | exact rmU 1 zzh9 rfl rfl | exact rmU 2 zzh9 rfl rfl | exact rmU 3 zzh9 rfl rfl | exact rmU 4 zzh9 rfl rfl | exact rmU 5 zzh9 rfl rfl | exact rmU 6 zzh9 rfl rfl | exact rmU 7 zzh9 rfl rfl | exact rmU 8 zzh9 rfl rfl | exact rmU 9 zzh9 rfl rfl) | exact ltB rfl)
  k_with "ktr_units" => (first | (rename (_ + _ + _ < cLine) => zzh9; first | exact umU 0 zzh9 rfl rfl | exact umU 3 zzh9 rfl rfl | exact umU 6 zzh9 rfl rfl | exact umU 9 zzh9 rfl rfl | exact umU 12 zzh9 rfl rfl | exact umU 1 zzh9 rfl rfl | exact umU 4 zzh9 rfl rfl | exact umU 7 zzh9 rfl rfl | exact umU 10 zzh9 rfl rfl | exact umU 2 zzh9 rfl rfl | exact umU 5 zzh9 rfl rfl | exact umU 8 zzh9 rfl rfl | exact umU 11 zzh9 rfl rfl | exact umU 13 zzh9 rfl rfl | exact umU 14 zzh9 rfl rfl | exact umU 15 zzh9 rfl rfl | exact umV 0 zzh9 rfl rfl | exact umV 3 zzh9 rfl rfl | exact umV 6 zzh9 rfl rfl | exact umV 9 zzh9 rfl rfl | exact umV 12 zzh9 rfl rfl | exact umV 1 zzh9 rfl rfl | exact umV 4 zzh9 rfl rfl | exact umV 7 zzh9 rfl rfl | exact umV 10 zzh9 rfl rfl | exact umV 2 zzh9 rfl rfl | exact umV 5 zzh9 rfl rfl | exact umV 8 zzh9 rfl rfl | exact umV 11 zzh9 rfl rfl | exact umV 13 zzh9 rfl rfl | exact umV 14 zzh9 rfl rfl | exact umV 15 zzh9 rfl rfl) | exact ltB rfl)
  k_with "OM" => (first | (with_reducible assumption) | exact Nat.zero_le _ | (refine' leB ?om1 ?om2; (case om1 => (with_reducible assumption)); (case om2 => (fail_if_success (fail_if_success decide)); exact rfl)) | (refine' leS ?om1 ?om2; (case om1 => (with_reducible assumption)); (case om2 => (fail_if_success (fail_if_success decide)); exact rfl)) | (with_reducible refine' ltL ?om1 ?om2; (case om1 => (with_reducible assumption)); (case om2 => (fail_if_success (fail_if_success decide)); exact rfl)) | ((fail_if_success (fail_if_success decide)); exact ltB rfl) | (refine' i0_1 ?om1; (case om1 => (with_reducible assumption))) | (refine' i0_2 ?om1; (case om1 => (with_reducible assumption))) | (refine' i0_3 ?om1; (case om1 => (with_reducible assumption))) | (refine' il_0 ?om1 ?om2; (case om1 => (with_reducible assumption)); (case om2 => decide)) | (refine' il_1 ?om1 ?om2; (case om1 => (with_reducible assumption)); (case om2 => decide)) | (refine' il_2 ?om1 ?om2; (case om1 => (with_reducible assumption)); (case om2 => decide)) | (refine' il_3 ?om1 ?om2; (case om1 => (with_reducible assumption)); (case om2 => decide)) | exact ia_3 | exact ia_5 | exact ic_0 | decide | omega)
  k_with "k_all" => (first
  | (with_reducible assumption)
  | (refine' OffL.out ?ko1; (case ko1 => (with_reducible assumption)))
  | (refine' offA ?ko1; (case ko1 => (with_reducible assumption)))
  | (refine' TailIs.offAtL ?ko1 ?ko2 ?ko3; (case ko1 => (with_reducible assumption)); (case ko2 => (with_reducible assumption)); (case ko3 => (with_reducible assumption)))
  | (refine' offC ?ka1 ?ka2; (case ka1 => first | (refine' Apart.l ?kp1; (case kp1 => (with_reducible assumption))) | (refine' Apart.r ?kp1; (case kp1 => (with_reducible assumption))) | k_ne); (case ka2 => k_all))
  | assumption)
  k_with "k_upd" => (first | (refine' Upd.head ?ku1; (case ku1 => k_all)) | (refine' Upd.tail ?ku1 ?ku2; (case ku1 => first | (refine' Apart.l ?kp1; (case kp1 => (with_reducible assumption))) | (refine' Apart.r ?kp1; (case kp1 => (with_reducible assumption))) | k_ne); (case ku2 => k_upd)) | fail "k_upd")
  k_with "k_updF" => (first | (refine' Pull.head ?kf1; (case kf1 => k_all)) | (refine' Pull.tail ?_ ?kf2; (case kf2 => k_updF); (first | (refine' Apart.l ?kp1; (case kp1 => (with_reducible assumption))) | (refine' Apart.r ?kp1; (case kp1 => (with_reducible assumption))) | k_ne)) | (refine' UpdF.head ?kf1; (case kf1 => k_all)) | (refine' UpdF.tail ?_ ?kf2; (case kf2 => k_updF); (first | (refine' Apart.l ?kp1; (case kp1 => (with_reducible assumption))) | (refine' Apart.r ?kp1; (case kp1 => (with_reducible assumption))) | k_ne)) | fail "k_updF")
  k_with "k_mem" => (first | (refine mem_of ?_; (with_reducible assumption)) | (refine mem_of ?_; refine' TailIs.sub ?km1 _ ?km2; (case km1 => first | (refine' TailIs.rebase ?tr1; (case tr1 => (with_reducible assumption))) | (refine' TailIs.at ?tr1 _; (case tr1 => (with_reducible assumption)))); (case km2 => (with_reducible assumption))) | fail "k_mem")
  k_with "call builtin:len" => ((k_here; (with_reducible show wpAny _ _ (call (Value.builtin "len") [Value.ref _]) _ _ _); k_dflt (refine' len_ints_fit (News.isList ?n ?m) ?i ?f ?_; (case n => k_asm); (case m => k_mem); (case i => (with_reducible assumption)); (case f => k_extra "OM"); k_whole)))
  k_with "subscriptTail Name Name ref int" => ((k_here; (with_reducible show wpAny _ _ (subscriptTail _ _ (Value.ref _) (Value.int _ _)) _ _ _); (with_unfolding_all refine' item_list_ints (News.isList ?n ?m) ?k2 ?k3 ?k4 ?k5 ?_; (case n => k_asm); (case m => k_mem); (case k2 => (with_reducible assumption)); (case k3 => k_extra "OM"); (case k4 => k_extra "OM"); (case k5 => k_extra "OM"); k_whole); intro _))
  k_with "k_enter" => (first
  | (refine' code_def ?k1 ?k2 ?k3 ?k4 ?k5 ?kA ?kF ?kK ?k6 ?k7 ?k8 ?k9 ?kB ?_ ?c2 ?c3 ?c4 ?c5; (case kA => exact rfl); (case kF => exact rfl); (case kK => first | exact rfl | (with_reducible assumption)); (case k1 => k_asm); (case k2 => k_asm); (case k3 => k_asm); (case k4 => k_asm); (case k5 => k_asm); (case k6 => k_is); (case k7 => k_is); (case k8 => ktr_room); (case k9 => first | exact BindsTo.of_eq rfl | exact binds_K (by k_in) rfl (by k_is) rfl rfl rfl | fail "k_enter: no rule for these arguments"); (case c5 => decide); (case kB => exact locs rfl); (case c2 => exact rfl); (case c3 => exact rfl); (case c4 => exact rfl); k_whole; intro _ _ _ _ _ zzN' _ _ _; (try dsimp only); (try k_fold))
  | (refine' code_defC ?k1 ?k2 ?k3 ?k4 ?k5 ?kA ?kF ?kK ?k6 ?k7 ?k8 ?k9 ?kB ?kD ?_ ?c2 ?c3 ?c4; (case kA => exact rfl); (case kF => exact rfl); (case kK => first | exact rfl | (with_reducible assumption)); (case k1 => k_asm); (case k2 => k_asm); (case k3 => k_asm); (case k4 => k_asm); (case k5 => k_asm); (case k6 => k_is); (case k7 => k_is); (case k8 => ktr_room); (case k9 => first | exact BindsTo.of_eq rfl | exact binds_K (by k_in) rfl (by k_is) rfl rfl rfl | fail "k_enter: no rule for these arguments"); (case kB => exact rfl); (case kD => decide +kernel); (case c2 => exact rfl); (case c3 => exact rfl); (case c4 => exact rfl); k_whole; intro _ _ _ _ _ _ _ zzN' zzY' _ _ _ zzl1; revert zzl1; intro _; (have _ := Mk9.mk); k_cells zzY'; (try (simp only [List.cons_append, List.nil_append] at zzN'; revert zzN'; intro _)); (try dsimp only); (try k_fold)))
  k_with "call type:tuple" => ((k_here; (with_reducible show wpAny _ _ (call (Value.type _) [Value.ref _]) _ _ _); k_dflt (refine' kde_tupleOf ?k1 ?k2 (News.isList ?k3 ?k6) ?k4 ?k5 ?_; (case k1 => k_asm); (case k2 => k_asm); (case k3 => k_asm); (case k6 => k_mem); (case k4 => (simp only [List.size_toArray]; k_extra "OM")); (case k5 => exact rfl); k_whole); intro _ _ _ _ zzl1; revert zzl1; intro _; (have _ := Mk9.mk); (try k_sweep)))
  k_with "tb_rel" => (first | (refine' TailIs.rebase ?tr1; (case tr1 => (with_reducible assumption))) | (refine' TailIs.at ?tr1 _; (case tr1 => (with_reducible assumption))) | (refine' TailIs.moveT ?tb1; (case tb1 => tb_rel)) | (refine' TailIs.cons ?tb1; (case tb1 => tb_rel)) | exact TailIs.nil)
  trivial
-- every old address stands in the ledger
theorem rows_C14_2 : True := by
  k_with "kcf_m" => (first
  | (refine' covC ?kc1 ?kc2; (case kc1 => k_mem); (case kc2 => kcf_m))
  | exact List.forall_mem_nil _
  | (intro zzq9 zzhq9; refine ⟨Prod.snd zzq9, ?_⟩; repeat (first | exact zzhq9 | (refine' TailIs.coverAt ?tc1 (Run.sub ?tc2) zzq9 zzhq9; (case tc1 => (with_reducible assumption)); (case tc2 => (with_reducible assumption))) | refine List.mem_cons_of_mem _ ?_)))
  trivial
-- what is made here is none of the old
theorem rows_C14_3 : True := by
  k_with "kcf_all" => ((intro zzq9 zzhq9 zzho9; repeat (first | exact zzho9 | refine List.forall_mem_cons.mpr ⟨tmp_ne (by (with_reducible assumption)) (by kcf_m) zzq9 zzhq9, ?_⟩)))
  k_with "tb_start" => ((
  (rename Grow _ _ _ _ => zzG9)
  (have zzgB9 := Grow.base zzG9)
  (repeat (rename Run _ _ (Grow.R zzG9) => zzR9; have _ := Run.step zzR9 zzG9 (by kcf_m) (by kcf_all); clear zzR9))
  (repeat (rename DatIn (Grow.R zzG9) _ _ => zzhX9; have _ := DatIn.mono zzgB9 zzhX9; clear zzhX9))
  (repeat (rename DatAll (Grow.R zzG9) _ _ => zzhX9; have _ := DatAll.mono zzgB9 zzhX9; clear zzhX9))
  (repeat (rename IntsAt (Grow.R zzG9) _ _ => zzhX9; have _ := IntsAt.mono zzhX9 zzgB9; clear zzhX9))
  (repeat (rename (_ ∈ Grow.R zzG9) => zzhX9; have _ := zzgB9 _ zzhX9; clear zzhX9))
  (repeat (rename OffL (Grow.R zzG9) _ => zzhX9; have _ := Grow.offL zzG9 zzhX9 ⟨_, by k_mem⟩ (by k_all); clear zzhX9))
  (have zzhS9 := Grow.sub zzG9; (first | refine fd_6 zzhS9 ?_ | refine fd_5 zzhS9 ?_ | refine fd_4 zzhS9 ?_ | refine fd_3 zzhS9 ?_ | refine fd_2 zzhS9 ?_ | refine fd_1 zzhS9 ?_ | refine fd_0 zzhS9 ?_); clear zzhS9)
  clear zzgB9 zzG9
  intros))
  k_with "kqd_in" => (first | (refine' DatIn.mono ?kd1 ?kd2; (case kd2 => first | (with_reducible assumption) | assumption); (case kd1 => (intro _ zzhp9; repeat (first | exact zzhp9 | (refine' TailIs.sub ?kd3 _ zzhp9; (case kd3 => first | (refine' TailIs.rebase ?tr1; (case tr1 => (with_reducible assumption))) | (refine' TailIs.at ?tr1 _; (case tr1 => (with_reducible assumption))))) | refine List.mem_cons_of_mem _ ?_)))) | fail "kqd_in")
  k_with "kqd_all" => (first | (refine' DatAll.mono ?kd1 ?kd2; (case kd2 => first | (with_reducible assumption) | assumption); (case kd1 => (intro _ zzhp9; repeat (first | exact zzhp9 | (refine' TailIs.sub ?kd3 _ zzhp9; (case kd3 => first | (refine' TailIs.rebase ?tr1; (case tr1 => (with_reducible assumption))) | (refine' TailIs.at ?tr1 _; (case tr1 => (with_reducible assumption))))) | refine List.mem_cons_of_mem _ ?_)))) | fail "kqd_all")
  k_with "compareOp Eq ref ref" => ((k_here; (with_reducible show wpAny _ _ (compareOp CmpOp.Eq (Value.ref _) (Value.ref _)) _ _ _); k_dflt (refine' dat_eq ?n9 ?da (fun _ h => h) ?db (fun _ h => h) ?oa ?ob ?u9 ?_; (case n9 => k_asm); (case da => kqd_in); (case db => kqd_in); (case oa => first | exact domD_ok _ | rfl | (with_reducible assumption)); (case ob => first | exact domD_ok _ | rfl | (with_reducible assumption)); (case u9 => ktr_units); intro _ _)))
  k_with "compareOp NotEq ref ref" => ((k_here; (with_reducible show wpAny _ _ (compareOp CmpOp.NotEq (Value.ref _) (Value.ref _)) _ _ _); k_dflt (refine' dat_ne ?n9 ?da (fun _ h => h) ?db (fun _ h => h) ?oa ?ob ?u9 ?_; (case n9 => k_asm); (case da => kqd_in); (case db => kqd_in); (case oa => first | exact domD_ok _ | rfl | (with_reducible assumption)); (case ob => first | exact domD_ok _ | rfl | (with_reducible assumption)); (case u9 => ktr_units); intro _ _)))
  k_with "call builtin:list.append" => ((k_here; (with_reducible show wpAny _ _ (call (Value.builtin _) [Value.ref _, _]) _ _ _); k_dflt (refine' append_L ?k1 ?k2 ?k3 ?z ?_; (case k1 => k_asm); (case k2 => k_asm); (case k3 => k_upd); (case z => first | k_extra "OM" | ((simp only [List.length_cons, List.length_nil, List.length_append]); k_extra "OM")); k_whole); intro _ _ _; (try k_sweep)))
  k_with "call builtin:min" => ((k_here; (with_reducible show wpAny _ _ (call (Value.builtin _) [Value.ref _]) _ _ _); k_dflt ((refine' min_L ?f9 ?n9 ?m9 ?i9 ?z9 ?h9 ?_; (case f9 => k_asm); (case n9 => k_asm); (case m9 => k_mem); (case i9 => (with_reducible assumption)); (case z9 => first | k_extra "OM" | (simp_all; k_extra "OM")); (case h9 => with_unfolding_all rfl)); intro _ _ _ _ _)))
  k_with "call builtin:max" => ((k_here; (with_reducible show wpAny _ _ (call (Value.builtin _) [Value.ref _]) _ _ _); k_dflt ((refine' max_L ?f9 ?n9 ?m9 ?i9 ?z9 ?h9 ?_; (case f9 => k_asm); (case n9 => k_asm); (case m9 => k_mem); (case i9 => (with_reducible assumption)); (case z9 => first | k_extra "OM" | (simp_all; k_extra "OM")); (case h9 => with_unfolding_all rfl)); intro _ _ _ _ _)))
  k_with "ktr_rel" => (((case n9 => k_asm); (case b9 => k_asm); (case f9 => k_asm); (case x9 => k_asm); (case t9 => k_asm); (case k9 => first | exact rfl | (with_reducible assumption)); (case d9 => ktr_room); (case u9 => ktr_units)))
  trivial
theorem rows_C14_4 : True := by
  k_with "kcf_m" => ((intro zzq9 zzhq9; refine ⟨Prod.snd zzq9, ?_⟩; (repeat (first | exact zzhq9 | exact List.mem_append_left _ zzhq9 | (refine' TailIs.coverAt ?tc1 (Run.sub ?tc2) zzq9 zzhq9; (case tc1 => (with_reducible assumption)); (case tc2 => (with_reducible assumption))) | refine List.mem_cons_of_mem _ ?_ | refine List.mem_append_right _ ?_)); done))
  k_with "call builtin:len" => ((k_here; (with_reducible show wpAny _ _ (call (Value.builtin "len") [Value.ref _]) _ _ _); k_dflt (refine' len_L ?n9 ?m9 ?z9 ?_; (case n9 => k_asm); (case m9 => k_mem); (case z9 => (first | k_extra "OM" | ((simp only [List.length_append, List.length_cons, List.length_nil]); k_extra "OM"))); k_whole)))
  k_with "exec Assign cons ListComp" => ((k_here; (with_reducible show wpAny _ _ (exec _ _) _ _ _); refine Stop.intro ?_))
  k_with "eval ListComp" => ((k_here; (with_reducible show wpAny _ _ (eval (Expr.ListComp _ _ _ _) _) _ _ _); refine Stop.intro ?_))
  k_with "CompSrcT" => ((k_here; refine Stop.intro ?_))
  k_with "CompSrc" => ((k_here; refine Stop.intro ?_))
  k_with "CompEnd" => ((refine Stop.intro ?_))
  k_with "kqd_sub" => (first | (refine List.forall_mem_cons.mpr ⟨?kqa, ?kqb⟩; (case kqa => k_mem); (case kqb => kqd_sub)) | (intro _ zzhq9; (repeat (first | exact zzhq9 | refine List.mem_cons_of_mem _ ?_)); done))
  trivial
-- what a comparison has answered
theorem rows_C14_5 : True := by
  k_with "ANSWER" => (((rename Bool => zzt9); (rename (zzt9 = true ↔ _) => zzht9); (first | (have zze9 := zzht9.mpr (by first | rfl | (with_reducible assumption)); subst zze9) | (have zze9 := bool_no zzht9 (by first | (with_reducible assumption) | (intro zzh9; exact zzh9 rfl) | (intro zzh9; exact zzh9 (by (with_reducible assumption)))); subst zze9) | skip)))
  k_with "compareOp Eq ref ref" => ((k_here; (with_reducible show wpAny _ _ (compareOp CmpOp.Eq (Value.ref _) (Value.ref _)) _ _ _); k_dflt (refine' dat_eq ?n9 ?da (fun _ h => h) ?db (fun _ h => h) ?oa ?ob ?u9 ?_; (case n9 => k_asm); (case da => kqd_in); (case db => kqd_in); (case oa => first | exact domD_ok _ | rfl | (with_reducible assumption)); (case ob => first | exact domD_ok _ | rfl | (with_reducible assumption)); (case u9 => ktr_units); intro _ _; walk_at "ANSWER")))
  k_with "compareOp NotEq ref ref" => ((k_here; (with_reducible show wpAny _ _ (compareOp CmpOp.NotEq (Value.ref _) (Value.ref _)) _ _ _); k_dflt (refine' dat_ne ?n9 ?da (fun _ h => h) ?db (fun _ h => h) ?oa ?ob ?u9 ?_; (case n9 => k_asm); (case da => kqd_in); (case db => kqd_in); (case oa => first | exact domD_ok _ | rfl | (with_reducible assumption)); (case ob => first | exact domD_ok _ | rfl | (with_reducible assumption)); (case u9 => ktr_units); intro _ _; walk_at "ANSWER")))
  k_with "compareOp NotEq ref ref" => ((k_here; (with_reducible show wpAny _ _ (compareOp CmpOp.NotEq (Value.ref _) (Value.ref _)) _ _ _); k_dflt (refine' ints_ne ?n9 ?a9 ?i9 ?b9 ?j9 ?u9 ?_; (case n9 => k_asm); (case a9 => k_mem); (case b9 => k_mem); (case i9 => first | (with_reducible assumption) | exact IntsAre.nil); (case j9 => first | (with_reducible assumption) | exact IntsAre.nil); (case u9 => ktr_units); intro _ _; walk_at "ANSWER")))
  k_with "compareOp Eq ref ref" => ((k_here; (with_reducible show wpAny _ _ (compareOp CmpOp.Eq (Value.ref _) (Value.ref _)) _ _ _); k_dflt (refine' ints_eq ?n9 ?a9 ?i9 ?b9 ?j9 ?u9 ?_; (case n9 => k_asm); (case a9 => k_mem); (case b9 => k_mem); (case i9 => first | (with_reducible assumption) | exact IntsAre.nil); (case j9 => first | (with_reducible assumption) | exact IntsAre.nil); (case u9 => ktr_units); intro _ _; walk_at "ANSWER")))
  k_with "TAILFOR" => (first | (refine' TailFor.rebase ?tf1; (case tf1 => (with_reducible assumption))) | (refine' TailFor.at ?tf1 _; (case tf1 => (with_reducible assumption))) | (refine' TailFor.moveT ?tl9; (case tl9 => walk_at "TAILFOR")) | (refine' TailFor.moveA ?tl9; (case tl9 => walk_at "TAILFOR")) | (refine' TailFor.cons ?tl9; (case tl9 => walk_at "TAILFOR")) | exact TailFor.nil | (refine' TailFor.pre ?tl9; (case tl9 => walk_at "TAILFOR")))
  k_with "call ref" => ((k_here; (with_reducible show wpAny _ _ (call (Value.ref 42) _) _ _ _); k_dflt (first | ((refine' Call.cps (fromValues_f ?ti ?m9 ?i9 ?ln ?as) t_gD ?b9 ?f9 ?x9 ?t9 ?k9 ?d9 ?u9 ?n9 ?_; ktr_rel; (case ti => walk_at "TAILFOR"); (case m9 => k_mem); (case i9 => (with_reducible assumption)); (case ln => first | k_extra "OM" | (with_reducible assumption)); (case as => (with_reducible assumption))); intro _ _ _ _ _ _ _ zzN9; (try dsimp only at zzN9); tb_start) | (fail_if_success skip) | refine Stop.intro ?_)))
  k_with "call ref" => ((k_here; (with_reducible show wpAny _ _ (call (Value.ref 283) _) _ _ _); k_dflt (first | ((refine' Call.cps (bars_c ?m9) t_bool ?b9 ?f9 ?x9 ?t9 ?k9 ?d9 ?u9 ?n9 ?_; ktr_rel; (case m9 => k_mem)); intro _ _ _ _ _ _) | refine Stop.intro ?_)))
  k_with "setItem ref int ref" => ((k_here; (with_reducible show wpAny _ _ (setItem (Value.ref _) (Value.int _ _) (Value.ref _)) _ _ _); k_dflt (refine' set_sel ?f9 ?n9 ?x9 ?u9 ?_; (case f9 => k_asm); (case n9 => k_asm); (case x9 => (with_reducible assumption)); (case u9 => k_upd); k_whole; intro _ _ _)))
  k_with "kcf_all" => ((intro zzq9 zzhq9 zzho9; repeat (first | exact zzho9 | refine List.forall_mem_cons.mpr ⟨tmp_ne (by (with_reducible assumption)) (by kcf_m) zzq9 zzhq9, ?_⟩ | refine List.forall_mem_cons.mpr ⟨tmp_off (by (with_reducible assumption)) (by kcf_m) zzq9 zzhq9, ?_⟩)))
  k_with "subscriptTail Attribute Name Name ref int" => ((k_here; (with_reducible show wpAny _ _ (subscriptTail _ _ (Value.ref _) (Value.int _ _)) _ _ _); k_dflt (refine' item_sel ?n9 ?m9 ?x9 ?_ ?s9; (case n9 => k_asm); (case x9 => (with_reducible assumption)); (case m9 => k_mem); (case s9 => with_unfolding_all rfl); k_whole)))
  k_with "subscriptTail Name Name ref int" => ((k_here; (with_reducible show wpAny _ _ (subscriptTail _ _ (Value.ref _) (Value.int _ _)) _ _ _); k_dflt (refine' item_sel ?n9 ?m9 ?x9 ?_ ?s9; (case n9 => k_asm); (case x9 => (with_reducible assumption)); (case m9 => k_mem); (case s9 => with_unfolding_all rfl); k_whole)))
  k_with "subscriptTail Attribute Name Constant ref int" => ((k_here; (with_reducible show wpAny _ _ (subscriptTail _ _ (Value.ref _) (Value.int (OfNat.ofNat _) _)) _ _ _); k_dflt (refine' item_tup ?n9 ?m9 ?x9 ?y9 ?z9 ?_ ?s9; (case n9 => k_asm); (case m9 => k_mem); (case x9 => rfl); (case y9 => decide); (case z9 => decide); (case s9 => with_unfolding_all rfl); k_whole)))
  k_with "subscriptTail Subscript Attribute Constant Constant ref int" => ((k_here; (with_reducible show wpAny _ _ (subscriptTail _ _ (Value.ref _) (Value.int (OfNat.ofNat _) _)) _ _ _); k_dflt (refine' item_tup ?n9 ?m9 ?x9 ?y9 ?z9 ?_ ?s9; (case n9 => k_asm); (case m9 => k_mem); (case x9 => rfl); (case y9 => decide); (case z9 => decide); (case s9 => with_unfolding_all rfl); k_whole)))
  k_with "subscriptTail Name Constant ref int" => ((k_here; (with_reducible show wpAny _ _ (subscriptTail _ _ (Value.ref _) (Value.int (OfNat.ofNat _) _)) _ _ _); k_dflt (refine' item_tup ?n9 ?m9 ?x9 ?y9 ?z9 ?_ ?s9; (case n9 => k_asm); (case m9 => k_mem); (case x9 => rfl); (case y9 => decide); (case z9 => decide); (case s9 => with_unfolding_all rfl); k_whole)))
  k_with "call builtin:all" => ((k_here; (with_reducible show wpAny _ _ (call (Value.builtin "all") [Value.ref _]) _ _ _); k_dflt (refine' all_true ?f9 ?n9 ?h9 ?m9 ?b9 ?_; (case f9 => k_asm); (case n9 => k_asm); (case h9 => rfl); (case m9 => k_mem); (case b9 => (with_reducible assumption))); intro _ _ _ _))
  trivial
theorem clash_some {w : World} {K : Sk} {si sd dl fl tl ml nd ln lh a0 a1 ca la : Addr} {sp : Int} {st tx t₁ t₂ t₃ : Tok} {fa : Bool} {n1 nn nh nc nl : Nat} {nv hv : List Value} {ns q : List Int} {x k : Int} {sg : Sg} {others r0 rest : Led} {g : Led → Led}
  (TI : TailIs others r0 rest g) (hsi : (si, instObj 265 sd) ∈ rest) (Dx : DatIn rest (.ref (sel x a0 a1)) (domD (ivs (someL ns q))))
  (hca : (ca, tupO [.ref la] nc) ∈ rest) (hla : (la, tupO [.int x t₁, .str sg.str t₂, .int k t₃] nl) ∈ rest)
  (hln : (ln, listOf nv.toArray nn) ∈ rest) (hi : IntsAre nv ns) (hlh : (lh, listOf hv.toArray nh) ∈ rest) (hh : IntsAre hv q) (hq : Good q) (hnz : ns ≠ []) (hnb : ∀ v ∈ ns, -2 ≤ v ∧ v < 10) (hnl : ns.length ≤ 3) (hx : x = 0 ∨ x = 1)
  (hno : ∀ v ∈ someL ns q, ¬ barsP sg k v) (hyes : ∀ v, minI ns ≤ v → v ≤ maxI ns → barsP sg k v) :
  Call w 6 293 [.ref si, .int x tx, .ref ln, .ref lh] ((sd, sdO w K dl fl tl ml nd sp st fa ca) :: (dl, listOf [Value.ref a0, .ref a1].toArray n1) :: others) (fun r nw =>
    ∃ rest', r = .bool true ∧ nw = (sd, sdO w K dl fl tl ml nd sp st fa ca) :: (dl, listOf [Value.ref a0, .ref a1].toArray n1) :: g rest' ∧
      Grow ((sd, sdO w K dl fl tl ml nd sp st fa ca) :: (dl, listOf [Value.ref a0, .ref a1].toArray n1) :: others) r0 rest rest') := by
  intro p loose mean mg mb dp un gd cn cs a ccd cl outer A₀ base h₀ L m s Q E B F X T hk hd hu N hret
  revert X; k_fill; intro X
  have R0 : Run ((sd, sdO w K dl fl tl ml nd sp st fa ca) :: (dl, listOf [Value.ref a0, .ref a1].toArray n1) :: others) rest rest := Run.refl
  have hql := hq.len
  have hqs := hq.asc
  have hql' : q.length < 64 := by k_extra "OM"
  have hnp : 0 < ns.length := List.length_pos_iff.mpr hnz
  have hmn := minI_spec hnp
  have hmx := maxI_spec hnp
  have hmb := hnb _ hmn.1
  have hxb := hnb _ hmx.1
  w_strict (
    refine wpAny_call ?_
    k_dflt k_enter
    k_steps
    unfold Stop
    k_dflt (refine LCt.Assign_ListComp_T (F₀ := by k_asm) (by rfl) (by with_unfolding_all rfl) (by with_unfolding_all rfl) (by decide) (by rfl) (by decide) (by rfl) (by rfl) (by rfl) ?_)
    k_steps
    unfold Stop
    (rename Fr _ _ _ _ => F1; rename News _ _ _ _ => N1)
    refine LCt.CompSrcT.ledger rfl F1 N1 (by k_mem) (by rw [List.size_toArray, hh.length, sizeLine_eq]; k_extra "OM") fun g8 => filtT (fun v => !barsB .ge (minI ns) v) hh (.inr ⟨_, by k_mem, rfl, _, rfl⟩) ?_ ?_
    · clear F1 N1
      intro k t ys I oI C oC D m₂ h tk E' hkq hC hx' F2 N2 off ne
      k_steps
      all_goals (rename Fr _ _ _ _ => F9; rename News _ _ _ _ => N9)
      · exact FiltEnd.intro (by (rename _ ≤ _ => hle); simp only [barsB]; simpa using hle) F9 N9 (by kqd_sub)
      · exact FiltEnd.intro (by (rename ¬ _ ≤ _ => hle); simp only [barsB]; simpa using hle) F9 N9 (by kqd_sub)
    · intro ys (hys : IntsAre ys (keepL .ge (minI ns) q))
      have hka : (keepL .ge (minI ns) q).Pairwise (· < ·) := keepL_asc hqs
      have hkl : (keepL .ge (minI ns) q).length < 64 := Nat.lt_of_le_of_lt (List.length_filter_le ..) hql'
      clear F1 N1
      unfold FinA
      intro D h tk F2 N2 o2'
      replace o2' := off1_mem o2'
      dsimp only
      rcases Classical.em (keepL .ge (minI ns) q = []) with hz | hz
      all_goals (first | rw [someL, if_pos hz] at Dx hno | rw [someL, if_neg hz] at Dx hno)
      all_goals k_steps
      all_goals try (exfalso; (rename x ≠ x => hZ); exact hZ rfl)
      all_goals (
        unfold Stop
        k_dflt (refine LCt.ListComp_T (F₀ := by k_asm) (by with_unfolding_all rfl) (by decide) (by rfl) (by decide) (by rfl) ?_)
        k_steps
        unfold Stop
        (rename Fr _ _ _ _ => F1; rename News _ _ _ _ => N1)
        refine LCt.CompSrcT.ledger rfl F1 N1 (by k_mem) (by rw [List.size_toArray]; (first | rw [hh.length] | rw [hys.length]); rw [sizeLine_eq]; k_extra "OM") fun g8 => filtT (fun v => barsB sg k v) (by assumption) (.inr ⟨_, by k_mem, rfl, _, rfl⟩) ?_ ?_
        · clear F1 N1
          intro k t ys I oI C oC D m₂ h tk E' hkq hC hx' F2 N2 off ne
          k_steps
          all_goals (rename Fr _ _ _ _ => F9; rename News _ _ _ _ => N9; rename (_ = true ↔ barsP _ _ _) => hb9)
          · exact FiltEnd.intro (bars_yes hb9 (by assumption)) F9 N9 (by kqd_sub)
          · exact FiltEnd.intro (bars_no hb9 (by assumption)) F9 N9 (by kqd_sub)
        · rw [filt_none hno]
          intro ys hys
          clear F1 N1
          unfold FinE
          intro D h tk F2 N2 o2'
          replace o2' := off1_mem o2'
          dsimp only
          k_steps
          unfold Stop
          k_dflt (refine ListComp_U (F₀ := by k_asm) (by with_unfolding_all rfl) (by decide) (by rfl) (by decide) (by rfl) ?_)
          k_steps
          unfold Stop
          (rename Fr _ _ _ _ => F1; rename News _ _ _ _ => N1; rename IsRange _ _ _ _ _ _ _ _ => R1)
          refine CompSrc.range rfl F1 N1 R1 (small_one (by k_extra "OM") (by k_extra "OM") (by k_extra "OM") (by k_extra "OM")) (rangeSize_nat _ _) (by rw [sizeLine_eq]; k_extra "OM") fun g8 => rest_inv (fun i ys nw => nw = _ ∧ LSm.BoolsAre ys (List.replicate i true)) ⟨rfl, .nil⟩ ?_ ?_
          · clear F1 N1 R1
            rintro i v ys _ I oI C oC D m₂ h tk E' hi8 ⟨tv, rfl⟩ ⟨rfl, hb⟩ hC hx' F2 N2 off ne
            k_steps
            unfold Stop
            (rename Fr _ _ _ _ => F9; rename News _ _ _ _ => N9; rename (_ = true ↔ barsP _ _ _) => hb9)
            have e9 := hb9.mpr (hyes _ (by k_extra "OM") (by k_extra "OM"))
            subst e9
            exact CompEnd.intro F9 N9 _ (by kqd_sub) (Off3.of off) trivial ⟨rfl, by rw [List.replicate_succ']; exact bools_snoc hb⟩
          · rintro ys _ ⟨rfl, hb⟩
            clear F1 N1 R1
            unfold FinE
            intro D h tk F2 N2 o2'
            replace o2' := off1_mem o2'
            dsimp only
            k_steps
            (rename Run _ _ _ => R9; rename Fr _ _ _ _ => F9; rename News _ _ _ _ => N9)
            have N8 : News _ _ _ ((sd, _) :: (dl, _) :: _) := fun p hp => N9 p (by repeat (first | exact hp | refine List.mem_cons_of_mem _ ?_))
            refine' hret _ _ _ _ F9 (TailIs.news ?t9 N8) ?p9
            case t9 => tb_rel
            case p9 => exact ⟨_, rfl, rfl, Run.grow TI.base R9⟩))
theorem rows_C15_0 : True := by
  k_with_none
  w_top off
  trivial
theorem between_c {w : World} {K : Sk} {si sd dl fl tl ml nd ln a0 a1 ca : Addr} {no : Obj} {sp : Int} {st tx : Tok} {fa : Bool} {n1 n2 nn : Nat} {tv nv : List Value} {tr : List Ent} {d0 d1 : Dom} {x : Int} {ns : List Int} {news l1 l2 l3 others r0 rest : Led} {g : Led → Led}
  (P1 : Pull sd (sdO w K dl fl tl ml nd sp st fa ca) news l1) (P2 : Pull dl (listOf [Value.ref a0, .ref a1].toArray n1) l1 l2) (P3 : Pull tl (listOf tv.toArray n2) l2 l3) (P4 : Pull nd no l3 others)
  (TI : TailFor ln others r0 rest g) (hsi : (si, instObj 265 sd) ∈ rest) (D0 : DatIn rest (.ref a0) (domD d0)) (D1 : DatIn rest (.ref a1) (domD d1))
  (Dt : DatAll rest tv (tr.map entD)) (hx : x = 0 ∨ x = 1) (hl0 : d0.length ≤ 900) (hl1 : d1.length ≤ 900) (htv : tr.length ≤ 900) (hno : NewsO w no) (hln : (ln, listOf nv.toArray nn) ∈ rest) (hi : IntsAre nv ns) (hns : ns.length ≤ 1000) :
  Call w 7 28 [.ref si, .int x tx, .ref ln] news (fun r nw =>
    ∃ fa' ca' a0' a1' tv' n1' n2' no' rest', r = .bool (betwF x sp ns (sel x d0 d1) tr).ok ∧ nw = (sd, sdO w K dl fl tl ml nd sp st fa' ca') :: (dl, listOf [Value.ref a0', .ref a1'].toArray n1') :: (tl, listOf tv'.toArray n2') :: (nd, no') :: g rest' ∧
      Grow news r0 rest rest' ∧ NewsO w no' ∧
      DatIn rest' (.ref a0') (domD (sel x (betwF x sp ns (sel x d0 d1) tr).dx d0)) ∧ DatIn rest' (.ref a1') (domD (sel x d1 (betwF x sp ns (sel x d0 d1) tr).dx)) ∧ DatAll rest' tv' ((betwF x sp ns (sel x d0 d1) tr).tr.map entD) ∧
      ((betwF x sp ns (sel x d0 d1) tr).ok = true → fa' = fa ∧ ca' = ca) ∧ ((betwF x sp ns (sel x d0 d1) tr).ok = false → fa' = true ∧ DatIn rest' (.ref ca') (.tuple (betwF x sp ns (sel x d0 d1) tr).cl))) := by
  obtain ⟨hs, hc, o1, o2, o3, o4, h12, h13, h14, h23, h24, h34⟩ := pull4 P1 P2 P3 P4
  refine Call.sub (Call.mono (between_c0 (w := w) (K := K) (fl := fl) (ml := ml) (sp := sp) (st := st) (fa := fa) (ca := ca) (n1 := n1) (n2 := n2) TI.is hsi D0 D1 Dt hx hl0 hl1 htv hno hln hi hns o1 o2 o3 o4 h12 h13 h14 h23 h24 h34) (Nat.le_refl _) fun r nw hp => ?_) hs
  exact el_9_9 hp fun fa' ca' a0' a1' tv' n1' n2' no' rest' a b G c d e f i j => in_9_9 fa' ca' a0' a1' tv' n1' n2' no' rest' a b (G.cov hc) c d e f i j
theorem between_cT {w : World} {cl : List Dat} {tr2 : List Ent} {dx u0 u1 : Dom} {K : Sk} {si sd dl fl tl ml nd ln a0 a1 ca : Addr} {no : Obj} {sp : Int} {st tx : Tok} {fa : Bool} {n1 n2 nn : Nat} {tv nv : List Value} {tr : List Ent} {d0 d1 : Dom} {x : Int} {ns : List Int} {news l1 l2 l3 others r0 rest : Led} {g : Led → Led}
  (P1 : Pull sd (sdO w K dl fl tl ml nd sp st fa ca) news l1) (P2 : Pull dl (listOf [Value.ref a0, .ref a1].toArray n1) l1 l2) (P3 : Pull tl (listOf tv.toArray n2) l2 l3) (P4 : Pull nd no l3 others)
  (TI : TailFor ln others r0 rest g) (hsi : (si, instObj 265 sd) ∈ rest) (D0 : DatIn rest (.ref a0) (domD d0)) (D1 : DatIn rest (.ref a1) (domD d1))
  (Dt : DatAll rest tv (tr.map entD)) (hx : x = 0 ∨ x = 1) (hl0 : d0.length ≤ 900) (hl1 : d1.length ≤ 900) (htv : tr.length ≤ 900) (hno : NewsO w no) (hln : (ln, listOf nv.toArray nn) ∈ rest) (hi : IntsAre nv ns) (hns : ns.length ≤ 1000) (eb : betwF x sp ns (sel x d0 d1) tr = ⟨true, dx, tr2, cl⟩) (e0 : sel x dx d0 = u0) (e1 : sel x d1 dx = u1) :
  Call w 7 28 [.ref si, .int x tx, .ref ln] news (fun r nw =>
    ∃ a0' a1' tv' n1' n2' no' rest', r = .bool true ∧ nw = (sd, sdO w K dl fl tl ml nd sp st fa ca) :: (dl, listOf [Value.ref a0', .ref a1'].toArray n1') :: (tl, listOf tv'.toArray n2') :: (nd, no') :: g rest' ∧
      Grow news r0 rest rest' ∧ NewsO w no' ∧ DatIn rest' (.ref a0') (domD u0) ∧ DatIn rest' (.ref a1') (domD u1) ∧ DatAll rest' tv' (tr2.map entD)) := by
  refine Call.mono (between_c (K := K) (fl := fl) (ml := ml) (sp := sp) (st := st) (fa := fa) (ca := ca) (n1 := n1) (n2 := n2) P1 P2 P3 P4 TI hsi D0 D1 Dt hx hl0 hl1 htv hno hln hi hns) (Nat.le_refl _) fun r nw hp => ?_
  rw [eb] at hp
  dsimp only at hp
  rw [e0, e1] at hp
  refine el_9_9 hp fun fa' ca' a0' a1' tv' m1' m2' no' rest9 e9 e9' G9 Hn D0' D1' Dt' ft _ => ?_
  obtain ⟨rfl, rfl⟩ := ft rfl
  exact in_7_7 a0' a1' tv' m1' m2' no' rest9 e9 e9' G9 Hn D0' D1' Dt'
theorem between_cF {w : World} {cl : List Dat} {tr2 : List Ent} {dx u0 u1 : Dom} {K : Sk} {si sd dl fl tl ml nd ln a0 a1 ca : Addr} {no : Obj} {sp : Int} {st tx : Tok} {fa : Bool} {n1 n2 nn : Nat} {tv nv : List Value} {tr : List Ent} {d0 d1 : Dom} {x : Int} {ns : List Int} {news l1 l2 l3 others r0 rest : Led} {g : Led → Led}
  (P1 : Pull sd (sdO w K dl fl tl ml nd sp st fa ca) news l1) (P2 : Pull dl (listOf [Value.ref a0, .ref a1].toArray n1) l1 l2) (P3 : Pull tl (listOf tv.toArray n2) l2 l3) (P4 : Pull nd no l3 others)
  (TI : TailFor ln others r0 rest g) (hsi : (si, instObj 265 sd) ∈ rest) (D0 : DatIn rest (.ref a0) (domD d0)) (D1 : DatIn rest (.ref a1) (domD d1))
  (Dt : DatAll rest tv (tr.map entD)) (hx : x = 0 ∨ x = 1) (hl0 : d0.length ≤ 900) (hl1 : d1.length ≤ 900) (htv : tr.length ≤ 900) (hno : NewsO w no) (hln : (ln, listOf nv.toArray nn) ∈ rest) (hi : IntsAre nv ns) (hns : ns.length ≤ 1000) (eb : betwF x sp ns (sel x d0 d1) tr = ⟨false, dx, tr2, cl⟩) (e0 : sel x dx d0 = u0) (e1 : sel x d1 dx = u1) :
  Call w 7 28 [.ref si, .int x tx, .ref ln] news (fun r nw =>
    ∃ ca' a0' a1' tv' n1' n2' no' rest', r = .bool false ∧ nw = (sd, sdO w K dl fl tl ml nd sp st true ca') :: (dl, listOf [Value.ref a0', .ref a1'].toArray n1') :: (tl, listOf tv'.toArray n2') :: (nd, no') :: g rest' ∧
      Grow news r0 rest rest' ∧ NewsO w no' ∧ DatIn rest' (.ref a0') (domD u0) ∧ DatIn rest' (.ref a1') (domD u1) ∧ DatAll rest' tv' (tr2.map entD) ∧ DatIn rest' (.ref ca') (.tuple cl)) := by
  refine Call.mono (between_c (K := K) (fl := fl) (ml := ml) (sp := sp) (st := st) (fa := fa) (ca := ca) (n1 := n1) (n2 := n2) P1 P2 P3 P4 TI hsi D0 D1 Dt hx hl0 hl1 htv hno hln hi hns) (Nat.le_refl _) fun r nw hp => ?_
  rw [eb] at hp
  dsimp only at hp
  rw [e0, e1] at hp
  refine el_9_9 hp fun fa' ca' a0' a1' tv' m1' m2' no' rest9 e9 e9' G9 Hn D0' D1' Dt' _ ft => ?_
  obtain ⟨rfl, Dc⟩ := ft rfl
  exact in_8_8 ca' a0' a1' tv' m1' m2' no' rest9 e9 e9' G9 Hn D0' D1' Dt' Dc
theorem br_eq {b : BR} {o : Bool} {d : Dom} {t : List Ent} (h1 : b.ok = o) (h2 : b.dx = d) (h3 : b.tr = t) : b = ⟨o, d, t, b.cl⟩ := by subst h1; subst h2; subst h3; rfl
theorem datAll_drop {r : Led} : ∀ {vs : List Value} {ds : List Dat} (k : Nat), DatAll r vs ds → DatAll r (vs.drop k) (ds.drop k)
  | _, _, 0, h => h
  | _, _, _ + 1, .nil => .nil
  | _, _, k + 1, .cons _ h => datAll_drop k h
theorem cuts_int {ns q : List Int} : ((cutsOf ns q : Nat) : Int) = (if decide (q.headD 0 < minI ns) = true then 1 else 0) + (if decide (q.getLastD 0 > maxI ns) = true then 1 else 0) := by
  unfold cutsOf; simp only [decide_eq_true_eq]; split <;> split <;> rfl
theorem pick_from {vs : List Value} {x : Int} (h : 0 ≤ x) : (slicePick vs.toArray (some x) none none).toList = vs.drop x.toNat := by
  have e := slicePick_from' vs.toArray x.toNat
  rw [Int.toNat_of_nonneg h] at e
  rw [e]
section
variable {prog : Program} {w : World} {A : Around} {E : Value → Shared → Prop} {s : Shared} {h₀ : Heap} {L D : Addr} {m : Str → Option Value} {news : Led} {vs : List Value} {q : List Int} {n : Nat}
theorem head_int {value slice : PySem.Expr} {u : Tok} {Q : Value → Shared → Prop} (N : News h₀ L s.heap news) (hm : (D, listOf vs.toArray n) ∈ news) (hi : IntsAre vs q) (hq : Good q) (h : ∀ t, Q (.int (q.headD 0) t) s)
    (hs : subscripted slice false (.ref D) (.int 0 u) = operate [.ref D, .int 0 u] (getItem (.ref D) (.int 0 u)) := by with_unfolding_all rfl) :
    wpAny (model prog w) A (subscriptTail value slice (.ref D) (.int 0 u)) Q E s := by
  have hl := PySem.IsL.isList (n := n) (N _ hm).1
  cases hi with
  | nil => exact absurd rfl hq.ne
  | cons a t hi => exact tail_any hl.typeIs slot_list_getitem.lookup (wpAny_getItem_list hl (by decide) (by decide) (x := .int a t) (by simp) (h t)) hs
theorem last_int {value slice : PySem.Expr} {u : Tok} {Q : Value → Shared → Prop} (N : News h₀ L s.heap news) (hm : (D, listOf vs.toArray n) ∈ news) (hi : IntsAre vs q) (hq : Good q) (h : ∀ t, Q (.int (q.getLastD 0) t) s)
    (hs : subscripted slice false (.ref D) (.int (-1) u) = operate [.ref D, .int (-1) u] (getItem (.ref D) (.int (-1) u)) := by with_unfolding_all rfl) :
    wpAny (model prog w) A (subscriptTail value slice (.ref D) (.int (-1) u)) Q E s := by
  rcases List.eq_nil_or_concat q with rfl | ⟨i, a, rfl⟩
  · exact absurd rfl hq.ne
  · rw [List.concat_eq_append] at hi h
    have hlen := hi.length
    obtain ⟨t, ht⟩ := hi.get i.length a (by simp)
    have e : vs = vs.take i.length ++ [.int a t] := by
      have h2 := (List.getElem?_eq_some_iff.mp ht)
      obtain ⟨hlt, he⟩ := h2
      have h3 := List.take_append_drop i.length vs
      rw [List.drop_eq_getElem_cons hlt, he, List.drop_of_length_le (by simp at hlen; omega)] at h3
      exact h3.symm
    rw [e] at hm
    refine last_get N hm ?_ hs
    have := h t
    simpa using this
theorem trail_from {value slice : PySem.Expr} {k : Int} {u : Tok} {Q : Value → Shared → Prop} (F : Fr h₀ L s.heap m) (N : News h₀ L s.heap news) (hm : (D, listOf vs.toArray n) ∈ news) (h0 : 0 ≤ k) (hz : vs.length ≤ 1000)
    (h : ∀ T h', Fr h₀ L h' m → News h₀ L h' ((T, listOf (vs.drop k.toNat).toArray 0) :: news) → (∀ p ∈ news, p.1 < T) → Q (.ref T) { s with heap := h' })
    (hs : subscripted slice false (.ref D) (.ref s.heap.objs.size) = operate [.ref s.heap.objs.size, .ref D] (getItem (.ref D) (.ref s.heap.objs.size))) (ht : ∀ r, letTemporaryGo value (.ref D) r = pure ()) :
    wpAny (model prog w) A (subscriptTail value slice (.ref D) (.ref s.heap.objs.size)) Q E { s with heap := s.heap.push { cls := .type "slice", data := .fields #[.int k u, .none, .none] } } :=
  kmk_slice_lit F N (News.isList N hm) (IsPart.int _ _) IsPart.none (pick_from h0) h hs ht (by rw [List.size_toArray, sizeLine_eq]; omega)
end
theorem rows_C15_1 : True := by
  k_with "LT9" => (first | (with_reducible assumption) | (refine' ltM ?lt1 ?lt2; (case lt1 => (with_reducible assumption)); (case lt2 => (repeat (first | exact List.Mem.head _ | refine List.Mem.tail _ ?_)); done)) | (refine' ltT ?lt0 ?lt1 ?lt2; (case lt0 => (with_reducible assumption)); (case lt1 => (with_reducible assumption)); (case lt2 => (repeat (first | exact List.Mem.head _ | refine List.Mem.tail _ ?_)); done)) | fail "LT9")
  k_with "k_ne" => (first | (with_reducible assumption) | (refine' Ne.symm ?ne1; (case ne1 => (with_reducible assumption))) | (refine neG ?_; walk_at "LT9") | (refine neL ?_; walk_at "LT9") | (refine neS ?_; walk_at "LT9") | (refine neT ?_; walk_at "LT9") | (refine neS2 ?_; walk_at "LT9") | (refine neT2 ?_; walk_at "LT9") | (refine neS3 ?_; walk_at "LT9") | (refine neT3 ?_; walk_at "LT9") | (refine' neM (l := _ :: _) ?lt1 ?lt2; (case lt1 => (with_reducible assumption)); (case lt2 => (repeat (first | exact List.Mem.head _ | refine List.Mem.tail _ ?_)); done)) | (refine' neN (l := _ :: _) ?lt1 ?lt2; (case lt1 => (with_reducible assumption)); (case lt2 => (repeat (first | exact List.Mem.head _ | refine List.Mem.tail _ ?_)); done)) | exact nc12 | exact nc21 | exact nc13 | exact nc31 | exact nc23 | exact nc32 | fail "k_ne")
  k_with "ktr_room" => (first | (rename (_ + _ < recursionLimit) => zzh9; first | exact rmU 0 zzh9 rfl rfl | exact rmU 1 zzh9 rfl rfl | exact rmU 2 zzh9 rfl rfl | exact rmU 3 zzh9 rfl rfl | exact rmU 4 zzh9 rfl rfl | exact rmU 5 zzh9 rfl rfl | exact rmU 6 zzh9 rfl rfl | exact rmU 7 zzh9 rfl rfl | exact rmU 8 zzh9 rfl rfl | exact rmU 9 zzh9 rfl rfl) | exact ltB rfl)
  k_with "ktr_units" => (first | (rename (_ + _ + _ < cLine) => zzh9; first | exact umU 0 zzh9 rfl rfl | exact umU 3 zzh9 rfl rfl | exact umU 6 zzh9 rfl rfl | exact umU 9 zzh9 rfl rfl | exact umU 12 zzh9 rfl rfl | exact umU 1 zzh9 rfl rfl | exact umU 4 zzh9 rfl rfl | exact umU 7 zzh9 rfl rfl | exact umU 10 zzh9 rfl rfl | exact umU 2 zzh9 rfl rfl | exact umU 5 zzh9 rfl rfl | exact umU 8 zzh9 rfl rfl | exact umU 11 zzh9 rfl rfl | exact umU 13 zzh9 rfl rfl | exact umU 14 zzh9 rfl rfl | exact umU 15 zzh9 rfl rfl | exact umV 0 zzh9 rfl rfl | exact umV 3 zzh9 rfl rfl | exact umV 6 zzh9 rfl rfl | exact umV 9 zzh9 rfl rfl | exact umV 12 zzh9 rfl rfl | exact umV 1 zzh9 rfl rfl | exact umV 4 zzh9 rfl rfl | exact umV 7 zzh9 rfl rfl | exact umV 10 zzh9 rfl rfl | exact umV 2 zzh9 rfl rfl | exact umV 5 zzh9 rfl rfl | exact umV 8 zzh9 rfl rfl | exact umV 11 zzh9 rfl rfl | exact umV 13 zzh9 rfl rfl | exact umV 14 zzh9 rfl rfl | exact umV 15 zzh9 rfl rfl) | exact ltB rfl)
  k_with "OM" => (first | (with_reducible assumption) | exact Nat.zero_le _ | (refine' leB ?om1 ?om2; (case om1 => (with_reducible assumption)); (case om2 => (fail_if_success (fail_if_success decide)); exact rfl)) | (refine' leS ?om1 ?om2; (case om1 => (with_reducible assumption)); (case om2 => (fail_if_success (fail_if_success decide)); exact rfl)) | (with_reducible refine' ltL ?om1 ?om2; (case om1 => (with_reducible assumption)); (case om2 => (fail_if_success (fail_if_success decide)); exact rfl)) | ((fail_if_success (fail_if_success decide)); exact ltB rfl) | (refine' i0_1 ?om1; (case om1 => (with_reducible assumption))) | (refine' i0_2 ?om1; (case om1 => (with_reducible assumption))) | (refine' i0_3 ?om1; (case om1 => (with_reducible assumption))) | (refine' il_0 ?om1 ?om2; (case om1 => (with_reducible assumption)); (case om2 => decide)) | (refine' il_1 ?om1 ?om2; (case om1 => (with_reducible assumption)); (case om2 => decide)) | (refine' il_2 ?om1 ?om2; (case om1 => (with_reducible assumption)); (case om2 => decide)) | (refine' il_3 ?om1 ?om2; (case om1 => (with_reducible assumption)); (case om2 => decide)) | exact ia_3 | exact ia_5 | exact ic_0 | decide | omega)
  k_with "k_all" => (first
  | (with_reducible assumption)
  | (refine' OffL.out ?ko1; (case ko1 => (with_reducible assumption)))
  | (refine' offA ?ko1; (case ko1 => (with_reducible assumption)))
  | (refine' TailIs.offAtL ?ko1 ?ko2 ?ko3; (case ko1 => (with_reducible assumption)); (case ko2 => (with_reducible assumption)); (case ko3 => (with_reducible assumption)))
  | (refine' offC ?ka1 ?ka2; (case ka1 => first | (refine' Apart.l ?kp1; (case kp1 => (with_reducible assumption))) | (refine' Apart.r ?kp1; (case kp1 => (with_reducible assumption))) | k_ne); (case ka2 => k_all))
  | assumption)
  k_with "k_upd" => (first | (refine' Upd.head ?ku1; (case ku1 => k_all)) | (refine' Upd.tail ?ku1 ?ku2; (case ku1 => first | (refine' Apart.l ?kp1; (case kp1 => (with_reducible assumption))) | (refine' Apart.r ?kp1; (case kp1 => (with_reducible assumption))) | k_ne); (case ku2 => k_upd)) | fail "k_upd")
  k_with "k_updF" => (first | (refine' Pull.head ?kf1; (case kf1 => k_all)) | (refine' Pull.tail ?_ ?kf2; (case kf2 => k_updF); (first | (refine' Apart.l ?kp1; (case kp1 => (with_reducible assumption))) | (refine' Apart.r ?kp1; (case kp1 => (with_reducible assumption))) | k_ne)) | (refine' UpdF.head ?kf1; (case kf1 => k_all)) | (refine' UpdF.tail ?_ ?kf2; (case kf2 => k_updF); (first | (refine' Apart.l ?kp1; (case kp1 => (with_reducible assumption))) | (refine' Apart.r ?kp1; (case kp1 => (with_reducible assumption))) | k_ne)) | fail "k_updF")
  k_with "k_mem" => (first | (refine mem_of ?_; (with_reducible assumption)) | (refine mem_of ?_; refine' TailIs.sub ?km1 _ ?km2; (case km1 => first | (refine' TailIs.rebase ?tr1; (case tr1 => (with_reducible assumption))) | (refine' TailIs.at ?tr1 _; (case tr1 => (with_reducible assumption)))); (case km2 => (with_reducible assumption))) | fail "k_mem")
  k_with "call builtin:len" => ((k_here; (with_reducible show wpAny _ _ (call (Value.builtin "len") [Value.ref _]) _ _ _); k_dflt (refine' len_ints_fit (News.isList ?n ?m) ?i ?f ?_; (case n => k_asm); (case m => k_mem); (case i => (with_reducible assumption)); (case f => k_extra "OM"); k_whole)))
  k_with "subscriptTail Name Name ref int" => ((k_here; (with_reducible show wpAny _ _ (subscriptTail _ _ (Value.ref _) (Value.int _ _)) _ _ _); (with_unfolding_all refine' item_list_ints (News.isList ?n ?m) ?k2 ?k3 ?k4 ?k5 ?_; (case n => k_asm); (case m => k_mem); (case k2 => (with_reducible assumption)); (case k3 => k_extra "OM"); (case k4 => k_extra "OM"); (case k5 => k_extra "OM"); k_whole); intro _))
  k_with "k_enter" => (first
  | (refine' code_def ?k1 ?k2 ?k3 ?k4 ?k5 ?kA ?kF ?kK ?k6 ?k7 ?k8 ?k9 ?kB ?_ ?c2 ?c3 ?c4 ?c5; (case kA => exact rfl); (case kF => exact rfl); (case kK => first | exact rfl | (with_reducible assumption)); (case k1 => k_asm); (case k2 => k_asm); (case k3 => k_asm); (case k4 => k_asm); (case k5 => k_asm); (case k6 => k_is); (case k7 => k_is); (case k8 => ktr_room); (case k9 => first | exact BindsTo.of_eq rfl | exact binds_K (by k_in) rfl (by k_is) rfl rfl rfl | fail "k_enter: no rule for these arguments"); (case c5 => decide); (case kB => exact locs rfl); (case c2 => exact rfl); (case c3 => exact rfl); (case c4 => exact rfl); k_whole; intro _ _ _ _ _ zzN' _ _ _; (try dsimp only); (try k_fold))
  | (refine' code_defC ?k1 ?k2 ?k3 ?k4 ?k5 ?kA ?kF ?kK ?k6 ?k7 ?k8 ?k9 ?kB ?kD ?_ ?c2 ?c3 ?c4; (case kA => exact rfl); (case kF => exact rfl); (case kK => first | exact rfl | (with_reducible assumption)); (case k1 => k_asm); (case k2 => k_asm); (case k3 => k_asm); (case k4 => k_asm); (case k5 => k_asm); (case k6 => k_is); (case k7 => k_is); (case k8 => ktr_room); (case k9 => first | exact BindsTo.of_eq rfl | exact binds_K (by k_in) rfl (by k_is) rfl rfl rfl | fail "k_enter: no rule for these arguments"); (case kB => exact rfl); (case kD => decide +kernel); (case c2 => exact rfl); (case c3 => exact rfl); (case c4 => exact rfl); k_whole; intro _ _ _ _ _ _ _ zzN' zzY' _ _ _ zzl1; revert zzl1; intro _; (have _ := Mk9.mk); k_cells zzY'; (try (simp only [List.cons_append, List.nil_append] at zzN'; revert zzN'; intro _)); (try dsimp only); (try k_fold)))
  k_with "call type:tuple" => ((k_here; (with_reducible show wpAny _ _ (call (Value.type _) [Value.ref _]) _ _ _); k_dflt (refine' kde_tupleOf ?k1 ?k2 (News.isList ?k3 ?k6) ?k4 ?k5 ?_; (case k1 => k_asm); (case k2 => k_asm); (case k3 => k_asm); (case k6 => k_mem); (case k4 => (simp only [List.size_toArray]; k_extra "OM")); (case k5 => exact rfl); k_whole); intro _ _ _ _ zzl1; revert zzl1; intro _; (have _ := Mk9.mk); (try k_sweep)))
  k_with "tb_rel" => (first | (refine' TailIs.rebase ?tr1; (case tr1 => (with_reducible assumption))) | (refine' TailIs.at ?tr1 _; (case tr1 => (with_reducible assumption))) | (refine' TailIs.moveT ?tb1; (case tb1 => tb_rel)) | (refine' TailIs.cons ?tb1; (case tb1 => tb_rel)) | exact TailIs.nil)
  trivial
-- every old address stands in the ledger
theorem rows_C15_2 : True := by
  k_with "kcf_m" => (first
  | (refine' covC ?kc1 ?kc2; (case kc1 => k_mem); (case kc2 => kcf_m))
  | exact List.forall_mem_nil _
  | (intro zzq9 zzhq9; refine ⟨Prod.snd zzq9, ?_⟩; repeat (first | exact zzhq9 | (refine' TailIs.coverAt ?tc1 (Run.sub ?tc2) zzq9 zzhq9; (case tc1 => (with_reducible assumption)); (case tc2 => (with_reducible assumption))) | refine List.mem_cons_of_mem _ ?_)))
  trivial
-- what is made here is none of the old
theorem rows_C15_3 : True := by
  k_with "kcf_all" => ((intro zzq9 zzhq9 zzho9; repeat (first | exact zzho9 | refine List.forall_mem_cons.mpr ⟨tmp_ne (by (with_reducible assumption)) (by kcf_m) zzq9 zzhq9, ?_⟩)))
  k_with "tb_start" => ((
  (rename Grow _ _ _ _ => zzG9)
  (have zzgB9 := Grow.base zzG9)
  (repeat (rename Run _ _ (Grow.R zzG9) => zzR9; have _ := Run.step zzR9 zzG9 (by kcf_m) (by kcf_all); clear zzR9))
  (repeat (rename DatIn (Grow.R zzG9) _ _ => zzhX9; have _ := DatIn.mono zzgB9 zzhX9; clear zzhX9))
  (repeat (rename DatAll (Grow.R zzG9) _ _ => zzhX9; have _ := DatAll.mono zzgB9 zzhX9; clear zzhX9))
  (repeat (rename IntsAt (Grow.R zzG9) _ _ => zzhX9; have _ := IntsAt.mono zzhX9 zzgB9; clear zzhX9))
  (repeat (rename (_ ∈ Grow.R zzG9) => zzhX9; have _ := zzgB9 _ zzhX9; clear zzhX9))
  (repeat (rename OffL (Grow.R zzG9) _ => zzhX9; have _ := Grow.offL zzG9 zzhX9 ⟨_, by k_mem⟩ (by k_all); clear zzhX9))
  (have zzhS9 := Grow.sub zzG9; (first | refine fd_6 zzhS9 ?_ | refine fd_5 zzhS9 ?_ | refine fd_4 zzhS9 ?_ | refine fd_3 zzhS9 ?_ | refine fd_2 zzhS9 ?_ | refine fd_1 zzhS9 ?_ | refine fd_0 zzhS9 ?_); clear zzhS9)
  clear zzgB9 zzG9
  intros))
  k_with "kqd_in" => (first | (refine' DatIn.mono ?kd1 ?kd2; (case kd2 => first | (with_reducible assumption) | assumption); (case kd1 => (intro _ zzhp9; repeat (first | exact zzhp9 | (refine' TailIs.sub ?kd3 _ zzhp9; (case kd3 => first | (refine' TailIs.rebase ?tr1; (case tr1 => (with_reducible assumption))) | (refine' TailIs.at ?tr1 _; (case tr1 => (with_reducible assumption))))) | refine List.mem_cons_of_mem _ ?_)))) | fail "kqd_in")
  k_with "kqd_all" => (first | (refine' DatAll.mono ?kd1 ?kd2; (case kd2 => first | (with_reducible assumption) | assumption); (case kd1 => (intro _ zzhp9; repeat (first | exact zzhp9 | (refine' TailIs.sub ?kd3 _ zzhp9; (case kd3 => first | (refine' TailIs.rebase ?tr1; (case tr1 => (with_reducible assumption))) | (refine' TailIs.at ?tr1 _; (case tr1 => (with_reducible assumption))))) | refine List.mem_cons_of_mem _ ?_)))) | fail "kqd_all")
  k_with "compareOp Eq ref ref" => ((k_here; (with_reducible show wpAny _ _ (compareOp CmpOp.Eq (Value.ref _) (Value.ref _)) _ _ _); k_dflt (refine' dat_eq ?n9 ?da (fun _ h => h) ?db (fun _ h => h) ?oa ?ob ?u9 ?_; (case n9 => k_asm); (case da => kqd_in); (case db => kqd_in); (case oa => first | exact domD_ok _ | rfl | (with_reducible assumption)); (case ob => first | exact domD_ok _ | rfl | (with_reducible assumption)); (case u9 => ktr_units); intro _ _)))
  k_with "compareOp NotEq ref ref" => ((k_here; (with_reducible show wpAny _ _ (compareOp CmpOp.NotEq (Value.ref _) (Value.ref _)) _ _ _); k_dflt (refine' dat_ne ?n9 ?da (fun _ h => h) ?db (fun _ h => h) ?oa ?ob ?u9 ?_; (case n9 => k_asm); (case da => kqd_in); (case db => kqd_in); (case oa => first | exact domD_ok _ | rfl | (with_reducible assumption)); (case ob => first | exact domD_ok _ | rfl | (with_reducible assumption)); (case u9 => ktr_units); intro _ _)))
  k_with "call builtin:list.append" => ((k_here; (with_reducible show wpAny _ _ (call (Value.builtin _) [Value.ref _, _]) _ _ _); k_dflt (refine' append_L ?k1 ?k2 ?k3 ?z ?_; (case k1 => k_asm); (case k2 => k_asm); (case k3 => k_upd); (case z => first | k_extra "OM" | ((simp only [List.length_cons, List.length_nil, List.length_append]); k_extra "OM")); k_whole); intro _ _ _; (try k_sweep)))
  k_with "call builtin:min" => ((k_here; (with_reducible show wpAny _ _ (call (Value.builtin _) [Value.ref _]) _ _ _); k_dflt ((refine' min_L ?f9 ?n9 ?m9 ?i9 ?z9 ?h9 ?_; (case f9 => k_asm); (case n9 => k_asm); (case m9 => k_mem); (case i9 => (with_reducible assumption)); (case z9 => first | k_extra "OM" | (simp_all; k_extra "OM")); (case h9 => with_unfolding_all rfl)); intro _ _ _ _ _)))
  k_with "call builtin:max" => ((k_here; (with_reducible show wpAny _ _ (call (Value.builtin _) [Value.ref _]) _ _ _); k_dflt ((refine' max_L ?f9 ?n9 ?m9 ?i9 ?z9 ?h9 ?_; (case f9 => k_asm); (case n9 => k_asm); (case m9 => k_mem); (case i9 => (with_reducible assumption)); (case z9 => first | k_extra "OM" | (simp_all; k_extra "OM")); (case h9 => with_unfolding_all rfl)); intro _ _ _ _ _)))
  k_with "ktr_rel" => (((case n9 => k_asm); (case b9 => k_asm); (case f9 => k_asm); (case x9 => k_asm); (case t9 => k_asm); (case k9 => first | exact rfl | (with_reducible assumption)); (case d9 => ktr_room); (case u9 => ktr_units)))
  trivial
theorem rows_C15_4 : True := by
  k_with "kcf_m" => ((intro zzq9 zzhq9; refine ⟨Prod.snd zzq9, ?_⟩; (repeat (first | exact zzhq9 | exact List.mem_append_left _ zzhq9 | (refine' TailIs.coverAt ?tc1 (Run.sub ?tc2) zzq9 zzhq9; (case tc1 => (with_reducible assumption)); (case tc2 => (with_reducible assumption))) | refine List.mem_cons_of_mem _ ?_ | refine List.mem_append_right _ ?_)); done))
  k_with "call builtin:len" => ((k_here; (with_reducible show wpAny _ _ (call (Value.builtin "len") [Value.ref _]) _ _ _); k_dflt (refine' len_L ?n9 ?m9 ?z9 ?_; (case n9 => k_asm); (case m9 => k_mem); (case z9 => (first | k_extra "OM" | ((simp only [List.length_append, List.length_cons, List.length_nil]); k_extra "OM"))); k_whole)))
  k_with "exec Assign cons ListComp" => ((k_here; (with_reducible show wpAny _ _ (exec _ _) _ _ _); refine Stop.intro ?_))
  k_with "eval ListComp" => ((k_here; (with_reducible show wpAny _ _ (eval (Expr.ListComp _ _ _ _) _) _ _ _); refine Stop.intro ?_))
  k_with "CompSrcT" => ((k_here; refine Stop.intro ?_))
  k_with "CompSrc" => ((k_here; refine Stop.intro ?_))
  k_with "CompEnd" => ((refine Stop.intro ?_))
  k_with "kqd_sub" => (first | (refine List.forall_mem_cons.mpr ⟨?kqa, ?kqb⟩; (case kqa => k_mem); (case kqb => kqd_sub)) | (intro _ zzhq9; (repeat (first | exact zzhq9 | refine List.mem_cons_of_mem _ ?_)); done))
  trivial
-- what a comparison has answered
theorem rows_C15_5 : True := by
  k_with "ANSWER" => (((rename Bool => zzt9); (rename (zzt9 = true ↔ _) => zzht9); (first | (have zze9 := zzht9.mpr (by first | rfl | (with_reducible assumption)); subst zze9) | (have zze9 := bool_no zzht9 (by first | (with_reducible assumption) | (intro zzh9; exact zzh9 rfl) | (intro zzh9; exact zzh9 (by (with_reducible assumption)))); subst zze9) | skip)))
  k_with "compareOp Eq ref ref" => ((k_here; (with_reducible show wpAny _ _ (compareOp CmpOp.Eq (Value.ref _) (Value.ref _)) _ _ _); k_dflt (refine' dat_eq ?n9 ?da (fun _ h => h) ?db (fun _ h => h) ?oa ?ob ?u9 ?_; (case n9 => k_asm); (case da => kqd_in); (case db => kqd_in); (case oa => first | exact domD_ok _ | rfl | (with_reducible assumption)); (case ob => first | exact domD_ok _ | rfl | (with_reducible assumption)); (case u9 => ktr_units); intro _ _; walk_at "ANSWER")))
  k_with "compareOp NotEq ref ref" => ((k_here; (with_reducible show wpAny _ _ (compareOp CmpOp.NotEq (Value.ref _) (Value.ref _)) _ _ _); k_dflt (refine' dat_ne ?n9 ?da (fun _ h => h) ?db (fun _ h => h) ?oa ?ob ?u9 ?_; (case n9 => k_asm); (case da => kqd_in); (case db => kqd_in); (case oa => first | exact domD_ok _ | rfl | (with_reducible assumption)); (case ob => first | exact domD_ok _ | rfl | (with_reducible assumption)); (case u9 => ktr_units); intro _ _; walk_at "ANSWER")))
  k_with "compareOp NotEq ref ref" => ((k_here; (with_reducible show wpAny _ _ (compareOp CmpOp.NotEq (Value.ref _) (Value.ref _)) _ _ _); k_dflt (refine' ints_ne ?n9 ?a9 ?i9 ?b9 ?j9 ?u9 ?_; (case n9 => k_asm); (case a9 => k_mem); (case b9 => k_mem); (case i9 => first | (with_reducible assumption) | exact IntsAre.nil); (case j9 => first | (with_reducible assumption) | exact IntsAre.nil); (case u9 => ktr_units); intro _ _; walk_at "ANSWER")))
  k_with "compareOp Eq ref ref" => ((k_here; (with_reducible show wpAny _ _ (compareOp CmpOp.Eq (Value.ref _) (Value.ref _)) _ _ _); k_dflt (refine' ints_eq ?n9 ?a9 ?i9 ?b9 ?j9 ?u9 ?_; (case n9 => k_asm); (case a9 => k_mem); (case b9 => k_mem); (case i9 => first | (with_reducible assumption) | exact IntsAre.nil); (case j9 => first | (with_reducible assumption) | exact IntsAre.nil); (case u9 => ktr_units); intro _ _; walk_at "ANSWER")))
  k_with "TAILFOR" => (first | (refine' TailFor.rebase ?tf1; (case tf1 => (with_reducible assumption))) | (refine' TailFor.at ?tf1 _; (case tf1 => (with_reducible assumption))) | (refine' TailFor.moveT ?tl9; (case tl9 => walk_at "TAILFOR")) | (refine' TailFor.moveA ?tl9; (case tl9 => walk_at "TAILFOR")) | (refine' TailFor.cons ?tl9; (case tl9 => walk_at "TAILFOR")) | exact TailFor.nil | (refine' TailFor.pre ?tl9; (case tl9 => walk_at "TAILFOR")))
  k_with "call ref" => ((k_here; (with_reducible show wpAny _ _ (call (Value.ref 42) _) _ _ _); k_dflt (first | ((refine' Call.cps (fromValues_f ?ti ?m9 ?i9 ?ln ?as) t_gD ?b9 ?f9 ?x9 ?t9 ?k9 ?d9 ?u9 ?n9 ?_; ktr_rel; (case ti => walk_at "TAILFOR"); (case m9 => k_mem); (case i9 => (with_reducible assumption)); (case ln => first | k_extra "OM" | (with_reducible assumption)); (case as => (with_reducible assumption))); intro _ _ _ _ _ _ _ zzN9; (try dsimp only at zzN9); tb_start) | (fail_if_success skip) | refine Stop.intro ?_)))
  k_with "call ref" => ((k_here; (with_reducible show wpAny _ _ (call (Value.ref 283) _) _ _ _); k_dflt (first | ((refine' Call.cps (bars_c ?m9) t_bool ?b9 ?f9 ?x9 ?t9 ?k9 ?d9 ?u9 ?n9 ?_; ktr_rel; (case m9 => k_mem)); intro _ _ _ _ _ _) | refine Stop.intro ?_)))
  k_with "setItem ref int ref" => ((k_here; (with_reducible show wpAny _ _ (setItem (Value.ref _) (Value.int _ _) (Value.ref _)) _ _ _); k_dflt (refine' set_sel ?f9 ?n9 ?x9 ?u9 ?_; (case f9 => k_asm); (case n9 => k_asm); (case x9 => (with_reducible assumption)); (case u9 => k_upd); k_whole; intro _ _ _)))
  k_with "kcf_all" => ((intro zzq9 zzhq9 zzho9; repeat (first | exact zzho9 | refine List.forall_mem_cons.mpr ⟨tmp_ne (by (with_reducible assumption)) (by kcf_m) zzq9 zzhq9, ?_⟩ | refine List.forall_mem_cons.mpr ⟨tmp_off (by (with_reducible assumption)) (by kcf_m) zzq9 zzhq9, ?_⟩)))
  k_with "subscriptTail Attribute Name Name ref int" => ((k_here; (with_reducible show wpAny _ _ (subscriptTail _ _ (Value.ref _) (Value.int _ _)) _ _ _); k_dflt (refine' item_sel ?n9 ?m9 ?x9 ?_ ?s9; (case n9 => k_asm); (case x9 => (with_reducible assumption)); (case m9 => k_mem); (case s9 => with_unfolding_all rfl); k_whole)))
  k_with "subscriptTail Name Name ref int" => ((k_here; (with_reducible show wpAny _ _ (subscriptTail _ _ (Value.ref _) (Value.int _ _)) _ _ _); k_dflt (refine' item_sel ?n9 ?m9 ?x9 ?_ ?s9; (case n9 => k_asm); (case x9 => (with_reducible assumption)); (case m9 => k_mem); (case s9 => with_unfolding_all rfl); k_whole)))
  k_with "subscriptTail Attribute Name Constant ref int" => ((k_here; (with_reducible show wpAny _ _ (subscriptTail _ _ (Value.ref _) (Value.int (OfNat.ofNat _) _)) _ _ _); k_dflt (refine' item_tup ?n9 ?m9 ?x9 ?y9 ?z9 ?_ ?s9; (case n9 => k_asm); (case m9 => k_mem); (case x9 => rfl); (case y9 => decide); (case z9 => decide); (case s9 => with_unfolding_all rfl); k_whole)))
  k_with "subscriptTail Subscript Attribute Constant Constant ref int" => ((k_here; (with_reducible show wpAny _ _ (subscriptTail _ _ (Value.ref _) (Value.int (OfNat.ofNat _) _)) _ _ _); k_dflt (refine' item_tup ?n9 ?m9 ?x9 ?y9 ?z9 ?_ ?s9; (case n9 => k_asm); (case m9 => k_mem); (case x9 => rfl); (case y9 => decide); (case z9 => decide); (case s9 => with_unfolding_all rfl); k_whole)))
  k_with "subscriptTail Name Constant ref int" => ((k_here; (with_reducible show wpAny _ _ (subscriptTail _ _ (Value.ref _) (Value.int (OfNat.ofNat _) _)) _ _ _); k_dflt (refine' item_tup ?n9 ?m9 ?x9 ?y9 ?z9 ?_ ?s9; (case n9 => k_asm); (case m9 => k_mem); (case x9 => rfl); (case y9 => decide); (case z9 => decide); (case s9 => with_unfolding_all rfl); k_whole)))
  k_with "subscriptTail Name Constant ref int" => ((k_here; (with_reducible show wpAny _ _ (subscriptTail _ _ (Value.ref _) (Value.int 0 _)) _ _ _); k_dflt (refine' head_int ?n9 ?m9 ?i9 ?g9 ?_ ?s9; (case n9 => k_asm); (case m9 => k_mem); (case i9 => (with_reducible assumption)); (case g9 => (with_reducible assumption)); (case s9 => with_unfolding_all rfl); k_whole); intro _))
  k_with "subscriptTail Name UnaryOp ref int" => ((k_here; (with_reducible show wpAny _ _ (subscriptTail _ _ (Value.ref _) (Value.int _ _)) _ _ _); k_dflt (refine' last_int ?n9 ?m9 ?i9 ?g9 ?_ ?s9; (case n9 => k_asm); (case m9 => k_mem); (case i9 => (with_reducible assumption)); (case g9 => (with_reducible assumption)); (case s9 => with_unfolding_all rfl); k_whole); intro _))
  k_with "subscriptTail Name Slice ref ref" => ((k_here; (with_reducible show wpAny _ _ (subscriptTail _ (PySem.Expr.Slice _ _ none _) (Value.ref _) (Value.ref _)) _ _ _); k_dflt (refine' trail_from ?f9 ?n9 ?m9 ?h9 ?z9 ?_ ?s9 ?t9; (case f9 => k_asm); (case n9 => k_asm); (case m9 => k_mem); (case h9 => k_extra "OM"); (case z9 => k_extra "OM"); (case s9 => with_unfolding_all rfl); (case t9 => kmk_pure)); intro _ _ _ _ zzl1; revert zzl1; intro _; (have _ := Mk9.mk)))
  k_with "TRIPLE" => (first | kqd_in | exact DatIn.int _ _ | (refine' DatIn.tuple ?m9 ?a9; (case m9 => k_mem); (case a9 => repeat (first | exact DatAll.nil | (refine DatAll.cons (by walk_at "TRIPLE") ?_)))))
  k_with "compareOp NotEq ref ref" => ((k_here; (with_reducible show wpAny _ _ (compareOp CmpOp.NotEq (Value.ref _) (Value.ref _)) _ _ _); k_dflt (refine' dat_ne ?n9 ?da (fun _ h => h) ?db (fun _ h => h) ?oa ?ob ?u9 ?_; (case n9 => k_asm); (case da => walk_at "TRIPLE"); (case db => walk_at "TRIPLE"); (case oa => first | exact domD_ok _ | rfl | (with_reducible assumption)); (case ob => first | exact domD_ok _ | rfl | (with_reducible assumption)); (case u9 => ktr_units); intro _ _; walk_at "ANSWER")))
  k_with "call ref" => ((k_here; (with_reducible show wpAny _ _ (call (Value.ref 28) _) _ _ _); refine Stop.intro ?_))
  trivial
theorem stand_c {w : World} {K : Sk} {si sd dl fl tl ml nd ln lh lk a0 a1 ca : Addr} {no : Obj} {sp : Int} {st tx tb : Tok} {n1 n2 nn nh nk : Nat} {tv nv hv kv : List Value} {ns q : List Int} {d0 d1 : Dom} {tr0 tre : List Ent} {x : Int} {others r0 rest : Led} {g : Led → Led}
  (TI : TailIs others r0 rest g) (hsi : (si, instObj 265 sd) ∈ rest) (D0 : DatIn rest (.ref a0) (domD d0)) (D1 : DatIn rest (.ref a1) (domD d1)) (hl0 : d0.length ≤ 900) (hl1 : d1.length ≤ 900)
  (Dt : DatAll rest tv ((tr0 ++ tre).map entD)) (htl : (tr0 ++ tre).length ≤ 900) (hno : NewsO w no) (hx : x = 0 ∨ x = 1) (hxd : sel x d0 d1 = ivs (keptL ns q))
  (hln : (ln, listOf nv.toArray nn) ∈ rest) (hi : IntsAre nv ns) (hlh : (lh, listOf hv.toArray nh) ∈ rest) (hh : IntsAre hv q) (hq : Good q) (hlk : (lk, listOf kv.toArray nk) ∈ rest) (hk' : IntsAre kv (keptL ns q)) (hkq : Good (keptL ns q))
  (hnz : ns ≠ []) (hnb : ∀ v ∈ ns, -2 ≤ v ∧ v < 10) (hnl : ns.length ≤ 3) (hcut : tre.length = cutsOf ns q) (his : ∀ e ∈ tre, e.x = x ∧ e.rs = .tuple [] ∧ e.sp = sp)
  (o1 : OffL others sd) (o2 : OffL others dl) (o3 : OffL others tl) (o4 : OffL others nd)
  (h12 : Apart sd dl) (h13 : Apart sd tl) (h14 : Apart sd nd) (h23 : Apart dl tl) (h24 : Apart dl nd) (h34 : Apart tl nd) :
  Call w 9 298 [.ref si, .int x tx, .ref ln, .ref lh, .ref lk, .int (tr0.length : Int) tb] ((sd, sdO w K dl fl tl ml nd sp st false ca) :: (dl, listOf [Value.ref a0, .ref a1].toArray n1) :: (tl, listOf tv.toArray n2) :: (nd, no) :: others) (fun r nw =>
    ∃ a0' a1' tv' n1' n2' no' rest', r = .bool true ∧ nw = (sd, sdO w K dl fl tl ml nd sp st false ca) :: (dl, listOf [Value.ref a0', .ref a1'].toArray n1') :: (tl, listOf tv'.toArray n2') :: (nd, no') :: g rest' ∧
      Grow ((sd, sdO w K dl fl tl ml nd sp st false ca) :: (dl, listOf [Value.ref a0, .ref a1].toArray n1) :: (tl, listOf tv.toArray n2) :: (nd, no) :: others) r0 rest rest' ∧ NewsO w no' ∧
      DatIn rest' (.ref a0') (domD d0) ∧ DatIn rest' (.ref a1') (domD d1) ∧ DatAll rest' tv' ((tr0 ++ tre).map entD)) := by
  intro p loose mean mg mb dp un gd cn cs a ccd cl outer A₀ base h₀ L m s Q E B F X T hk hd hu N hret
  revert X; k_fill; intro X
  have R0 : Run ((sd, sdO w K dl fl tl ml nd sp st false ca) :: (dl, listOf [Value.ref a0, .ref a1].toArray n1) :: (tl, listOf tv.toArray n2) :: (nd, no) :: others) rest rest := Run.refl
  have q1 : OffL rest sd := fun p hp => o1 p (TI.sub p hp)
  have q2 : OffL rest dl := fun p hp => o2 p (TI.sub p hp)
  have q3 : OffL rest tl := fun p hp => o3 p (TI.sub p hp)
  have q4 : OffL rest nd := fun p hp => o4 p (TI.sub p hp)
  have Dx := datIn_sel hx D0 D1
  rw [hxd] at Dx
  have htv : tv.length = (tr0 ++ tre).length := by have := Dt.length; simpa using this
  have De : DatAll rest (tv.drop (tr0.length : Int).toNat) (tre.map entD) := by
    have := datAll_drop (tr0.length : Int).toNat Dt
    rw [List.map_append, List.drop_left' (by simp)] at this
    exact this
  have hdl : (tv.drop (tr0.length : Int).toNat).length = cutsOf ns q := by rw [De.length, List.length_map, hcut]
  have eb : betwF x sp (ns.reverse ++ ns) (sel x d0 d1) (tr0 ++ tre) = ⟨true, ivs (keptL ns q), tr0 ++ tre, []⟩ := by
    rw [hxd]
    refine betw_same hkq (by simp [hnz]) fun v hv => ?_
    rw [(turned hnz).1, (turned hnz).2]
    exact (keptL_mem.mp hv).2
  have es0 : sel x (ivs (keptL ns q)) d0 = d0 := by rcases hx with rfl | rfl; exact hxd.symm; rfl
  have es1 : sel x d1 (ivs (keptL ns q)) = d1 := by rcases hx with rfl | rfl; rfl; exact hxd.symm
  have hcl : cutsOf ns q ≤ 2 := by unfold cutsOf; split <;> split <;> k_extra "OM"
  have hql := hq.len
  have hkl : (keptL ns q).length < 64 := by have := hkq.len; k_extra "OM"
  have hks := hkq.asc
  have hnp : 0 < ns.length := List.length_pos_iff.mpr hnz
  have hmn := minI_spec hnp
  have hmx := maxI_spec hnp
  have hmb := hnb _ hmn.1
  have hxb := hnb _ hmx.1
  w_strict (
    refine wpAny_call ?_
    k_dflt k_enter
    k_steps
    · exfalso
      (rename _ ≠ _ => hZ)
      exact hZ (by rw [hdl, cuts_int])
    · unfold Stop
      k_dflt (refine LCt.ListComp_T (F₀ := by k_asm) (by with_unfolding_all rfl) (by decide) (by rfl) (by decide) (by rfl) ?_)
      k_steps
      unfold Stop
      (rename Fr _ _ _ _ => F1; rename News _ _ _ _ => N1; rename DatAll _ _ (List.map entD tre) => De1)
      refine LCt.CompSrcT.ledger rfl F1 N1 (by k_mem) (by rw [List.size_toArray, hdl, sizeLine_eq]; k_extra "OM") fun g8 => restT_inv (fun i ys nw => nw = _ ∧ ys = []) ⟨rfl, rfl⟩ ?_ ?_
      · clear F1 N1
        rintro i v ys _ I oI C oC D m₂ h tk E' hi8 hv ⟨rfl, rfl⟩ hC hx' F2 N2 off ne
        obtain ⟨d9, hd9, De2⟩ := datAll_get De1 (by simpa using hv)
        rw [List.getElem?_map] at hd9
        obtain ⟨e, he, rfl⟩ := Option.map_eq_some_iff.mp hd9
        obtain ⟨i1, i2, i3⟩ := his e (List.mem_of_getElem? he)
        obtain ⟨la, nla, a9, b9, c9, t1, t2, rfl, hla, _, _, Dr⟩ := datIn_ent De2
        rw [i1, i3] at hla
        rw [i2] at Dr
        k_steps
        unfold Stop
        (rename Fr _ _ _ _ => F9; rename News _ _ _ _ => N9)
        exact CompEnd.intro F9 N9 _ (by kqd_sub) (Off3.of off) (.inr ⟨_, by k_mem, rfl, _, rfl⟩) ⟨rfl, by trivial⟩
      · rintro ys _ ⟨rfl, rfl⟩
        clear F1 N1
        unfold FinE
        intro D h tk F2 N2 o2'
        have o3' := off1_mem o2'
        clear o2'
        dsimp only
        k_steps
        unfold Stop
        k_dflt (refine' Call.cps (between_cT ?p1 ?p2 ?p3 ?p4 ?ti ?si ?d0 ?d1 ?dt ?hx ?l0 ?l1 ?tv ?no ?ln ?i ?ns ?eb ?e0 ?e1) t_7_5 ?b9 ?f9 ?x9 ?t9 ?k9 ?d9 ?u9 ?n9 ?_; ktr_rel; (case p1 => k_updF); (case p2 => k_updF); (case p3 => k_updF); (case p4 => k_updF); (case ti => walk_at "TAILFOR"); (case si => k_mem); (case ln => k_mem); (case d0 => kqd_in); (case d1 => kqd_in); (case dt => kqd_all); (case hx => assumption); (case l0 => assumption); (case l1 => assumption); (case tv => assumption); (case no => assumption); (case i => assumption); (case ns => (simp only [List.length_append, List.length_reverse]; k_extra "OM")); (case eb => exact eb); (case e0 => exact es0); (case e1 => exact es1))
        intro h9 tk9 F9 a0' a1' tv' m1' m2' no' rest9 G9 Hn D0' D1' Dt' N9
        have Dx' := datIn_sel hx D0' D1'
        rw [hxd] at Dx'
        have htv' : tv'.length = (tr0 ++ tre).length := by have := Dt'.length; simpa using this
        (try dsimp only at N9)
        tb_start
        k_steps
        · (rename Run _ _ _ => R9; rename Fr _ _ _ _ => F9; rename News _ _ _ _ => N9)
          have N8 : News _ _ _ ((sd, _) :: (dl, _) :: (tl, _) :: (nd, _) :: g _) := List.forall_mem_cons.mpr ⟨N9 _ (.head _), List.forall_mem_cons.mpr ⟨N9 _ (.tail _ (.head _)), List.forall_mem_cons.mpr ⟨N9 _ (.tail _ (.tail _ (.head _))), List.forall_mem_cons.mpr ⟨N9 _ (.tail _ (.tail _ (.tail _ (.head _)))), fun p hp => N9 p (by repeat (first | exact hp | refine List.mem_cons_of_mem _ ?_))⟩⟩⟩⟩
          exact hret _ _ _ _ F9 N8 (in_7_7 _ _ _ _ _ _ _ rfl rfl (Run.grow TI.base R9) (by assumption) (by assumption) (by assumption) (by assumption))
        · exfalso
          (rename _ ≠ _ => hZ)
          exact hZ (by rw [htv', List.length_append, hcut, Int.natCast_add, cuts_int]))
theorem pop_c {w : World} {K : Sk} {si sd dl fl tl ml nd a0 a1 ca f0 f1 : Addr} {sp : Int} {st : Tok} {fa : Bool} {n1 n2 nf nm mk : Nat} {tv mv : List Value} {ms : List Int} {tr : List Ent} {d0 d1 e0 e1 : Dom} {n : Nat} {tn : Tok} {news l1 l2 l3 others r0 rest : Led} {g : Led → Led}
  (P1 : Pull sd (sdO w K dl fl tl ml nd sp st fa ca) news l1) (P2 : Pull dl (listOf [Value.ref a0, .ref a1].toArray n1) l1 l2) (P3 : Pull tl (listOf tv.toArray n2) l2 l3) (P4 : Pull ml (listOf mv.toArray nm) l3 others)
  (TI : TailIs others r0 rest g) (hsi : (si, instObj 265 sd) ∈ rest) (D0 : DatIn rest (.ref a0) (domD d0)) (D1 : DatIn rest (.ref a1) (domD d1)) (Dt : DatAll rest tv (tr.map entD)) (htx : ∀ e ∈ tr, e.x = 0 ∨ e.x = 1)
  (hfl : (fl, listOf [Value.ref f0, .ref f1].toArray nf) ∈ rest) (Df0 : DatIn rest (.ref f0) (domD e0)) (Df1 : DatIn rest (.ref f1) (domD e1)) (he0 : e0 ≠ []) (he1 : e1 ≠ [])
  (hm : IntsAre mv ms) (hml : ms.length ≤ 1000) (htl : tr.length ≤ 1000) (hn1 : 1 ≤ n) (hn2 : n ≤ ms.length) (hmk : ms[ms.length - n]? = some (mk : Int)) (hmt : mk ≤ tr.length) :
  Call w 4 248 [.ref si, .int (n : Int) tn] news (fun r nw =>
    ∃ ca' a0' a1' n1' n2' nm' ml' nd' no' mv' rest', r = .none ∧ nw = (sd, sdO w K dl fl tl ml' nd' sp st false ca') :: (dl, listOf [Value.ref a0', .ref a1'].toArray n1') :: (tl, listOf (tv.take mk).toArray n2') :: (ml', listOf mv'.toArray nm') :: (nd', no') :: g rest' ∧
      Grow news r0 rest rest' ∧ NewsO w no' ∧ IntsAre mv' (ms.take (ms.length - n)) ∧
      DatIn rest' (.ref a0') (domD (undo (tr.drop mk) 0 d0)) ∧ DatIn rest' (.ref a1') (domD (undo (tr.drop mk) 1 d1)) ∧
      (∀ q ∈ news, Apart q.1 ml' ∧ Apart q.1 nd') ∧ OffL rest' ml' ∧ OffL rest' nd' ∧ Apart ml' nd') := by
  obtain ⟨hs, hc, o1, o2, o3, o4, h12, h13, h14, h23, h24, h34⟩ := pull4 P1 P2 P3 P4
  refine Call.sub (Call.mono (pop_c0 (w := w) (K := K) (fl := fl) (nd := nd) (sp := sp) (st := st) (fa := fa) (ca := ca) (n1 := n1) (n2 := n2) (nm := nm) TI hsi D0 D1 Dt htx hfl Df0 Df1 he0 he1 hm hml htl hn1 hn2 hmk hmt o1 o2 o3 o4 h12 h13 h14 h23 h24 h34) (Nat.le_refl _) fun r nw hp => ?_) hs
  exact el_11_11 hp fun ca' a0' a1' n1' n2' nm' ml' nd' no' mv' rest' a b G c d e f i j1 j2 j3 => in_11_11 ca' a0' a1' n1' n2' nm' ml' nd' no' mv' rest' a b (G.cov hc) c d e f (fun q hq => i q (hc q hq)) j1 j2 j3
theorem pop_cE {w : World} {u0 u1 : Dom} {ms2 : List Int} {K : Sk} {si sd dl fl tl ml nd a0 a1 ca f0 f1 : Addr} {sp : Int} {st : Tok} {fa : Bool} {n1 n2 nf nm mk : Nat} {tv mv : List Value} {ms : List Int} {tr : List Ent} {d0 d1 e0 e1 : Dom} {n : Nat} {tn : Tok} {news l1 l2 l3 others r0 rest : Led} {g : Led → Led}
  (P1 : Pull sd (sdO w K dl fl tl ml nd sp st fa ca) news l1) (P2 : Pull dl (listOf [Value.ref a0, .ref a1].toArray n1) l1 l2) (P3 : Pull tl (listOf tv.toArray n2) l2 l3) (P4 : Pull ml (listOf mv.toArray nm) l3 others)
  (TI : TailIs others r0 rest g) (hsi : (si, instObj 265 sd) ∈ rest) (D0 : DatIn rest (.ref a0) (domD d0)) (D1 : DatIn rest (.ref a1) (domD d1)) (Dt : DatAll rest tv (tr.map entD)) (htx : ∀ e ∈ tr, e.x = 0 ∨ e.x = 1)
  (hfl : (fl, listOf [Value.ref f0, .ref f1].toArray nf) ∈ rest) (Df0 : DatIn rest (.ref f0) (domD e0)) (Df1 : DatIn rest (.ref f1) (domD e1)) (he0 : e0 ≠ []) (he1 : e1 ≠ [])
  (hm : IntsAre mv ms) (hml : ms.length ≤ 1000) (htl : tr.length ≤ 1000) (hn1 : 1 ≤ n) (hn2 : n ≤ ms.length) (hmk : ms[ms.length - n]? = some (mk : Int)) (hmt : mk ≤ tr.length) (e2 : undo (tr.drop mk) 0 d0 = u0) (e3 : undo (tr.drop mk) 1 d1 = u1) (e4 : ms.take (ms.length - n) = ms2) :
  Call w 4 248 [.ref si, .int (n : Int) tn] news (fun r nw =>
    ∃ ca' a0' a1' n1' n2' nm' ml' nd' no' mv' rest', r = .none ∧ nw = (sd, sdO w K dl fl tl ml' nd' sp st false ca') :: (dl, listOf [Value.ref a0', .ref a1'].toArray n1') :: (tl, listOf (tv.take mk).toArray n2') :: (ml', listOf mv'.toArray nm') :: (nd', no') :: g rest' ∧
      Grow news r0 rest rest' ∧ NewsO w no' ∧ IntsAre mv' ms2 ∧
      DatIn rest' (.ref a0') (domD u0) ∧ DatIn rest' (.ref a1') (domD u1) ∧
      (∀ q ∈ news, Apart q.1 ml' ∧ Apart q.1 nd') ∧ OffL rest' ml' ∧ OffL rest' nd' ∧ Apart ml' nd') := by
  subst e2; subst e3; subst e4
  exact pop_c P1 P2 P3 P4 TI hsi D0 D1 Dt htx hfl Df0 Df1 he0 he1 hm hml htl hn1 hn2 hmk hmt
theorem pull2 {a b : Addr} {oa ob : Obj} {l n1 n2 : Led} (P1 : Pull a oa l n1) (P2 : Pull b ob n1 n2) : (∀ p ∈ (a, oa) :: (b, ob) :: n2, p ∈ l) ∧ (∀ p ∈ l, p ∈ (a, oa) :: (b, ob) :: n2) := by
  refine ⟨fun p hp => ?_, fun p hp => ?_⟩
  · rcases List.mem_cons.mp hp with e | hp
    · rw [e]; exact P1.mem
    · exact P1.sub p (.tail _ (P2.sub p hp))
  · rcases List.mem_cons.mp (P1.cover p hp) with e | hp
    · rw [e]; exact .head _
    · exact .tail _ (P2.cover p hp)
theorem clash_none_c {w : World} {K : Sk} {si sd dl fl tl ml nd ln lh a0 a1 ca : Addr} {sp : Int} {st tx : Tok} {fa : Bool} {n1 nn nh : Nat} {nv hv : List Value} {q : List Int} {x : Int} {news l1 others r0 rest : Led} {g : Led → Led}
  (P1 : Pull sd (sdO w K dl fl tl ml nd sp st fa ca) news l1) (P2 : Pull dl (listOf [Value.ref a0, .ref a1].toArray n1) l1 others)
  (TI : TailIs others r0 rest g) (hsi : (si, instObj 265 sd) ∈ rest) (Dx : DatIn rest (.ref (sel x a0 a1)) (domD (ivs q))) (Dc : DatIn rest (.ref ca) (.tuple []))
  (hln : (ln, listOf nv.toArray nn) ∈ rest) (hi : IntsAre nv []) (hlh : (lh, listOf hv.toArray nh) ∈ rest) (hh : IntsAre hv q) (hq : Good q) (hx : x = 0 ∨ x = 1) :
  Call w 6 293 [.ref si, .int x tx, .ref ln, .ref lh] news (fun r nw => ∃ rest', r = .bool true ∧ nw = (sd, sdO w K dl fl tl ml nd sp st fa ca) :: (dl, listOf [Value.ref a0, .ref a1].toArray n1) :: g rest' ∧ Grow news r0 rest rest') := by
  obtain ⟨hs, hc⟩ := pull2 P1 P2
  refine Call.sub (Call.mono (clash_none (n1 := n1) TI hsi Dx Dc hln hi hlh hh hq hx) (Nat.le_refl _) fun r nw hp => ?_) hs
  obtain ⟨rest', a, b, G⟩ := hp
  exact ⟨rest', a, b, G.cov hc⟩
theorem clash_some_c {w : World} {K : Sk} {si sd dl fl tl ml nd ln lh a0 a1 ca la : Addr} {sp : Int} {st tx t₁ t₂ t₃ : Tok} {fa : Bool} {n1 nn nh nc nl : Nat} {nv hv : List Value} {ns q : List Int} {x k : Int} {sg : Sg} {news l1 others r0 rest : Led} {g : Led → Led}
  (P1 : Pull sd (sdO w K dl fl tl ml nd sp st fa ca) news l1) (P2 : Pull dl (listOf [Value.ref a0, .ref a1].toArray n1) l1 others)
  (TI : TailIs others r0 rest g) (hsi : (si, instObj 265 sd) ∈ rest) (Dx : DatIn rest (.ref (sel x a0 a1)) (domD (ivs (someL ns q))))
  (hca : (ca, tupO [.ref la] nc) ∈ rest) (hla : (la, tupO [.int x t₁, .str sg.str t₂, .int k t₃] nl) ∈ rest)
  (hln : (ln, listOf nv.toArray nn) ∈ rest) (hi : IntsAre nv ns) (hlh : (lh, listOf hv.toArray nh) ∈ rest) (hh : IntsAre hv q) (hq : Good q) (hnz : ns ≠ []) (hnb : ∀ v ∈ ns, -2 ≤ v ∧ v < 10) (hnl : ns.length ≤ 3) (hx : x = 0 ∨ x = 1)
  (hno : ∀ v ∈ someL ns q, ¬ barsP sg k v) (hyes : ∀ v, minI ns ≤ v → v ≤ maxI ns → barsP sg k v) :
  Call w 6 293 [.ref si, .int x tx, .ref ln, .ref lh] news (fun r nw => ∃ rest', r = .bool true ∧ nw = (sd, sdO w K dl fl tl ml nd sp st fa ca) :: (dl, listOf [Value.ref a0, .ref a1].toArray n1) :: g rest' ∧ Grow news r0 rest rest') := by
  obtain ⟨hs, hc⟩ := pull2 P1 P2
  refine Call.sub (Call.mono (clash_some (n1 := n1) TI hsi Dx hca hla hln hi hlh hh hq hnz hnb hnl hx hno hyes) (Nat.le_refl _) fun r nw hp => ?_) hs
  obtain ⟨rest', a, b, G⟩ := hp
  exact ⟨rest', a, b, G.cov hc⟩
theorem sel_ivs {x : Int} {p q : List Int} (hx : x = 0 ∨ x = 1) : sel x (ivs p) (ivs q) = ivs (sel x p q) := by
  rcases hx with rfl | rfl <;> rfl
theorem sel_back {α : Type} {x : Int} {p q : α} (hx : x = 0 ∨ x = 1) : sel x (sel x p q) p = p ∧ sel x q (sel x p q) = q := by
  rcases hx with rfl | rfl <;> exact ⟨rfl, rfl⟩
theorem sel_mid {α : Type} {x : Int} {s a b : α} (hx : x = 0 ∨ x = 1) : sel x (sel x s a) (sel x b s) = s := by
  rcases hx with rfl | rfl <;> rfl
theorem dat_clash {r : Led} {ca : Addr} {x k : Int} {sg : Sg} (h : DatIn r (.ref ca) (.tuple [litD x sg.str k])) : ∃ la nc nl t₁ t₂ t₃, (ca, tupO [.ref la] nc) ∈ r ∧ (la, tupO [.int x t₁, .str sg.str t₂, .int k t₃] nl) ∈ r := by
  cases h with
  | tuple hm hr =>
    cases hr with
    | cons h1 hr =>
      cases hr
      cases h1 with
      | tuple hm1 hr1 =>
        obtain ⟨n, t₁, t₂, t₃, hl⟩ := litD_open (DatIn.tuple hm1 hr1)
        exact ⟨_, _, _, _, _, _, hm, hl⟩
theorem undo_sel {x : Int} {tre : List Ent} {S q0 q1 : List Int} (hx : x = 0 ∨ x = 1) (h : ∀ e ∈ tre, e.x = x) (hu : undo tre x (ivs S) = ivs (sel x q0 q1)) : undo tre 0 (sel x (ivs S) (ivs q0)) = ivs q0 ∧ undo tre 1 (sel x (ivs q1) (ivs S)) = ivs q1 := by
  rcases hx with rfl | rfl
  · exact ⟨hu, undo_off fun e he => by rw [h e he]; decide⟩
  · exact ⟨undo_off fun e he => by rw [h e he]; decide, hu⟩
theorem datAll_take {r : Led} : ∀ {vs : List Value} {ds : List Dat} (k : Nat), DatAll r vs ds → DatAll r (vs.take k) (ds.take k)
  | _, _, 0, _ => .nil
  | _, _, _ + 1, .nil => .nil
  | _, _, k + 1, .cons a h => .cons a (datAll_take k h)
/-- addresses that are apart, and off the others -/
def SepL : List Addr → Led → Prop
  | [], _ => True
  | a :: as, others => (∀ b ∈ as, Apart a b) ∧ OffL others a ∧ SepL as others
theorem take_pop {ms : List Int} {a : Int} : (ms ++ [a]).take ((ms ++ [a]).length - 1) = ms := by
  rw [List.length_append, List.length_singleton, Nat.add_sub_cancel]; exact List.take_left' rfl
theorem undo_dl {tr tre : List Ent} {x : Int} {d e : Dom} (h : undo tre x d = e) : undo ((tr ++ tre).drop tr.length) x d = e := by rw [List.drop_left' rfl]; exact h
theorem sepC {a : Addr} {as : List Addr} {r : Led} (h1 : ∀ b ∈ as, Apart a b) (h2 : OffL r a) (h3 : SepL as r) : SepL (a :: as) r := ⟨h1, h2, h3⟩
theorem sepN {r : Led} : SepL [] r := True.intro
theorem apC {a b : Addr} {as : List Addr} (h1 : Apart a b) (h2 : ∀ q ∈ as, Apart a q) : ∀ q ∈ b :: as, Apart a q := List.forall_mem_cons.mpr ⟨h1, h2⟩
theorem apN {a : Addr} : ∀ q ∈ ([] : List Addr), Apart a q := fun _ h => absurd h List.not_mem_nil
theorem sep_8 {a0 a1 a2 a3 a4 a5 a6 a7 : Addr} {r : Led} {C : Prop} (h : SepL [a0, a1, a2, a3, a4, a5, a6, a7] r) (k : Apart a0 a1 → Apart a0 a2 → Apart a0 a3 → Apart a0 a4 → Apart a0 a5 → Apart a0 a6 → Apart a0 a7 → OffL r a0 → Apart a1 a2 → Apart a1 a3 → Apart a1 a4 → Apart a1 a5 → Apart a1 a6 → Apart a1 a7 → OffL r a1 → Apart a2 a3 → Apart a2 a4 → Apart a2 a5 → Apart a2 a6 → Apart a2 a7 → OffL r a2 → Apart a3 a4 → Apart a3 a5 → Apart a3 a6 → Apart a3 a7 → OffL r a3 → Apart a4 a5 → Apart a4 a6 → Apart a4 a7 → OffL r a4 → Apart a5 a6 → Apart a5 a7 → OffL r a5 → Apart a6 a7 → OffL r a6 → OffL r a7 → C) : C := k (h.1 _ (.head _)) (h.1 _ (.tail _ (.head _))) (h.1 _ (.tail _ (.tail _ (.head _)))) (h.1 _ (.tail _ (.tail _ (.tail _ (.head _))))) (h.1 _ (.tail _ (.tail _ (.tail _ (.tail _ (.head _)))))) (h.1 _ (.tail _ (.tail _ (.tail _ (.tail _ (.tail _ (.head _))))))) (h.1 _ (.tail _ (.tail _ (.tail _ (.tail _ (.tail _ (.tail _ (.head _)))))))) h.2.1 (h.2.2.1 _ (.head _)) (h.2.2.1 _ (.tail _ (.head _))) (h.2.2.1 _ (.tail _ (.tail _ (.head _)))) (h.2.2.1 _ (.tail _ (.tail _ (.tail _ (.head _))))) (h.2.2.1 _ (.tail _ (.tail _ (.tail _ (.tail _ (.head _)))))) (h.2.2.1 _ (.tail _ (.tail _ (.tail _ (.tail _ (.tail _ (.head _))))))) h.2.2.2.1 (h.2.2.2.2.1 _ (.head _)) (h.2.2.2.2.1 _ (.tail _ (.head _))) (h.2.2.2.2.1 _ (.tail _ (.tail _ (.head _)))) (h.2.2.2.2.1 _ (.tail _ (.tail _ (.tail _ (.head _))))) (h.2.2.2.2.1 _ (.tail _ (.tail _ (.tail _ (.tail _ (.head _)))))) h.2.2.2.2.2.1 (h.2.2.2.2.2.2.1 _ (.head _)) (h.2.2.2.2.2.2.1 _ (.tail _ (.head _))) (h.2.2.2.2.2.2.1 _ (.tail _ (.tail _ (.head _)))) (h.2.2.2.2.2.2.1 _ (.tail _ (.tail _ (.tail _ (.head _))))) h.2.2.2.2.2.2.2.1 (h.2.2.2.2.2.2.2.2.1 _ (.head _)) (h.2.2.2.2.2.2.2.2.1 _ (.tail _ (.head _))) (h.2.2.2.2.2.2.2.2.1 _ (.tail _ (.tail _ (.head _)))) h.2.2.2.2.2.2.2.2.2.1 (h.2.2.2.2.2.2.2.2.2.2.1 _ (.head _)) (h.2.2.2.2.2.2.2.2.2.2.1 _ (.tail _ (.head _))) h.2.2.2.2.2.2.2.2.2.2.2.1 (h.2.2.2.2.2.2.2.2.2.2.2.2.1 _ (.head _)) h.2.2.2.2.2.2.2.2.2.2.2.2.2.1 h.2.2.2.2.2.2.2.2.2.2.2.2.2.2.2.1
theorem sep_9 {a0 a1 a2 a3 a4 a5 a6 a7 a8 : Addr} {r : Led} {C : Prop} (h : SepL [a0, a1, a2, a3, a4, a5, a6, a7, a8] r) (k : Apart a0 a1 → Apart a0 a2 → Apart a0 a3 → Apart a0 a4 → Apart a0 a5 → Apart a0 a6 → Apart a0 a7 → Apart a0 a8 → OffL r a0 → Apart a1 a2 → Apart a1 a3 → Apart a1 a4 → Apart a1 a5 → Apart a1 a6 → Apart a1 a7 → Apart a1 a8 → OffL r a1 → Apart a2 a3 → Apart a2 a4 → Apart a2 a5 → Apart a2 a6 → Apart a2 a7 → Apart a2 a8 → OffL r a2 → Apart a3 a4 → Apart a3 a5 → Apart a3 a6 → Apart a3 a7 → Apart a3 a8 → OffL r a3 → Apart a4 a5 → Apart a4 a6 → Apart a4 a7 → Apart a4 a8 → OffL r a4 → Apart a5 a6 → Apart a5 a7 → Apart a5 a8 → OffL r a5 → Apart a6 a7 → Apart a6 a8 → OffL r a6 → Apart a7 a8 → OffL r a7 → OffL r a8 → C) : C := k (h.1 _ (.head _)) (h.1 _ (.tail _ (.head _))) (h.1 _ (.tail _ (.tail _ (.head _)))) (h.1 _ (.tail _ (.tail _ (.tail _ (.head _))))) (h.1 _ (.tail _ (.tail _ (.tail _ (.tail _ (.head _)))))) (h.1 _ (.tail _ (.tail _ (.tail _ (.tail _ (.tail _ (.head _))))))) (h.1 _ (.tail _ (.tail _ (.tail _ (.tail _ (.tail _ (.tail _ (.head _)))))))) (h.1 _ (.tail _ (.tail _ (.tail _ (.tail _ (.tail _ (.tail _ (.tail _ (.head _))))))))) h.2.1 (h.2.2.1 _ (.head _)) (h.2.2.1 _ (.tail _ (.head _))) (h.2.2.1 _ (.tail _ (.tail _ (.head _)))) (h.2.2.1 _ (.tail _ (.tail _ (.tail _ (.head _))))) (h.2.2.1 _ (.tail _ (.tail _ (.tail _ (.tail _ (.head _)))))) (h.2.2.1 _ (.tail _ (.tail _ (.tail _ (.tail _ (.tail _ (.head _))))))) (h.2.2.1 _ (.tail _ (.tail _ (.tail _ (.tail _ (.tail _ (.tail _ (.head _)))))))) h.2.2.2.1 (h.2.2.2.2.1 _ (.head _)) (h.2.2.2.2.1 _ (.tail _ (.head _))) (h.2.2.2.2.1 _ (.tail _ (.tail _ (.head _)))) (h.2.2.2.2.1 _ (.tail _ (.tail _ (.tail _ (.head _))))) (h.2.2.2.2.1 _ (.tail _ (.tail _ (.tail _ (.tail _ (.head _)))))) (h.2.2.2.2.1 _ (.tail _ (.tail _ (.tail _ (.tail _ (.tail _ (.head _))))))) h.2.2.2.2.2.1 (h.2.2.2.2.2.2.1 _ (.head _)) (h.2.2.2.2.2.2.1 _ (.tail _ (.head _))) (h.2.2.2.2.2.2.1 _ (.tail _ (.tail _ (.head _)))) (h.2.2.2.2.2.2.1 _ (.tail _ (.tail _ (.tail _ (.head _))))) (h.2.2.2.2.2.2.1 _ (.tail _ (.tail _ (.tail _ (.tail _ (.head _)))))) h.2.2.2.2.2.2.2.1 (h.2.2.2.2.2.2.2.2.1 _ (.head _)) (h.2.2.2.2.2.2.2.2.1 _ (.tail _ (.head _))) (h.2.2.2.2.2.2.2.2.1 _ (.tail _ (.tail _ (.head _)))) (h.2.2.2.2.2.2.2.2.1 _ (.tail _ (.tail _ (.tail _ (.head _))))) h.2.2.2.2.2.2.2.2.2.1 (h.2.2.2.2.2.2.2.2.2.2.1 _ (.head _)) (h.2.2.2.2.2.2.2.2.2.2.1 _ (.tail _ (.head _))) (h.2.2.2.2.2.2.2.2.2.2.1 _ (.tail _ (.tail _ (.head _)))) h.2.2.2.2.2.2.2.2.2.2.2.1 (h.2.2.2.2.2.2.2.2.2.2.2.2.1 _ (.head _)) (h.2.2.2.2.2.2.2.2.2.2.2.2.1 _ (.tail _ (.head _))) h.2.2.2.2.2.2.2.2.2.2.2.2.2.1 (h.2.2.2.2.2.2.2.2.2.2.2.2.2.2.1 _ (.head _)) h.2.2.2.2.2.2.2.2.2.2.2.2.2.2.2.1 h.2.2.2.2.2.2.2.2.2.2.2.2.2.2.2.2.2.1
theorem offs_8 {a0 a1 a2 a3 a4 a5 a6 a7 : Addr} {r : Led} {C : Prop} (h : SepL [a0, a1, a2, a3, a4, a5, a6, a7] r) (k : OffL r a0 → OffL r a1 → OffL r a2 → OffL r a3 → OffL r a4 → OffL r a5 → OffL r a6 → OffL r a7 → C) : C := k h.2.1 h.2.2.2.1 h.2.2.2.2.2.1 h.2.2.2.2.2.2.2.1 h.2.2.2.2.2.2.2.2.2.1 h.2.2.2.2.2.2.2.2.2.2.2.1 h.2.2.2.2.2.2.2.2.2.2.2.2.2.1 h.2.2.2.2.2.2.2.2.2.2.2.2.2.2.2.1
theorem offs_9 {a0 a1 a2 a3 a4 a5 a6 a7 a8 : Addr} {r : Led} {C : Prop} (h : SepL [a0, a1, a2, a3, a4, a5, a6, a7, a8] r) (k : OffL r a0 → OffL r a1 → OffL r a2 → OffL r a3 → OffL r a4 → OffL r a5 → OffL r a6 → OffL r a7 → OffL r a8 → C) : C := k h.2.1 h.2.2.2.1 h.2.2.2.2.2.1 h.2.2.2.2.2.2.2.1 h.2.2.2.2.2.2.2.2.2.1 h.2.2.2.2.2.2.2.2.2.2.2.1 h.2.2.2.2.2.2.2.2.2.2.2.2.2.1 h.2.2.2.2.2.2.2.2.2.2.2.2.2.2.2.1 h.2.2.2.2.2.2.2.2.2.2.2.2.2.2.2.2.2.1
/-- what the ledger says of the state -/
structure StF (w : World) (rest : Led) (a0 a1 : Addr) (tv mv : List Value) (no : Obj) (l0 l1 : Addr) (tr : List Ent) (ms q0 q1 : List Int) : Prop where
  D0 : DatIn rest (.ref a0) (domD (ivs q0))
  D1 : DatIn rest (.ref a1) (domD (ivs q1))
  Dt : DatAll rest tv (tr.map entD)
  no : NewsO w no
  im : IntsAre mv ms
  i0 : IntsAt rest l0 q0
  i1 : IntsAt rest l1 q1
theorem Apart.swap {a b : Addr} (h : Apart a b) : Apart b a := fun e => h e.symm
theorem offG {l r0 r x : Led} {g : Led → Led} {d : Addr} (T : TailIs l r0 r g) (h0 : OffL l d) (hx : OffL x d) : OffL (g x) d := T.offAt h0 hx
/-- what a deed hands back: the state as it was, or one level more -/
inductive LapP (w : World) (K : Sk) (sd dl fl tl ml nd fd ol kl cc : Addr) (sp : Int) (st : Tok) (l0 l1 : Addr) (kv : List Value) (nq nk : Nat) (k : Int) (tr : List Ent) (ms : List Int) (hs : List (List Int × List Int)) (q0 q1 g0 g1 : List Int) (news r0 rest : Led) (g : Led → Led) : Led → Prop
  | stay (ca : Addr) (k' : Int) (of : Obj) (a0 a1 : Addr) (n1 n2 nm : Nat) (tv mv : List Value) (ml' nd' : Addr) (no : Obj) (rest' : Led) (ho : FeedO w of cc k') (h1 : k ≤ k') (h2 : k' ≤ k + 5)
      (G : Grow news r0 rest rest') (S : StF w rest' a0 a1 tv mv no l0 l1 tr ms q0 q1) (sp' : SepL [sd, dl, tl, nd', ml', fd, ol, kl] (g rest')) :
      LapP w K sd dl fl tl ml nd fd ol kl cc sp st l0 l1 kv nq nk k tr ms hs q0 q1 g0 g1 news r0 rest g ((sd, sdO w K dl fl tl ml' nd' sp st false ca) :: (dl, listOf [Value.ref a0, .ref a1].toArray n1) :: (tl, listOf tv.toArray n2) :: (nd', no) :: (ml', listOf mv.toArray nm) :: (fd, of) :: (ol, listOf [Value.ref l0, .ref l1].toArray nq) :: (kl, listOf kv.toArray nk) :: g rest')
  | more (ca : Addr) (k' : Int) (of : Obj) (a0 a1 : Addr) (n1 n2 nm : Nat) (tv mv : List Value) (no : Obj) (l0' l1' : Addr) (nq' nk' : Nat) (l9 : Addr) (n9 : Nat) (tr' : List Ent) (q0' q1' : List Int) (rest' : Led) (ho : FeedO w of cc k') (h1 : k ≤ k') (h2 : k' ≤ k + 5)
      (G : Grow news r0 rest rest') (S : StF w rest' a0 a1 tv mv no l0' l1' tr' (ms ++ [(tr.length : Int)]) q0' q1') (i0 : IntsAt rest' l0 q0) (i1 : IntsAt rest' l1 q1) (H : Hist g0 g1 tr' (ms ++ [(tr.length : Int)]) (hs ++ [(q0, q1)]) q0' q1') (sp' : SepL [sd, dl, tl, nd, ml, fd, ol, kl, l9] (g rest')) :
      LapP w K sd dl fl tl ml nd fd ol kl cc sp st l0 l1 kv nq nk k tr ms hs q0 q1 g0 g1 news r0 rest g ((sd, sdO w K dl fl tl ml nd sp st false ca) :: (dl, listOf [Value.ref a0, .ref a1].toArray n1) :: (tl, listOf tv.toArray n2) :: (nd, no) :: (ml, listOf mv.toArray nm) :: (fd, of) :: (ol, listOf [Value.ref l0', .ref l1'].toArray nq') :: (kl, listOf (kv ++ [Value.ref l9]).toArray nk') :: (l9, listOf [Value.ref l0, .ref l1].toArray n9) :: g rest')
theorem Hist.base {f0 f1 : List Int} {tr : List Ent} {ms : List Int} {st : List (List Int × List Int)} {q0 q1 : List Int} (H : Hist f0 f1 tr ms st q0 q1) : Good f0 ∧ Good f1 := by
  induction H with
  | nil a b => exact ⟨a, b⟩
  | push _ _ _ _ _ _ _ ih => exact ih
theorem intsAt_sel {r : Led} {x : Int} {a b : Addr} {p q : List Int} (hx : x = 0 ∨ x = 1) (ha : IntsAt r a p) (hb : IntsAt r b q) : IntsAt r (sel x a b) (sel x p q) := by
  rcases hx with rfl | rfl
  · exact ha
  · exact hb
theorem good_sel {x : Int} {p q : List Int} (hx : x = 0 ∨ x = 1) (ha : Good p) (hb : Good q) : Good (sel x p q) := by
  rcases hx with rfl | rfl
  · exact ha
  · exact hb
/-- made objects are laid to the frozen part -/
theorem freeze {h₀ h : Heap} {L : Addr} {l l0 r0 rest : Led} {g : Led → Led} (new : Led) (TI : TailIs l0 r0 rest g) (N : News h₀ L h l) (ho : ∀ p ∈ l0, p ∈ l) (hn : ∀ p ∈ new, p ∈ l)
    (ha : ∀ q ∈ new, ∀ p ∈ l0, p.1 ≠ q.1) : ∃ rest', (∀ p ∈ new, p ∈ rest') ∧ News h₀ L h (g rest') ∧ Grow l0 rest rest rest' := by
  obtain ⟨ex, hex, hen⟩ := TI.split
  refine ⟨new ++ rest, fun p hp => List.mem_append_left _ hp, ?_, ?_⟩
  · intro p h
    rw [hex] at h
    rcases List.mem_append.mp h with h | h
    · exact N p (ho p (hen p h))
    · rcases List.mem_append.mp h with h | h
      · exact N p (hn p h)
      · exact N p (ho p (TI.sub p h))
  · refine ⟨fun p h => List.mem_append_right _ h, fun p h => List.mem_append_right _ h, fun d ⟨o, hd⟩ hr p h => ?_⟩
    rcases List.mem_append.mp h with h | h
    · exact Ne.symm (ha p h _ hd)
    · exact hr p h
theorem kept_filter {ns q : List Int} : q.filter (fun v => decide (minI ns ≤ v ∧ v ≤ maxI ns)) = keptL ns q := by
  rw [keptL, keepL, keepL, List.filter_filter]
  refine List.filter_congr fun v _ => ?_
  simp only [barsB, gt_iff_lt, ← decide_not, Int.not_lt, ← Bool.decide_and]
  exact decide_eq_decide.mpr And.comm
theorem off1_ap {d : Addr} {l : Led} (h : Off1 d l) : ∀ q ∈ l, Apart q.1 d := off1_mem h
theorem off_2 {l : Led} {T : Addr} (h : ∀ p ∈ l, p.1 < T) : OffL l (T + 1 + 1) := fun p hp => Nat.ne_of_lt (Nat.lt_succ_of_lt (Nat.lt_succ_of_lt (h p hp)))
theorem two_of {x : Int} (h0 : 0 ≤ x) (h2 : x < 2) : x = 0 ∨ x = 1 := by omega
theorem off_1 {l : Led} {T : Addr} (h : ∀ p ∈ l, p.1 < T) : OffL l (T + 1) := fun p hp => Nat.ne_of_lt (Nat.lt_succ_of_lt (h p hp))
theorem stand_cP {w : World} {K : Sk} {si sd dl fl tl ml nd ln lh lk a0 a1 ca : Addr} {no : Obj} {sp : Int} {st tx tb : Tok} {n1 n2 nn nh nk : Nat} {tv nv hv kv : List Value} {ns q : List Int} {d0 d1 : Dom} {tr0 tre : List Ent} {x bf : Int} {news l1 l2 l3 others r0 rest : Led} {g : Led → Led}
  (P1 : Pull sd (sdO w K dl fl tl ml nd sp st false ca) news l1) (P2 : Pull dl (listOf [Value.ref a0, .ref a1].toArray n1) l1 l2) (P3 : Pull tl (listOf tv.toArray n2) l2 l3) (P4 : Pull nd no l3 others)
  (TI : TailIs others r0 rest g) (hsi : (si, instObj 265 sd) ∈ rest) (D0 : DatIn rest (.ref a0) (domD d0)) (D1 : DatIn rest (.ref a1) (domD d1)) (hl0 : d0.length ≤ 900) (hl1 : d1.length ≤ 900)
  (Dt : DatAll rest tv ((tr0 ++ tre).map entD)) (htl : (tr0 ++ tre).length ≤ 900) (hno : NewsO w no) (hx : x = 0 ∨ x = 1) (hxd : sel x d0 d1 = ivs (keptL ns q))
  (hln : (ln, listOf nv.toArray nn) ∈ rest) (hi : IntsAre nv ns) (hlh : (lh, listOf hv.toArray nh) ∈ rest) (hh : IntsAre hv q) (hq : Good q) (hlk : (lk, listOf kv.toArray nk) ∈ rest) (hk' : IntsAre kv (keptL ns q)) (hkq : Good (keptL ns q))
  (hnz : ns ≠ []) (hnb : ∀ v ∈ ns, -2 ≤ v ∧ v < 10) (hnl : ns.length ≤ 3) (hcut : tre.length = cutsOf ns q) (his : ∀ e ∈ tre, e.x = x ∧ e.rs = .tuple [] ∧ e.sp = sp) (hbf : bf = (tr0.length : Int)) :
  Call w 9 298 [.ref si, .int x tx, .ref ln, .ref lh, .ref lk, .int bf tb] news (fun r nw =>
    ∃ a0' a1' tv' n1' n2' no' rest', r = .bool true ∧ nw = (sd, sdO w K dl fl tl ml nd sp st false ca) :: (dl, listOf [Value.ref a0', .ref a1'].toArray n1') :: (tl, listOf tv'.toArray n2') :: (nd, no') :: g rest' ∧
      Grow news r0 rest rest' ∧ NewsO w no' ∧ DatIn rest' (.ref a0') (domD d0) ∧ DatIn rest' (.ref a1') (domD d1) ∧ DatAll rest' tv' ((tr0 ++ tre).map entD)) := by
  subst hbf
  obtain ⟨hs, hc, o1, o2, o3, o4, h12, h13, h14, h23, h24, h34⟩ := pull4 P1 P2 P3 P4
  refine Call.sub (Call.mono (stand_c (K := K) (fl := fl) (ml := ml) (st := st) (ca := ca) (n1 := n1) (n2 := n2) TI hsi D0 D1 hl0 hl1 Dt htl hno hx hxd hln hi hlh hh hq hlk hk' hkq hnz hnb hnl hcut his o1 o2 o3 o4 h12 h13 h14 h23 h24 h34) (Nat.le_refl _) fun r nw hp => ?_) hs
  exact el_7_7 hp fun a0' a1' tv' n1' n2' no' rest' a b G c d e f => in_7_7 a0' a1' tv' n1' n2' no' rest' a b (G.cov hc) c d e f
theorem cuts_le {ns q : List Int} : cutsOf ns q ≤ 2 := by unfold cutsOf; split <;> split <;> omega
theorem list_of {prog : Program} {w : World} {A : Around} {E : Value → Shared → Prop} {s : Shared} {h₀ : Heap} {L b : Addr} {m : Str → Option Value} {news : Led} {zs : List Value} {n2 : Nat} {Q : Value → Shared → Prop} (F : Fr h₀ L s.heap m) (N : News h₀ L s.heap news) (hb : (b, listOf zs.toArray n2) ∈ news) (hz : zs.length ≤ 1000)
    (h : ∀ D c h', Fr h₀ L h' m → News h₀ L h' ((D, listOf zs.toArray c) :: news) → (∀ q ∈ news, Apart q.1 D) → Q (.ref D) { s with heap := h' }) : wpAny (model prog w) A (call (.type "list") [.ref b]) Q E s :=
  kup_listOf F N hb (by simp) (fun D c h' F' N' l1 => h D c h' F' N' fun q hq => Nat.ne_of_lt (l1 q hq)) (by rw [sizeLine_eq]; simp; omega)
/-- what is kept, also where no number is said -/
def keptA (ns q : List Int) : List Int := if ns = [] then [] else keptL ns q
theorem keptA_ne {ns q : List Int} (h : keptA ns q ≠ []) : ns ≠ [] ∧ keptL ns q ≠ [] ∧ keptA ns q = keptL ns q := by
  unfold keptA at h ⊢
  by_cases hz : ns = []
  · rw [if_pos hz] at h; exact absurd rfl h
  · rw [if_neg hz] at h ⊢; exact ⟨hz, h, rfl⟩
theorem keptA_filter {ns q : List Int} : q.filter (fun v => decide (ns ≠ [] ∧ minI ns ≤ v ∧ v ≤ maxI ns)) = keptA ns q := by
  unfold keptA
  by_cases hz : ns = []
  · rw [if_pos hz]; exact List.filter_eq_nil_iff.mpr fun v _ h => absurd hz (of_decide_eq_true h).1
  · rw [if_neg hz, ← kept_filter]
    congr 1
    funext v
    exact decide_eq_decide.mpr ⟨fun h => h.2, fun h => ⟨hz, h⟩⟩
def ClashOk (x : Int) (ns q dxq : List Int) (cl : List Dat) : Prop :=
  (ns = [] ∧ cl = [] ∧ dxq = q) ∨ (ns ≠ [] ∧ dxq = someL ns q ∧ ∃ sg k, cl = [litD x (Sg.str sg) k] ∧ (∀ v ∈ someL ns q, ¬ barsP sg k v) ∧ (∀ v, minI ns ≤ v → v ≤ maxI ns → barsP sg k v))
theorem betw_fail {x sp : Int} {ns q : List Int} {tr : List Ent} (h : Good q) (hk : keptA ns q = []) :
    ∃ dxq tre cl, betwF x sp ns (ivs q) tr = ⟨false, ivs dxq, tr ++ tre, cl⟩ ∧ ClashOk x ns q dxq cl ∧ tre.length ≤ 1 ∧ (∀ e ∈ tre, e.x = x) ∧ undo tre x (ivs dxq) = ivs q := by
  by_cases hz : ns = []
  · subst hz
    exact ⟨q, [], [], by rw [List.append_nil]; exact betw_none, .inl ⟨rfl, rfl, rfl⟩, Nat.zero_le _, fun _ h => absurd h List.not_mem_nil, rfl⟩
  · have hk' : keptL ns q = [] := by unfold keptA at hk; rw [if_neg hz] at hk; exact hk
    obtain ⟨tre, sg, k, e, _, a, b, c, d, f⟩ := betw_no (x := x) (sp := sp) (tr := tr) h hz hk'
    exact ⟨someL ns q, tre, _, e, .inr ⟨hz, rfl, sg, k, rfl, a, b⟩, c, d, f⟩
theorem clash_c {w : World} {K : Sk} {si sd dl fl tl ml nd ln lh a0 a1 ca : Addr} {sp : Int} {st tx : Tok} {fa : Bool} {n1 nn nh : Nat} {nv hv : List Value} {ns q dxq : List Int} {cl : List Dat} {x : Int} {news l1 others r0 rest : Led} {g : Led → Led}
  (P1 : Pull sd (sdO w K dl fl tl ml nd sp st fa ca) news l1) (P2 : Pull dl (listOf [Value.ref a0, .ref a1].toArray n1) l1 others)
  (TI : TailIs others r0 rest g) (hsi : (si, instObj 265 sd) ∈ rest) (Dx : DatIn rest (.ref (sel x a0 a1)) (domD (ivs dxq))) (Dc : DatIn rest (.ref ca) (.tuple cl))
  (hln : (ln, listOf nv.toArray nn) ∈ rest) (hi : IntsAre nv ns) (hlh : (lh, listOf hv.toArray nh) ∈ rest) (hh : IntsAre hv q) (hq : Good q) (hnb : ∀ v ∈ ns, -2 ≤ v ∧ v < 10) (hnl : ns.length ≤ 3) (hx : x = 0 ∨ x = 1)
  (ok : ClashOk x ns q dxq cl) :
  Call w 6 293 [.ref si, .int x tx, .ref ln, .ref lh] news (fun r nw => ∃ rest', r = .bool true ∧ nw = (sd, sdO w K dl fl tl ml nd sp st fa ca) :: (dl, listOf [Value.ref a0, .ref a1].toArray n1) :: g rest' ∧ Grow news r0 rest rest') := by
  rcases ok with ⟨rfl, rfl, rfl⟩ | ⟨hz, rfl, sg, k, rfl, hno, hyes⟩
  · exact clash_none_c P1 P2 TI hsi Dx Dc hln hi hlh hh hq hx
  · obtain ⟨la, nc, nl, t₁, t₂, t₃, hca, hla⟩ := dat_clash Dc
    exact clash_some_c P1 P2 TI hsi Dx hca hla hln hi hlh hh hq hz hnb hnl hx hno hyes
theorem pos_ne {b : Bool} {ns : List Int} (h : b = true ↔ ns ≠ []) (e : b = true) : 0 < ns.length := List.length_pos_iff.mpr (h.mp e)
theorem flt_n {b : Bool} {ns : List Int} {v : Int} (h : b = true ↔ ns ≠ []) (e : b = false) : decide (ns ≠ [] ∧ minI ns ≤ v ∧ v ≤ maxI ns) = false := decide_eq_false fun q => absurd (h.mpr q.1) (by rw [e]; exact Bool.false_ne_true)
theorem flt_l {ns : List Int} {v : Int} (e : ¬ minI ns ≤ v) : decide (ns ≠ [] ∧ minI ns ≤ v ∧ v ≤ maxI ns) = false := decide_eq_false fun q => e q.2.1
theorem flt_g {ns : List Int} {v : Int} (e : ¬ v ≤ maxI ns) : decide (ns ≠ [] ∧ minI ns ≤ v ∧ v ≤ maxI ns) = false := decide_eq_false fun q => e q.2.2
theorem flt_y {b : Bool} {ns : List Int} {v : Int} (h : b = true ↔ ns ≠ []) (e : b = true) (h1 : minI ns ≤ v) (h2 : v ≤ maxI ns) : decide (ns ≠ [] ∧ minI ns ≤ v ∧ v ≤ maxI ns) = true := decide_eq_true ⟨h.mp e, h1, h2⟩
theorem rows_C16_0 : True := by
  k_with_none
  w_top off
  trivial
theorem rows_C16_1 : True := by
  k_with "LT9" => (first | (with_reducible assumption) | (refine' ltM ?lt1 ?lt2; (case lt1 => (with_reducible assumption)); (case lt2 => (repeat (first | exact List.Mem.head _ | refine List.Mem.tail _ ?_)); done)) | (refine' ltT ?lt0 ?lt1 ?lt2; (case lt0 => (with_reducible assumption)); (case lt1 => (with_reducible assumption)); (case lt2 => (repeat (first | exact List.Mem.head _ | refine List.Mem.tail _ ?_)); done)) | fail "LT9")
  k_with "k_ne" => (first | (with_reducible assumption) | (refine' Ne.symm ?ne1; (case ne1 => (with_reducible assumption))) | (refine neG ?_; walk_at "LT9") | (refine neL ?_; walk_at "LT9") | (refine neS ?_; walk_at "LT9") | (refine neT ?_; walk_at "LT9") | (refine neS2 ?_; walk_at "LT9") | (refine neT2 ?_; walk_at "LT9") | (refine neS3 ?_; walk_at "LT9") | (refine neT3 ?_; walk_at "LT9") | (refine' neM (l := _ :: _) ?lt1 ?lt2; (case lt1 => (with_reducible assumption)); (case lt2 => (repeat (first | exact List.Mem.head _ | refine List.Mem.tail _ ?_)); done)) | (refine' neN (l := _ :: _) ?lt1 ?lt2; (case lt1 => (with_reducible assumption)); (case lt2 => (repeat (first | exact List.Mem.head _ | refine List.Mem.tail _ ?_)); done)) | exact nc12 | exact nc21 | exact nc13 | exact nc31 | exact nc23 | exact nc32 | fail "k_ne")
  k_with "ktr_room" => (first | (rename (_ + _ < recursionLimit) => zzh9; first | exact rmU 0 zzh9 rfl rfl | exact rmU 1 zzh9 rfl rfl | exact rmU 2 zzh9 rfl rfl | exact rmU 3 zzh9 rfl rfl | exact rmU 4 zzh9 rfl rfl | exact rmU 5 zzh9 rfl rfl | exact rmU 6 zzh9 rfl rfl | exact rmU 7 zzh9 rfl rfl | exact rmU 8 zzh9 rfl rfl | exact rmU 9 zzh9 rfl rfl) | exact ltB rfl)
  k_with "ktr_units" => (first | (rename (_ + _ + _ < cLine) => zzh9; first | exact umU 0 zzh9 rfl rfl | exact umU 3 zzh9 rfl rfl | exact umU 6 zzh9 rfl rfl | exact umU 9 zzh9 rfl rfl | exact umU 12 zzh9 rfl rfl | exact umU 1 zzh9 rfl rfl | exact umU 4 zzh9 rfl rfl | exact umU 7 zzh9 rfl rfl | exact umU 10 zzh9 rfl rfl | exact umU 2 zzh9 rfl rfl | exact umU 5 zzh9 rfl rfl | exact umU 8 zzh9 rfl rfl | exact umU 11 zzh9 rfl rfl | exact umU 13 zzh9 rfl rfl | exact umU 14 zzh9 rfl rfl | exact umU 15 zzh9 rfl rfl | exact umV 0 zzh9 rfl rfl | exact umV 3 zzh9 rfl rfl | exact umV 6 zzh9 rfl rfl | exact umV 9 zzh9 rfl rfl | exact umV 12 zzh9 rfl rfl | exact umV 1 zzh9 rfl rfl | exact umV 4 zzh9 rfl rfl | exact umV 7 zzh9 rfl rfl | exact umV 10 zzh9 rfl rfl | exact umV 2 zzh9 rfl rfl | exact umV 5 zzh9 rfl rfl | exact umV 8 zzh9 rfl rfl | exact umV 11 zzh9 rfl rfl | exact umV 13 zzh9 rfl rfl | exact umV 14 zzh9 rfl rfl | exact umV 15 zzh9 rfl rfl) | exact ltB rfl)
  k_with "OM" => (first | (with_reducible assumption) | exact Nat.zero_le _ | (refine' leB ?om1 ?om2; (case om1 => (with_reducible assumption)); (case om2 => (fail_if_success (fail_if_success decide)); exact rfl)) | (refine' leS ?om1 ?om2; (case om1 => (with_reducible assumption)); (case om2 => (fail_if_success (fail_if_success decide)); exact rfl)) | (with_reducible refine' ltL ?om1 ?om2; (case om1 => (with_reducible assumption)); (case om2 => (fail_if_success (fail_if_success decide)); exact rfl)) | ((fail_if_success (fail_if_success decide)); exact ltB rfl) | (refine' i0_1 ?om1; (case om1 => (with_reducible assumption))) | (refine' i0_2 ?om1; (case om1 => (with_reducible assumption))) | (refine' i0_3 ?om1; (case om1 => (with_reducible assumption))) | (refine' il_0 ?om1 ?om2; (case om1 => (with_reducible assumption)); (case om2 => decide)) | (refine' il_1 ?om1 ?om2; (case om1 => (with_reducible assumption)); (case om2 => decide)) | (refine' il_2 ?om1 ?om2; (case om1 => (with_reducible assumption)); (case om2 => decide)) | (refine' il_3 ?om1 ?om2; (case om1 => (with_reducible assumption)); (case om2 => decide)) | exact ia_3 | exact ia_5 | exact ic_0 | decide | omega)
  k_with "k_all" => (first
  | (with_reducible assumption)
  | (refine' OffL.out ?ko1; (case ko1 => (with_reducible assumption)))
  | (refine' offA ?ko1; (case ko1 => (with_reducible assumption)))
  | (refine' TailIs.offAtL ?ko1 ?ko2 ?ko3; (case ko1 => (with_reducible assumption)); (case ko2 => (with_reducible assumption)); (case ko3 => (with_reducible assumption)))
  | (refine' offC ?ka1 ?ka2; (case ka1 => first | (refine' Apart.l ?kp1; (case kp1 => (with_reducible assumption))) | (refine' Apart.r ?kp1; (case kp1 => (with_reducible assumption))) | k_ne); (case ka2 => k_all))
  | assumption)
  k_with "k_upd" => (first | (refine' Upd.head ?ku1; (case ku1 => k_all)) | (refine' Upd.tail ?ku1 ?ku2; (case ku1 => first | (refine' Apart.l ?kp1; (case kp1 => (with_reducible assumption))) | (refine' Apart.r ?kp1; (case kp1 => (with_reducible assumption))) | k_ne); (case ku2 => k_upd)) | fail "k_upd")
  k_with "k_updF" => (first | (refine' Pull.head ?kf1; (case kf1 => k_all)) | (refine' Pull.tail ?_ ?kf2; (case kf2 => k_updF); (first | (refine' Apart.l ?kp1; (case kp1 => (with_reducible assumption))) | (refine' Apart.r ?kp1; (case kp1 => (with_reducible assumption))) | k_ne)) | (refine' UpdF.head ?kf1; (case kf1 => k_all)) | (refine' UpdF.tail ?_ ?kf2; (case kf2 => k_updF); (first | (refine' Apart.l ?kp1; (case kp1 => (with_reducible assumption))) | (refine' Apart.r ?kp1; (case kp1 => (with_reducible assumption))) | k_ne)) | fail "k_updF")
  k_with "k_mem" => (first | (refine mem_of ?_; (with_reducible assumption)) | (refine mem_of ?_; refine' TailIs.sub ?km1 _ ?km2; (case km1 => first | (refine' TailIs.rebase ?tr1; (case tr1 => (with_reducible assumption))) | (refine' TailIs.at ?tr1 _; (case tr1 => (with_reducible assumption)))); (case km2 => (with_reducible assumption))) | fail "k_mem")
  k_with "call builtin:len" => ((k_here; (with_reducible show wpAny _ _ (call (Value.builtin "len") [Value.ref _]) _ _ _); k_dflt (refine' len_ints_fit (News.isList ?n ?m) ?i ?f ?_; (case n => k_asm); (case m => k_mem); (case i => (with_reducible assumption)); (case f => k_extra "OM"); k_whole)))
  k_with "subscriptTail Name Name ref int" => ((k_here; (with_reducible show wpAny _ _ (subscriptTail _ _ (Value.ref _) (Value.int _ _)) _ _ _); (with_unfolding_all refine' item_list_ints (News.isList ?n ?m) ?k2 ?k3 ?k4 ?k5 ?_; (case n => k_asm); (case m => k_mem); (case k2 => (with_reducible assumption)); (case k3 => k_extra "OM"); (case k4 => k_extra "OM"); (case k5 => k_extra "OM"); k_whole); intro _))
  k_with "k_enter" => (first
  | (refine' code_def ?k1 ?k2 ?k3 ?k4 ?k5 ?kA ?kF ?kK ?k6 ?k7 ?k8 ?k9 ?kB ?_ ?c2 ?c3 ?c4 ?c5; (case kA => exact rfl); (case kF => exact rfl); (case kK => first | exact rfl | (with_reducible assumption)); (case k1 => k_asm); (case k2 => k_asm); (case k3 => k_asm); (case k4 => k_asm); (case k5 => k_asm); (case k6 => k_is); (case k7 => k_is); (case k8 => ktr_room); (case k9 => first | exact BindsTo.of_eq rfl | exact binds_K (by k_in) rfl (by k_is) rfl rfl rfl | fail "k_enter: no rule for these arguments"); (case c5 => decide); (case kB => exact locs rfl); (case c2 => exact rfl); (case c3 => exact rfl); (case c4 => exact rfl); k_whole; intro _ _ _ _ _ zzN' _ _ _; (try dsimp only); (try k_fold))
  | (refine' code_defC ?k1 ?k2 ?k3 ?k4 ?k5 ?kA ?kF ?kK ?k6 ?k7 ?k8 ?k9 ?kB ?kD ?_ ?c2 ?c3 ?c4; (case kA => exact rfl); (case kF => exact rfl); (case kK => first | exact rfl | (with_reducible assumption)); (case k1 => k_asm); (case k2 => k_asm); (case k3 => k_asm); (case k4 => k_asm); (case k5 => k_asm); (case k6 => k_is); (case k7 => k_is); (case k8 => ktr_room); (case k9 => first | exact BindsTo.of_eq rfl | exact binds_K (by k_in) rfl (by k_is) rfl rfl rfl | fail "k_enter: no rule for these arguments"); (case kB => exact rfl); (case kD => decide +kernel); (case c2 => exact rfl); (case c3 => exact rfl); (case c4 => exact rfl); k_whole; intro _ _ _ _ _ _ _ zzN' zzY' _ _ _ zzl1; revert zzl1; intro _; (have _ := Mk9.mk); k_cells zzY'; (try (simp only [List.cons_append, List.nil_append] at zzN'; revert zzN'; intro _)); (try dsimp only); (try k_fold)))
  k_with "call type:tuple" => ((k_here; (with_reducible show wpAny _ _ (call (Value.type _) [Value.ref _]) _ _ _); k_dflt (refine' kde_tupleOf ?k1 ?k2 (News.isList ?k3 ?k6) ?k4 ?k5 ?_; (case k1 => k_asm); (case k2 => k_asm); (case k3 => k_asm); (case k6 => k_mem); (case k4 => (simp only [List.size_toArray]; k_extra "OM")); (case k5 => exact rfl); k_whole); intro _ _ _ _ zzl1; revert zzl1; intro _; (have _ := Mk9.mk); (try k_sweep)))
  k_with "tb_rel" => (first | (refine' TailIs.rebase ?tr1; (case tr1 => (with_reducible assumption))) | (refine' TailIs.at ?tr1 _; (case tr1 => (with_reducible assumption))) | (refine' TailIs.moveT ?tb1; (case tb1 => tb_rel)) | (refine' TailIs.cons ?tb1; (case tb1 => tb_rel)) | exact TailIs.nil)
  trivial
-- every old address stands in the ledger
theorem rows_C16_2 : True := by
  k_with "kcf_m" => (first
  | (refine' covC ?kc1 ?kc2; (case kc1 => k_mem); (case kc2 => kcf_m))
  | exact List.forall_mem_nil _
  | (intro zzq9 zzhq9; refine ⟨Prod.snd zzq9, ?_⟩; repeat (first | exact zzhq9 | (refine' TailIs.coverAt ?tc1 (Run.sub ?tc2) zzq9 zzhq9; (case tc1 => (with_reducible assumption)); (case tc2 => (with_reducible assumption))) | refine List.mem_cons_of_mem _ ?_)))
  trivial
-- what is made here is none of the old
theorem rows_C16_3 : True := by
  k_with "kcf_all" => ((intro zzq9 zzhq9 zzho9; repeat (first | exact zzho9 | refine List.forall_mem_cons.mpr ⟨tmp_ne (by (with_reducible assumption)) (by kcf_m) zzq9 zzhq9, ?_⟩)))
  k_with "tb_start" => ((
  (rename Grow _ _ _ _ => zzG9)
  (have zzgB9 := Grow.base zzG9)
  (repeat (rename Run _ _ (Grow.R zzG9) => zzR9; have _ := Run.step zzR9 zzG9 (by kcf_m) (by kcf_all); clear zzR9))
  (repeat (rename DatIn (Grow.R zzG9) _ _ => zzhX9; have _ := DatIn.mono zzgB9 zzhX9; clear zzhX9))
  (repeat (rename DatAll (Grow.R zzG9) _ _ => zzhX9; have _ := DatAll.mono zzgB9 zzhX9; clear zzhX9))
  (repeat (rename IntsAt (Grow.R zzG9) _ _ => zzhX9; have _ := IntsAt.mono zzhX9 zzgB9; clear zzhX9))
  (repeat (rename (_ ∈ Grow.R zzG9) => zzhX9; have _ := zzgB9 _ zzhX9; clear zzhX9))
  (repeat (rename OffL (Grow.R zzG9) _ => zzhX9; have _ := Grow.offL zzG9 zzhX9 ⟨_, by k_mem⟩ (by k_all); clear zzhX9))
  (have zzhS9 := Grow.sub zzG9; (first | refine fd_6 zzhS9 ?_ | refine fd_5 zzhS9 ?_ | refine fd_4 zzhS9 ?_ | refine fd_3 zzhS9 ?_ | refine fd_2 zzhS9 ?_ | refine fd_1 zzhS9 ?_ | refine fd_0 zzhS9 ?_); clear zzhS9)
  clear zzgB9 zzG9
  intros))
  k_with "kqd_in" => (first | (refine' DatIn.mono ?kd1 ?kd2; (case kd2 => first | (with_reducible assumption) | assumption); (case kd1 => (intro _ zzhp9; repeat (first | exact zzhp9 | (refine' TailIs.sub ?kd3 _ zzhp9; (case kd3 => first | (refine' TailIs.rebase ?tr1; (case tr1 => (with_reducible assumption))) | (refine' TailIs.at ?tr1 _; (case tr1 => (with_reducible assumption))))) | refine List.mem_cons_of_mem _ ?_)))) | fail "kqd_in")
  k_with "kqd_all" => (first | (refine' DatAll.mono ?kd1 ?kd2; (case kd2 => first | (with_reducible assumption) | assumption); (case kd1 => (intro _ zzhp9; repeat (first | exact zzhp9 | (refine' TailIs.sub ?kd3 _ zzhp9; (case kd3 => first | (refine' TailIs.rebase ?tr1; (case tr1 => (with_reducible assumption))) | (refine' TailIs.at ?tr1 _; (case tr1 => (with_reducible assumption))))) | refine List.mem_cons_of_mem _ ?_)))) | fail "kqd_all")
  k_with "compareOp Eq ref ref" => ((k_here; (with_reducible show wpAny _ _ (compareOp CmpOp.Eq (Value.ref _) (Value.ref _)) _ _ _); k_dflt (refine' dat_eq ?n9 ?da (fun _ h => h) ?db (fun _ h => h) ?oa ?ob ?u9 ?_; (case n9 => k_asm); (case da => kqd_in); (case db => kqd_in); (case oa => first | exact domD_ok _ | rfl | (with_reducible assumption)); (case ob => first | exact domD_ok _ | rfl | (with_reducible assumption)); (case u9 => ktr_units); intro _ _)))
  k_with "compareOp NotEq ref ref" => ((k_here; (with_reducible show wpAny _ _ (compareOp CmpOp.NotEq (Value.ref _) (Value.ref _)) _ _ _); k_dflt (refine' dat_ne ?n9 ?da (fun _ h => h) ?db (fun _ h => h) ?oa ?ob ?u9 ?_; (case n9 => k_asm); (case da => kqd_in); (case db => kqd_in); (case oa => first | exact domD_ok _ | rfl | (with_reducible assumption)); (case ob => first | exact domD_ok _ | rfl | (with_reducible assumption)); (case u9 => ktr_units); intro _ _)))
  k_with "call builtin:list.append" => ((k_here; (with_reducible show wpAny _ _ (call (Value.builtin _) [Value.ref _, _]) _ _ _); k_dflt (refine' append_L ?k1 ?k2 ?k3 ?z ?_; (case k1 => k_asm); (case k2 => k_asm); (case k3 => k_upd); (case z => first | k_extra "OM" | ((simp only [List.length_cons, List.length_nil, List.length_append]); k_extra "OM")); k_whole); intro _ _ _; (try k_sweep)))
  k_with "call builtin:min" => ((k_here; (with_reducible show wpAny _ _ (call (Value.builtin _) [Value.ref _]) _ _ _); k_dflt ((refine' min_L ?f9 ?n9 ?m9 ?i9 ?z9 ?h9 ?_; (case f9 => k_asm); (case n9 => k_asm); (case m9 => k_mem); (case i9 => (with_reducible assumption)); (case z9 => first | k_extra "OM" | (simp_all; k_extra "OM")); (case h9 => with_unfolding_all rfl)); intro _ _ _ _ _)))
  k_with "call builtin:max" => ((k_here; (with_reducible show wpAny _ _ (call (Value.builtin _) [Value.ref _]) _ _ _); k_dflt ((refine' max_L ?f9 ?n9 ?m9 ?i9 ?z9 ?h9 ?_; (case f9 => k_asm); (case n9 => k_asm); (case m9 => k_mem); (case i9 => (with_reducible assumption)); (case z9 => first | k_extra "OM" | (simp_all; k_extra "OM")); (case h9 => with_unfolding_all rfl)); intro _ _ _ _ _)))
  k_with "ktr_rel" => (((case n9 => k_asm); (case b9 => k_asm); (case f9 => k_asm); (case x9 => k_asm); (case t9 => k_asm); (case k9 => first | exact rfl | (with_reducible assumption)); (case d9 => ktr_room); (case u9 => ktr_units)))
  trivial
theorem rows_C16_4 : True := by
  k_with "kcf_m" => ((intro zzq9 zzhq9; refine ⟨Prod.snd zzq9, ?_⟩; (repeat (first | exact zzhq9 | exact List.mem_append_left _ zzhq9 | (refine' TailIs.coverAt ?tc1 (Run.sub ?tc2) zzq9 zzhq9; (case tc1 => (with_reducible assumption)); (case tc2 => (with_reducible assumption))) | refine List.mem_cons_of_mem _ ?_ | refine List.mem_append_right _ ?_)); done))
  k_with "call builtin:len" => ((k_here; (with_reducible show wpAny _ _ (call (Value.builtin "len") [Value.ref _]) _ _ _); k_dflt (refine' len_L ?n9 ?m9 ?z9 ?_; (case n9 => k_asm); (case m9 => k_mem); (case z9 => (first | k_extra "OM" | ((simp only [List.length_append, List.length_cons, List.length_nil]); k_extra "OM"))); k_whole)))
  k_with "exec Assign cons ListComp" => ((k_here; (with_reducible show wpAny _ _ (exec _ _) _ _ _); refine Stop.intro ?_))
  k_with "eval ListComp" => ((k_here; (with_reducible show wpAny _ _ (eval (Expr.ListComp _ _ _ _) _) _ _ _); refine Stop.intro ?_))
  k_with "CompSrcT" => ((k_here; refine Stop.intro ?_))
  k_with "CompSrc" => ((k_here; refine Stop.intro ?_))
  k_with "CompEnd" => ((refine Stop.intro ?_))
  k_with "kqd_sub" => (first | (refine List.forall_mem_cons.mpr ⟨?kqa, ?kqb⟩; (case kqa => k_mem); (case kqb => kqd_sub)) | (intro _ zzhq9; (repeat (first | exact zzhq9 | refine List.mem_cons_of_mem _ ?_)); done))
  trivial
-- what a comparison has answered
theorem rows_C16_5 : True := by
  k_with "ANSWER" => (((rename Bool => zzt9); (rename (zzt9 = true ↔ _) => zzht9); (first | (have zze9 := zzht9.mpr (by first | rfl | (with_reducible assumption)); subst zze9) | (have zze9 := bool_no zzht9 (by first | (with_reducible assumption) | (intro zzh9; exact zzh9 rfl) | (intro zzh9; exact zzh9 (by (with_reducible assumption)))); subst zze9) | skip)))
  k_with "compareOp Eq ref ref" => ((k_here; (with_reducible show wpAny _ _ (compareOp CmpOp.Eq (Value.ref _) (Value.ref _)) _ _ _); k_dflt (refine' dat_eq ?n9 ?da (fun _ h => h) ?db (fun _ h => h) ?oa ?ob ?u9 ?_; (case n9 => k_asm); (case da => kqd_in); (case db => kqd_in); (case oa => first | exact domD_ok _ | rfl | (with_reducible assumption)); (case ob => first | exact domD_ok _ | rfl | (with_reducible assumption)); (case u9 => ktr_units); intro _ _; walk_at "ANSWER")))
  k_with "compareOp NotEq ref ref" => ((k_here; (with_reducible show wpAny _ _ (compareOp CmpOp.NotEq (Value.ref _) (Value.ref _)) _ _ _); k_dflt (refine' dat_ne ?n9 ?da (fun _ h => h) ?db (fun _ h => h) ?oa ?ob ?u9 ?_; (case n9 => k_asm); (case da => kqd_in); (case db => kqd_in); (case oa => first | exact domD_ok _ | rfl | (with_reducible assumption)); (case ob => first | exact domD_ok _ | rfl | (with_reducible assumption)); (case u9 => ktr_units); intro _ _; walk_at "ANSWER")))
  k_with "compareOp NotEq ref ref" => ((k_here; (with_reducible show wpAny _ _ (compareOp CmpOp.NotEq (Value.ref _) (Value.ref _)) _ _ _); k_dflt (refine' ints_ne ?n9 ?a9 ?i9 ?b9 ?j9 ?u9 ?_; (case n9 => k_asm); (case a9 => k_mem); (case b9 => k_mem); (case i9 => first | (with_reducible assumption) | exact IntsAre.nil); (case j9 => first | (with_reducible assumption) | exact IntsAre.nil); (case u9 => ktr_units); intro _ _; walk_at "ANSWER")))
  k_with "compareOp Eq ref ref" => ((k_here; (with_reducible show wpAny _ _ (compareOp CmpOp.Eq (Value.ref _) (Value.ref _)) _ _ _); k_dflt (refine' ints_eq ?n9 ?a9 ?i9 ?b9 ?j9 ?u9 ?_; (case n9 => k_asm); (case a9 => k_mem); (case b9 => k_mem); (case i9 => first | (with_reducible assumption) | exact IntsAre.nil); (case j9 => first | (with_reducible assumption) | exact IntsAre.nil); (case u9 => ktr_units); intro _ _; walk_at "ANSWER")))
  k_with "TAILFOR" => (first | (refine' TailFor.rebase ?tf1; (case tf1 => (with_reducible assumption))) | (refine' TailFor.at ?tf1 _; (case tf1 => (with_reducible assumption))) | (refine' TailFor.moveT ?tl9; (case tl9 => walk_at "TAILFOR")) | (refine' TailFor.moveA ?tl9; (case tl9 => walk_at "TAILFOR")) | (refine' TailFor.cons ?tl9; (case tl9 => walk_at "TAILFOR")) | exact TailFor.nil | (refine' TailFor.pre ?tl9; (case tl9 => walk_at "TAILFOR")))
  k_with "call ref" => ((k_here; (with_reducible show wpAny _ _ (call (Value.ref 42) _) _ _ _); k_dflt (first | ((refine' Call.cps (fromValues_f ?ti ?m9 ?i9 ?ln ?as) t_gD ?b9 ?f9 ?x9 ?t9 ?k9 ?d9 ?u9 ?n9 ?_; ktr_rel; (case ti => walk_at "TAILFOR"); (case m9 => k_mem); (case i9 => (with_reducible assumption)); (case ln => first | k_extra "OM" | (with_reducible assumption)); (case as => (with_reducible assumption))); intro _ _ _ _ _ _ _ zzN9; (try dsimp only at zzN9); tb_start) | (fail_if_success skip) | refine Stop.intro ?_)))
  k_with "call ref" => ((k_here; (with_reducible show wpAny _ _ (call (Value.ref 283) _) _ _ _); k_dflt (first | ((refine' Call.cps (bars_c ?m9) t_bool ?b9 ?f9 ?x9 ?t9 ?k9 ?d9 ?u9 ?n9 ?_; ktr_rel; (case m9 => k_mem)); intro _ _ _ _ _ _) | refine Stop.intro ?_)))
  k_with "setItem ref int ref" => ((k_here; (with_reducible show wpAny _ _ (setItem (Value.ref _) (Value.int _ _) (Value.ref _)) _ _ _); k_dflt (refine' set_sel ?f9 ?n9 ?x9 ?u9 ?_; (case f9 => k_asm); (case n9 => k_asm); (case x9 => (with_reducible assumption)); (case u9 => k_upd); k_whole; intro _ _ _)))
  k_with "kcf_all" => ((intro zzq9 zzhq9 zzho9; repeat (first | exact zzho9 | refine List.forall_mem_cons.mpr ⟨tmp_ne (by (with_reducible assumption)) (by kcf_m) zzq9 zzhq9, ?_⟩ | refine List.forall_mem_cons.mpr ⟨tmp_off (by (with_reducible assumption)) (by kcf_m) zzq9 zzhq9, ?_⟩)))
  k_with "subscriptTail Attribute Name Name ref int" => ((k_here; (with_reducible show wpAny _ _ (subscriptTail _ _ (Value.ref _) (Value.int _ _)) _ _ _); k_dflt (refine' item_sel ?n9 ?m9 ?x9 ?_ ?s9; (case n9 => k_asm); (case x9 => (with_reducible assumption)); (case m9 => k_mem); (case s9 => with_unfolding_all rfl); k_whole)))
  k_with "subscriptTail Name Name ref int" => ((k_here; (with_reducible show wpAny _ _ (subscriptTail _ _ (Value.ref _) (Value.int _ _)) _ _ _); k_dflt (refine' item_sel ?n9 ?m9 ?x9 ?_ ?s9; (case n9 => k_asm); (case x9 => (with_reducible assumption)); (case m9 => k_mem); (case s9 => with_unfolding_all rfl); k_whole)))
  k_with "subscriptTail Attribute Name Constant ref int" => ((k_here; (with_reducible show wpAny _ _ (subscriptTail _ _ (Value.ref _) (Value.int (OfNat.ofNat _) _)) _ _ _); k_dflt (refine' item_tup ?n9 ?m9 ?x9 ?y9 ?z9 ?_ ?s9; (case n9 => k_asm); (case m9 => k_mem); (case x9 => rfl); (case y9 => decide); (case z9 => decide); (case s9 => with_unfolding_all rfl); k_whole)))
  k_with "subscriptTail Subscript Attribute Constant Constant ref int" => ((k_here; (with_reducible show wpAny _ _ (subscriptTail _ _ (Value.ref _) (Value.int (OfNat.ofNat _) _)) _ _ _); k_dflt (refine' item_tup ?n9 ?m9 ?x9 ?y9 ?z9 ?_ ?s9; (case n9 => k_asm); (case m9 => k_mem); (case x9 => rfl); (case y9 => decide); (case z9 => decide); (case s9 => with_unfolding_all rfl); k_whole)))
  k_with "subscriptTail Name Constant ref int" => ((k_here; (with_reducible show wpAny _ _ (subscriptTail _ _ (Value.ref _) (Value.int (OfNat.ofNat _) _)) _ _ _); k_dflt (refine' item_tup ?n9 ?m9 ?x9 ?y9 ?z9 ?_ ?s9; (case n9 => k_asm); (case m9 => k_mem); (case x9 => rfl); (case y9 => decide); (case z9 => decide); (case s9 => with_unfolding_all rfl); k_whole)))
  k_with "subscriptTail Name Constant ref int" => ((k_here; (with_reducible show wpAny _ _ (subscriptTail _ _ (Value.ref _) (Value.int 0 _)) _ _ _); k_dflt (refine' head_int ?n9 ?m9 ?i9 ?g9 ?_ ?s9; (case n9 => k_asm); (case m9 => k_mem); (case i9 => (with_reducible assumption)); (case g9 => (with_reducible assumption)); (case s9 => with_unfolding_all rfl); k_whole); intro _))
  k_with "subscriptTail Name UnaryOp ref int" => ((k_here; (with_reducible show wpAny _ _ (subscriptTail _ _ (Value.ref _) (Value.int _ _)) _ _ _); k_dflt (refine' last_int ?n9 ?m9 ?i9 ?g9 ?_ ?s9; (case n9 => k_asm); (case m9 => k_mem); (case i9 => (with_reducible assumption)); (case g9 => (with_reducible assumption)); (case s9 => with_unfolding_all rfl); k_whole); intro _))
  k_with "subscriptTail Name Slice ref ref" => ((k_here; (with_reducible show wpAny _ _ (subscriptTail _ (PySem.Expr.Slice _ _ none _) (Value.ref _) (Value.ref _)) _ _ _); k_dflt (refine' trail_from ?f9 ?n9 ?m9 ?h9 ?z9 ?_ ?s9 ?t9; (case f9 => k_asm); (case n9 => k_asm); (case m9 => k_mem); (case h9 => k_extra "OM"); (case z9 => k_extra "OM"); (case s9 => with_unfolding_all rfl); (case t9 => kmk_pure)); intro _ _ _ _ zzl1; revert zzl1; intro _; (have _ := Mk9.mk)))
  k_with "call type:list" => ((k_here; (with_reducible show wpAny _ _ (call (Value.type _) [Value.ref _]) _ _ _); k_dflt (refine' list_of ?f9 ?n9 ?m9 ?z9 ?_; (case f9 => k_asm); (case n9 => k_asm); (case m9 => k_mem); (case z9 => (first | k_extra "OM" | ((simp only [List.length_cons, List.length_nil]); k_extra "OM")))); intro _ _ _ _ _ zzo8'; ((first | refine fm_16 zzo8' ?_ | refine fm_15 zzo8' ?_ | refine fm_14 zzo8' ?_ | refine fm_13 zzo8' ?_ | refine fm_12 zzo8' ?_ | refine fm_11 zzo8' ?_ | refine fm_10 zzo8' ?_ | refine fm_9 zzo8' ?_ | refine fm_8 zzo8' ?_ | refine fm_7 zzo8' ?_ | refine fm_6 zzo8' ?_ | refine fm_5 zzo8' ?_ | refine fm_4 zzo8' ?_ | refine fm_3 zzo8' ?_); clear zzo8'; intros)))
  k_with "call ref" => ((k_here; (with_reducible show wpAny _ _ (call (Value.ref 28) _) _ _ _); refine Stop.intro ?_))
  k_with "call ref" => ((k_here; (with_reducible show wpAny _ _ (call (Value.ref 248) _) _ _ _); refine Stop.intro ?_))
  k_with "call ref" => ((k_here; (with_reducible show wpAny _ _ (call (Value.ref 293) _) _ _ _); refine Stop.intro ?_))
  k_with "call ref" => ((k_here; (with_reducible show wpAny _ _ (call (Value.ref 298) _) _ _ _); refine Stop.intro ?_))
  k_with "call ref" => ((k_here; (with_reducible show wpAny _ _ (call (Value.ref 276) _) _ _ _); k_dflt (first | ((refine' Call.cps (draw_c ?p1 ?ca ?ho ?hi ?m1 ?m2 ?k1 ?k2 ?ln) t_draw ?b9 ?f9 ?x9 ?t9 ?k9 ?d9 ?u9 ?n9 ?_; ktr_rel; (case p1 => k_updF); (case ho => (with_reducible assumption)); (case ca => k_mem); (case hi => (with_reducible assumption)); (case m1 => decide); (case m2 => decide); (case k1 => k_extra "OM"); (case k2 => k_extra "OM"); (case ln => k_extra "OM")); intro _ _ _ _ _ _ _ _ _ _) | refine Stop.intro ?_)))
  k_with "OFFS" => (((rename Off1 _ _ => o9'); have o8' := off1_ap o9'; clear o9'; (first | refine fm_16 o8' ?_ | refine fm_15 o8' ?_ | refine fm_14 o8' ?_ | refine fm_13 o8' ?_ | refine fm_12 o8' ?_ | refine fm_11 o8' ?_ | refine fm_10 o8' ?_ | refine fm_9 o8' ?_ | refine fm_8 o8' ?_ | refine fm_7 o8' ?_ | refine fm_6 o8' ?_ | refine fm_5 o8' ?_ | refine fm_4 o8' ?_ | refine fm_3 o8' ?_ | refine fm_2 o8' ?_ | refine fm_1 o8' ?_); clear o8'; intros))
  k_with "DX" => ((rw [← sel_ivs (by (with_reducible assumption))]; refine' datIn_sel ?dx1 ?dx2 ?dx3; (case dx1 => (with_reducible assumption)); (case dx2 => kqd_in); (case dx3 => kqd_in)))
  k_with "SEP" => (repeat' (first | (refine sepC ?_ ?_ ?_) | exact sepN | exact apN | (refine apC ?_ ?_) | (with_reducible assumption) | exact Apart.swap (by (with_reducible assumption)) | exact offG (by (with_reducible assumption)) (by (with_reducible assumption)) (by (with_reducible assumption)) | assumption))
  k_with "call builtin:min" => ((k_here; (with_reducible show wpAny _ _ (call (Value.builtin _) [Value.ref _]) _ _ _); k_dflt ((refine' min_L ?f9 ?n9 ?m9 ?i9 ?z9 ?h9 ?_; (case f9 => k_asm); (case n9 => k_asm); (case m9 => k_mem); (case i9 => (with_reducible assumption)); (case z9 => exact pos_ne (by (with_reducible assumption)) (by (with_reducible assumption))); (case h9 => with_unfolding_all rfl)); intro _ _ _ _ _)))
  k_with "call builtin:max" => ((k_here; (with_reducible show wpAny _ _ (call (Value.builtin _) [Value.ref _]) _ _ _); k_dflt ((refine' max_L ?f9 ?n9 ?m9 ?i9 ?z9 ?h9 ?_; (case f9 => k_asm); (case n9 => k_asm); (case m9 => k_mem); (case i9 => (with_reducible assumption)); (case z9 => exact pos_ne (by (with_reducible assumption)) (by (with_reducible assumption))); (case h9 => with_unfolding_all rfl)); intro _ _ _ _ _)))
  trivial
theorem asked_c0 {w : World} {K : Sk} {si sd dl fl tl ml nd fd ol kl ca cc a0 a1 l0 l1 f0 f1 : Addr} {no of : Obj} {sp : Int} {st : Tok} {n1 n2 nm nf no' nk nn : Nat} {tv mv kv vs : List Value} {cells : List Int} {k : Int} {tr : List Ent} {ms q0 q1 g0 g1 : List Int} {hs : List (List Int × List Int)} {others r0 rest : Led} {g : Led → Led}
  (TI : TailIs others r0 rest g) (hsi : (si, instObj 265 sd) ∈ rest) (hfl : (fl, listOf [Value.ref f0, .ref f1].toArray nf) ∈ rest) (Df0 : DatIn rest (.ref f0) (domD (ivs g0))) (Df1 : DatIn rest (.ref f1) (domD (ivs g1)))
  (S : StF w rest a0 a1 tv mv no l0 l1 tr ms q0 q1) (H : Hist g0 g1 tr ms hs q0 q1) (hlen : hs.length ≤ 20) (hkv : kv.length ≤ 20)
  (hca : (cc, listOf vs.toArray nn) ∈ rest) (ho : FeedO w of cc k) (hi : IntsAre vs cells) (hk1 : 0 ≤ k) (hk2 : k ≤ 900) (hln : cells.length ≤ 60)
  (ap : SepL [sd, dl, tl, nd, ml, fd, ol, kl] others) :
  Call w 12 303 [.ref fd, .ref si, .ref ol, .ref kl] ((sd, sdO w K dl fl tl ml nd sp st false ca) :: (dl, listOf [Value.ref a0, .ref a1].toArray n1) :: (tl, listOf tv.toArray n2) :: (nd, no) :: (ml, listOf mv.toArray nm) :: (fd, of) :: (ol, listOf [Value.ref l0, .ref l1].toArray no') :: (kl, listOf kv.toArray nk) :: others) (fun r nw => r = .bool true ∧ LapP w K sd dl fl tl ml nd fd ol kl cc sp st l0 l1 kv no' nk k tr ms hs q0 q1 g0 g1 ((sd, sdO w K dl fl tl ml nd sp st false ca) :: (dl, listOf [Value.ref a0, .ref a1].toArray n1) :: (tl, listOf tv.toArray n2) :: (nd, no) :: (ml, listOf mv.toArray nm) :: (fd, of) :: (ol, listOf [Value.ref l0, .ref l1].toArray no') :: (kl, listOf kv.toArray nk) :: others) r0 rest g nw) := by
  intro p loose mean mg mb dp un gd cn cs a ccd cl outer A₀ base h₀ L m s Q E B F X T hk hd hu N hret
  revert X; k_fill; intro X
  have R0 : Run ((sd, sdO w K dl fl tl ml nd sp st false ca) :: (dl, listOf [Value.ref a0, .ref a1].toArray n1) :: (tl, listOf tv.toArray n2) :: (nd, no) :: (ml, listOf mv.toArray nm) :: (fd, of) :: (ol, listOf [Value.ref l0, .ref l1].toArray no') :: (kl, listOf kv.toArray nk) :: others) rest rest := Run.refl
  refine sep_8 ap fun ap1 ap2 ap3 ap4 ap5 ap6 ap7 o1 bp1 bp2 bp3 bp4 bp5 bp6 o2 cp1 cp2 cp3 cp4 cp5 o3 dp1 dp2 dp3 dp4 o4 ep1 ep2 ep3 o5 fp1 fp2 o6 gp1 o7 o8 => ?_
  clear ap
  have q1' : OffL rest sd := fun p hp => o1 p (TI.sub p hp)
  have q2' : OffL rest dl := fun p hp => o2 p (TI.sub p hp)
  have q3' : OffL rest tl := fun p hp => o3 p (TI.sub p hp)
  have q4' : OffL rest nd := fun p hp => o4 p (TI.sub p hp)
  have q5' : OffL rest ml := fun p hp => o5 p (TI.sub p hp)
  have q6' : OffL rest fd := fun p hp => o6 p (TI.sub p hp)
  have q7' : OffL rest ol := fun p hp => o7 p (TI.sub p hp)
  have q8' : OffL rest kl := fun p hp => o8 p (TI.sub p hp)
  obtain ⟨D0, D1, Dt, hno, im, i0, i1⟩ := S
  refine el_0_9 H.facts fun z1 z2 z3 G0 G1 z4 z5 z6 z7 => ?_
  have htv : tv.length = tr.length := by have := Dt.length; simpa using this
  have hmv : mv.length = ms.length := im.length
  have he0 := H.base.1.ivs
  have he1 := H.base.2.ivs
  have hdl0 : (ivs q0).length ≤ 900 := Nat.le_trans (ivs_len _) (by have := G0.len; k_extra "OM")
  have hdl1 : (ivs q1).length ≤ 900 := Nat.le_trans (ivs_len _) (by have := G1.len; k_extra "OM")
  w_strict (
    refine wpAny_call ?_
    k_dflt k_enter
    k_steps
    unfold Stop
    rename_i L9 _ _ _ _ _ _ _ hLL _ oN oF d1 d2 _ _ _ _ x _ o9 hx0 hx2 ho9 _
    have oA := off_2 (l := others) (fun p hp => hLL p (by repeat (first | exact hp | refine List.mem_cons_of_mem _ ?_)))
    have oB := off_1 (l := others) (fun p hp => hLL p (by repeat (first | exact hp | refine List.mem_cons_of_mem _ ?_)))
    have hx := two_of hx0 hx2
    refine el_2_2 (intsAt_sel hx i0 i1) fun hv nh hlh hh => ?_
    have hq := good_sel hx G0 G1
    have hql := hq.len
    k_dflt (refine ListComp_U (F₀ := by k_asm) (by with_unfolding_all rfl) (by decide) (by rfl) (by decide) (by rfl) ?_)
    k_steps
    unfold Stop
    (rename Fr _ _ _ _ => F1; rename News _ _ _ _ => N1; rename IsRange _ _ _ _ _ _ _ _ => R1; rename (_ < 4) => hi4; rename (0 ≤ _) => lo4; rename Int => m9; rename FeedO _ _ _ (k + 1 + 1) => ho2)
    have d2' : oF.data = .cell (some (.ref fd)) := d2
    clear d2
    refine CompSrc.range rfl F1 N1 R1 (small_one (by k_extra "OM") (by k_extra "OM") (by k_extra "OM") (by k_extra "OM")) (rangeSize_nat _ _) (by rw [sizeLine_eq]; k_extra "OM") fun g8 => rest_inv (fun i ys nw => ∃ o2 ns, nw = (fd, o2) :: _ ∧ FeedO w o2 cc (k + 2 + i) ∧ IntsAre ys ns ∧ ns.length = i ∧ ∀ v ∈ ns, -2 ≤ v ∧ v < 10) ⟨_, [], rfl, by simpa [Int.add_assoc] using ho2, .nil, rfl, by simp⟩ ?_ ?_
    · clear F1 N1 R1 ho2
      rintro i v ys nw I oI C oC D m₂ h tk E' hi8 ⟨tv, rfl⟩ ⟨o2, ns, rfl, ho2, hys, hnl, hlt⟩ hC hx F2 N2 off ne
      obtain ⟨a1, a2, a3⟩ : (@Ne Nat fd I) ∧ (@Ne Nat fd C) ∧ (@Ne Nat fd D) := off _ (.head _)
      k_steps
      unfold Stop
      (rename Fr _ _ _ _ => F9; rename News _ _ _ _ => N9; rename FeedO _ _ _ _ => ho9)
      refine CompEnd.intro F9 N9 ((fd, _) :: _) (by kqd_sub) ⟨⟨a1, a2, a3⟩, Off3.of fun p hp => off p (.tail _ hp)⟩ trivial ⟨_, ns ++ [_], rfl, by rw [show k + 2 + ((i + 1 : Nat) : Int) = k + 2 + i + 1 by k_extra "OM"]; exact ho9, IntsAre.append hys (.cons _ _ .nil), by simp [hnl], ?_⟩
      intro v hv
      rcases List.mem_append.mp hv with hv | hv
      · exact hlt v hv
      · rw [List.mem_singleton.mp hv]; k_extra "OM"
    · rintro ys nw ⟨o2, ns, rfl, ho2, hys, hnl, hlt⟩
      clear F1 N1 R1
      unfold FinE
      intro D h tk F2 N2 o2'
      walk_at "OFFS"
      dsimp only
      k_steps
      unfold Stop
      have hnl3 : ns.length ≤ 3 := by k_extra "OM"
      k_dflt (refine LCt.Assign_ListComp_T (F₀ := by k_asm) (by rfl) (by with_unfolding_all rfl) (by with_unfolding_all rfl) (by decide) (by rfl) (by decide) (by rfl) (by rfl) (by rfl) ?_)
      k_steps
      unfold Stop
      (rename Fr _ _ _ _ => F1; rename News _ _ _ _ => N1)
      refine LCt.CompSrcT.ledger rfl F1 N1 (by k_mem) (by rw [List.size_toArray, hh.length, sizeLine_eq]; k_extra "OM") fun g8 => filtT (fun v => decide (ns ≠ [] ∧ minI ns ≤ v ∧ v ≤ maxI ns)) hh (.inr ⟨_, by k_mem, rfl, _, rfl⟩) ?_ ?_
      · clear F1 N1
        intro k t ys I oI C oC D m₂ h tk E' hkq hC hx' F2 N2 off ne
        k_steps
        all_goals (rename Fr _ _ _ _ => F9; rename News _ _ _ _ => N9)
        all_goals exact FiltEnd.intro (by first | exact flt_y (by assumption) (by assumption) (by assumption) (by assumption) | exact flt_l (by assumption) | exact flt_g (by assumption) | exact flt_n (by assumption) (by assumption)) F9 N9 (by kqd_sub)
      · rw [keptA_filter]
        intro ks hks
        clear F1 N1
        unfold FinA
        intro Dk h tk F2 N2 ok
        rename_i oM dM _ D2 _ _ _ _ _ _ _
        walk_at "OFFS"
        dsimp only
        have hZ9 := freeze (l0 := (sd, sdO w K dl fl tl ml nd sp st false ca) :: (dl, listOf [Value.ref a0, .ref a1].toArray n1) :: (tl, listOf tv.toArray n2) :: (nd, no) :: (ml, listOf mv.toArray nm) :: (fd, o2) :: (ol, listOf [Value.ref l0, .ref l1].toArray no') :: (kl, listOf kv.toArray nk) :: (L9 + 1 + 1, oM) :: (L9 + 1, oF) :: others) [(Dk, lst ks), (D, lst ys)] (.cons (.cons (.cons (.cons (.cons (.cons (.cons (.cons (.cons (.cons (.rebase TI))))))))))) N2
        refine el_1_3 (hZ9 (by kqd_sub) (by kqd_sub) (List.forall_mem_cons.mpr ⟨by k_all, List.forall_mem_cons.mpr ⟨by k_all, List.forall_mem_nil _⟩⟩)) fun r1 hr1 N3 G9 => ?_
        clear hZ9
        (try dsimp only at N3)
        have mA : (Dk, listOf ks.toArray _) ∈ r1 := hr1 _ (.head _)
        have mB : (D, listOf ys.toArray _) ∈ r1 := hr1 _ (.tail _ (.head _))
        clear hr1
        clear N2
        tb_start
        rcases Classical.em (keptA ns (sel x q0 q1) = []) with hk0 | hk0
        · rw [hk0] at hks
          refine el_3_5 (betw_fail (x := x) (sp := sp) (tr := tr) hq hk0) fun dxq tre cl eb hok htr1 htx hund => ?_
          k_steps
          unfold Stop
          k_dflt (refine' Call.cps (between_cF ?p1 ?p2 ?p3 ?p4 ?ti ?si ?d0 ?d1 ?dt ?hx ?l0 ?l1 ?tv ?no ?ln ?i ?ns ?eb ?e0 ?e1) t_8_6 ?b9 ?f9 ?x9 ?t9 ?k9 ?d9 ?u9 ?n9 ?_; ktr_rel; (case p1 => k_updF); (case p2 => k_updF); (case p3 => k_updF); (case p4 => k_updF); (case ti => walk_at "TAILFOR"); (case si => k_mem); (case ln => k_mem); (case d0 => kqd_in); (case d1 => kqd_in); (case dt => kqd_all); (case hx => assumption); (case l0 => assumption); (case l1 => assumption); (case tv => k_extra "OM"); (case no => assumption); (case i => assumption); (case ns => k_extra "OM"); (case eb => (rw [sel_ivs hx]; exact eb)); (case e0 => exact rfl); (case e1 => exact rfl))
          intro h9 tk9 F9 ca' a0' a1' tv' m1' m2' nz rest9 G9 Hn D0' D1' Dt' Dc N9
          have Dx9 := datIn_sel hx D0' D1'
          have htx2 : ∀ e ∈ tr ++ tre, e.x = 0 ∨ e.x = 1 := fun e he => (List.mem_append.mp he).elim (z3 e) fun h => by rw [htx e h]; exact hx
          obtain ⟨un0, un1⟩ := undo_sel hx htx hund
          rw [sel_mid hx] at Dx9
          (try dsimp only at N9)
          tb_start
          k_steps
          unfold Stop
          k_dflt (refine' Call.cps (clash_c ?p1 ?p2 ?ti ?si ?dx ?dc ?ln ?i ?lh ?hh ?hq ?nb ?nl ?hx ?ok) t_1_1 ?b9 ?f9 ?x9 ?t9 ?k9 ?d9 ?u9 ?n9 ?_; ktr_rel; (case p1 => k_updF); (case p2 => k_updF); (case ti => tb_rel); (case si => k_mem); (case dx => kqd_in); (case dc => kqd_in); (case ln => k_mem); (case i => assumption); (case lh => k_mem); (case hh => assumption); (case hq => assumption); (case nb => assumption); (case nl => assumption); (case hx => assumption); (case ok => assumption))
          intro h9 tk9 F9 rest8 G9 N9
          (try dsimp only at N9)
          tb_start
          k_steps
          unfold Stop
          k_dflt (refine' Call.cps (pop_cE (n := 1) (mk := tr.length) (ms := ms ++ [(tv.length : Int)]) ?p1 ?p2 ?p3 ?p4 ?ti ?si ?d0 ?d1 ?dt ?htx ?fl ?f0 ?f1 ?e0 ?e1 ?hm ?hml ?htl ?hn1 ?hn2 ?hmk ?hmt ?e2 ?e3 ?e4) t_11_9 ?b9 ?f9 ?x9 ?t9 ?k9 ?d9 ?u9 ?n9 ?_; ktr_rel; (case p1 => k_updF); (case p2 => k_updF); (case p3 => k_updF); (case p4 => k_updF); (case ti => tb_rel); (case si => k_mem); (case d0 => kqd_in); (case d1 => kqd_in); (case dt => kqd_all); (case htx => exact htx2); (case fl => k_mem); (case f0 => kqd_in); (case f1 => kqd_in); (case e0 => assumption); (case e1 => assumption); (case hm => exact IntsAre.append im (.cons _ _ .nil)); (case hml => (rw [List.length_append, List.length_singleton]; k_extra "OM")); (case htl => (rw [List.length_append]; k_extra "OM")); (case hn1 => exact Nat.le_refl _); (case hn2 => (rw [List.length_append, List.length_singleton]; k_extra "OM")); (case hmk => (rw [List.length_append, List.length_singleton, Nat.add_sub_cancel, List.getElem?_concat_length, htv])); (case hmt => (rw [List.length_append]; k_extra "OM")); (case e2 => exact undo_dl un0); (case e3 => exact undo_dl un1); (case e4 => exact take_pop))
          intro h9 tk9 F9 ca2 b0 b1 k1 k2 k3 ml2 nd2 no2 mv2 rest7 G9 Hn2 Im2 E0 E1 fr om1 om2 om3 N9
          have cv : ∀ q ∈ others, q ∈ g rest8 := TailIs.coverAt TI (Run.sub (by assumption))
          have om4 : OffL others ml2 := fun q hq => (fr q (by have hz := cv q hq; repeat (first | exact hz | refine List.mem_cons_of_mem _ ?_))).1
          have om5 : OffL others nd2 := fun q hq => (fr q (by have hz := cv q hq; repeat (first | exact hz | refine List.mem_cons_of_mem _ ?_))).2
          have fr1 := fun q hq => (fr q hq).1
          have fr2 := fun q hq => (fr q hq).2
          clear fr cv
          (first | refine fm_13 fr1 ?_ | refine fm_12 fr1 ?_ | refine fm_11 fr1 ?_ | refine fm_10 fr1 ?_ | refine fm_9 fr1 ?_ | refine fm_8 fr1 ?_); clear fr1; intros
          (first | refine fm_13 fr2 ?_ | refine fm_12 fr2 ?_ | refine fm_11 fr2 ?_ | refine fm_10 fr2 ?_ | refine fm_9 fr2 ?_ | refine fm_8 fr2 ?_); clear fr2; intros
          (try dsimp only at N9)
          tb_start
          k_steps
          (rename Fr _ _ _ _ => F9; rename News _ _ _ _ => N9; rename Run _ _ _ => R9)
          have Dtk := datAll_take tr.length (show DatAll rest7 tv' ((tr ++ tre).map entD) by assumption)
          rw [List.map_append, List.take_left' (by simp)] at Dtk
          refine hret _ _ _ _ F9 (fun p hp => N9 p ((show ∀ q ∈ (sd, sdO w K dl fl tl ml2 nd2 sp st false ca2) :: (dl, listOf [Value.ref b0, .ref b1].toArray k1) :: (tl, listOf (tv'.take tr.length).toArray k2) :: (nd2, no2) :: (ml2, listOf mv2.toArray k3) :: (fd, o2) :: (ol, listOf [Value.ref l0, .ref l1].toArray no') :: (kl, listOf kv.toArray nk) :: g rest7, q ∈ _ by kqd_sub) p hp)) ⟨rfl, .stay ca2 _ o2 b0 b1 k1 k2 k3 (tv'.take tr.length) mv2 ml2 nd2 no2 rest7 ho2 (by k_extra "OM") (by k_extra "OM") (Run.grow TI.base R9) ⟨by assumption, by assumption, Dtk, by assumption, by assumption, by assumption, by assumption⟩ (by walk_at "SEP")⟩
        · refine el_0_3 (keptA_ne hk0) fun hz hk1 ek => ?_
          rw [ek] at hks
          clear hk0 ek
          have hk0 := hk1
          have hkg := keptL_good hq hk0
          obtain ⟨bok, bdx, tre, btr, lev⟩ := betw_ok (x := x) (sp := sp) (tr := tr) hq hz hk0
          have i0' : IntsAt r1 (sel x Dk l0) (sel x (keptL ns (sel x q0 q1)) q0) := intsAt_sel hx ⟨_, _, mA, hks⟩ (by assumption)
          have i1' : IntsAt r1 (sel x l1 Dk) (sel x q1 (keptL ns (sel x q0 q1))) := intsAt_sel hx (by assumption) ⟨_, _, mA, hks⟩
          have hcl : tre.length ≤ 2 := by rw [lev.len]; exact cuts_le
          obtain ⟨un0, un1⟩ := undo_sel hx (fun e he => (lev.is e he).1) lev.back
          rw [sel_ivs hx] at un0 un1
          k_steps
          unfold Stop
          k_dflt (refine' Call.cps (between_cT ?p1 ?p2 ?p3 ?p4 ?ti ?si ?d0 ?d1 ?dt ?hx ?l0 ?l1 ?tv ?no ?ln ?i ?ns ?eb ?e0 ?e1) t_7_5 ?b9 ?f9 ?x9 ?t9 ?k9 ?d9 ?u9 ?n9 ?_; ktr_rel; (case p1 => k_updF); (case p2 => k_updF); (case p3 => k_updF); (case p4 => k_updF); (case ti => walk_at "TAILFOR"); (case si => k_mem); (case ln => k_mem); (case d0 => kqd_in); (case d1 => kqd_in); (case dt => kqd_all); (case hx => assumption); (case l0 => assumption); (case l1 => assumption); (case tv => k_extra "OM"); (case no => assumption); (case i => assumption); (case ns => k_extra "OM"); (case eb => (rw [sel_ivs hx]; exact br_eq bok bdx btr)); (case e0 => exact rfl); (case e1 => exact rfl))
          intro h9 tk9 F9 a0' a1' tv' m1' m2' nz rest9 G9 Hn D0' D1' Dt' N9
          (try dsimp only at N9)
          tb_start
          k_steps
          unfold Stop
          (rename ∀ q ∈ g rest9, Apart q.1 _ => o8)
          have oD : OffL rest9 _ := fun q hq => o8 q (TailIs.sub (TailIs.at TI rest9) q hq)
          have oE : OffL others _ := fun q hq => o8 q (TailIs.coverAt TI (Run.sub (by assumption)) q hq)
          clear o8
          have es : sel x (ivs (sel x (keptL ns (sel x q0 q1)) q0)) (ivs (sel x q1 (keptL ns (sel x q0 q1)))) = ivs (keptL ns (sel x q0 q1)) := by rw [sel_ivs hx, sel_mid hx]
          have gg0 : Good (sel x (keptL ns (sel x q0 q1)) q0) := good_sel hx hkg G0
          have gg1 : Good (sel x q1 (keptL ns (sel x q0 q1))) := good_sel hx G1 hkg
          k_dflt (refine' Call.cps (stand_cP (d0 := ivs (sel x (keptL ns (sel x q0 q1)) q0)) (d1 := ivs (sel x q1 (keptL ns (sel x q0 q1)))) (tr0 := tr) (tre := tre) ?p1 ?p2 ?p3 ?p4 ?ti ?si ?d0 ?d1 ?l0 ?l1 ?dt ?tv ?no ?hx ?es ?ln ?i ?lh ?hh ?hq ?lk ?hk ?hkq ?nz ?nb ?nl ?cut ?is ?bf) t_7_5 ?b9 ?f9 ?x9 ?t9 ?k9 ?d9 ?u9 ?n9 ?_; ktr_rel; (case p1 => k_updF); (case p2 => k_updF); (case p3 => k_updF); (case p4 => k_updF); (case ti => tb_rel); (case si => k_mem); (case d0 => rw [← sel_ivs hx]; kqd_in); (case d1 => rw [← sel_ivs hx]; kqd_in); (case l0 => exact Nat.le_trans (ivs_len _) (by have := gg0.len; k_extra "OM")); (case l1 => exact Nat.le_trans (ivs_len _) (by have := gg1.len; k_extra "OM")); (case dt => kqd_all); (case tv => (rw [List.length_append]; k_extra "OM")); (case no => assumption); (case hx => assumption); (case es => exact es); (case ln => k_mem); (case i => assumption); (case lh => k_mem); (case hh => assumption); (case hq => assumption); (case lk => k_mem); (case hk => assumption); (case hkq => assumption); (case nz => assumption); (case nb => assumption); (case nl => assumption); (case cut => exact lev.len); (case is => exact lev.is); (case bf => k_extra "OM"))
          intro h9 tk9 F9 b0 b1 tv2 k1 k2 no2 rest8 G9 Hn2 E0 E1 Et N9
          (try dsimp only at N9)
          tb_start
          k_steps
          (rename Fr _ _ _ _ => F9; rename News _ _ _ _ => N9; rename Run _ _ _ => R9)
          have H9 : Hist g0 g1 (tr ++ tre) (ms ++ [(tr.length : Int)]) (hs ++ [(q0, q1)]) (sel x (keptL ns (sel x q0 q1)) q0) (sel x q1 (keptL ns (sel x q0 q1))) := .push H un0 un1 (fun e he => by rw [(lev.is e he).1]; exact hx) hcl gg0 gg1
          have N8 : News _ _ _ ((sd, _) :: (dl, _) :: (tl, _) :: (nd, _) :: (ml, _) :: (fd, _) :: (ol, _) :: (kl, _) :: (_, listOf [Value.ref l0, .ref l1].toArray _) :: g rest8) := List.forall_mem_cons.mpr ⟨N9 _ (by k_mem), List.forall_mem_cons.mpr ⟨N9 _ (by k_mem), List.forall_mem_cons.mpr ⟨N9 _ (by k_mem), List.forall_mem_cons.mpr ⟨N9 _ (by k_mem), List.forall_mem_cons.mpr ⟨N9 _ (by k_mem), List.forall_mem_cons.mpr ⟨N9 _ (by k_mem), List.forall_mem_cons.mpr ⟨N9 _ (by k_mem), List.forall_mem_cons.mpr ⟨N9 _ (by k_mem), List.forall_mem_cons.mpr ⟨N9 _ (by k_mem), fun p hp => N9 p (by repeat (first | exact hp | refine List.mem_cons_of_mem _ ?_))⟩⟩⟩⟩⟩⟩⟩⟩⟩
          refine hret _ _ _ _ F9 N8 ⟨rfl, .more _ _ o2 b0 b1 k1 k2 _ tv2 _ no2 _ _ _ _ _ _ (tr ++ tre) _ _ rest8 ho2 (by k_extra "OM") (by k_extra "OM") (Run.grow TI.base R9) ⟨by assumption, by assumption, by assumption, by assumption, IntsAre.append im (by rw [← htv]; exact .cons _ _ .nil), by assumption, by assumption⟩ (by assumption) (by assumption) H9 (by walk_at "SEP")⟩)
theorem rows_C17_0 : True := by
  k_with_none
  w_top off
  trivial
def sgOf (k : Int) : Sg := if k = 0 then .le else if k = 1 then .ge else .ne
theorem item_sg {prog : Program} {w : World} {A : Around} {E : Value → Shared → Prop} {s : Shared} {h₀ : Heap} {L D : Addr} {news : Led} {value slice : PySem.Expr} {t₁ t₂ t₃ : Tok} {k : Int} {u : Tok} {n : Nat} {Q : Value → Shared → Prop} (N : News h₀ L s.heap news)
    (hm : (D, tupO [.str (Str.ofString "<=") t₁, .str (Str.ofString ">=") t₂, .str (Str.ofString "!=") t₃] n) ∈ news) (h0 : 0 ≤ k) (hz : k < 3) (h : ∀ t, Q (.str (sgOf k).str t) s)
    (hs : subscripted slice false (.ref D) (.int k u) = operate [.ref D, .int k u] (getItem (.ref D) (.int k u)) := by with_unfolding_all rfl) :
    wpAny (model prog w) A (subscriptTail value slice (.ref D) (.int k u)) Q E s := by
  have e : k = 0 ∨ k = 1 ∨ k = 2 := by omega
  rcases e with rfl | rfl | rfl
  · exact item_tup N hm rfl h0 (by decide) (h t₁) hs
  · exact item_tup N hm rfl h0 (by decide) (h t₂) hs
  · exact item_tup N hm rfl h0 (by decide) (h t₃) hs
theorem off_3 {l : Led} {T : Addr} (h : ∀ p ∈ l, p.1 < T) : OffL l (T + 1 + 1 + 1) := fun p hp => Nat.ne_of_lt (Nat.lt_succ_of_lt (Nat.lt_succ_of_lt (Nat.lt_succ_of_lt (h p hp))))
theorem keep_filter {sg : Sg} {k : Int} {q : List Int} : q.filter (fun v => !barsB sg k v) = keepL sg k q := rfl
theorem rows_C17_1 : True := by
  k_with "LT9" => (first | (with_reducible assumption) | (refine' ltM ?lt1 ?lt2; (case lt1 => (with_reducible assumption)); (case lt2 => (repeat (first | exact List.Mem.head _ | refine List.Mem.tail _ ?_)); done)) | (refine' ltT ?lt0 ?lt1 ?lt2; (case lt0 => (with_reducible assumption)); (case lt1 => (with_reducible assumption)); (case lt2 => (repeat (first | exact List.Mem.head _ | refine List.Mem.tail _ ?_)); done)) | fail "LT9")
  k_with "k_ne" => (first | (with_reducible assumption) | (refine' Ne.symm ?ne1; (case ne1 => (with_reducible assumption))) | (refine neG ?_; walk_at "LT9") | (refine neL ?_; walk_at "LT9") | (refine neS ?_; walk_at "LT9") | (refine neT ?_; walk_at "LT9") | (refine neS2 ?_; walk_at "LT9") | (refine neT2 ?_; walk_at "LT9") | (refine neS3 ?_; walk_at "LT9") | (refine neT3 ?_; walk_at "LT9") | (refine' neM (l := _ :: _) ?lt1 ?lt2; (case lt1 => (with_reducible assumption)); (case lt2 => (repeat (first | exact List.Mem.head _ | refine List.Mem.tail _ ?_)); done)) | (refine' neN (l := _ :: _) ?lt1 ?lt2; (case lt1 => (with_reducible assumption)); (case lt2 => (repeat (first | exact List.Mem.head _ | refine List.Mem.tail _ ?_)); done)) | exact nc12 | exact nc21 | exact nc13 | exact nc31 | exact nc23 | exact nc32 | fail "k_ne")
  k_with "ktr_room" => (first | (rename (_ + _ < recursionLimit) => zzh9; first | exact rmU 0 zzh9 rfl rfl | exact rmU 1 zzh9 rfl rfl | exact rmU 2 zzh9 rfl rfl | exact rmU 3 zzh9 rfl rfl | exact rmU 4 zzh9 rfl rfl | exact rmU 5 zzh9 rfl rfl | exact rmU 6 zzh9 rfl rfl | exact rmU 7 zzh9 rfl rfl | exact rmU 8 zzh9 rfl rfl | exact rmU 9 zzh9 rfl rfl) | exact ltB rfl)
  k_with "ktr_units" => (first | (rename (_ + _ + _ < cLine) => zzh9; first | exact umU 0 zzh9 rfl rfl | exact umU 3 zzh9 rfl rfl | exact umU 6 zzh9 rfl rfl | exact umU 9 zzh9 rfl rfl | exact umU 12 zzh9 rfl rfl | exact umU 1 zzh9 rfl rfl | exact umU 4 zzh9 rfl rfl | exact umU 7 zzh9 rfl rfl | exact umU 10 zzh9 rfl rfl | exact umU 2 zzh9 rfl rfl | exact umU 5 zzh9 rfl rfl | exact umU 8 zzh9 rfl rfl | exact umU 11 zzh9 rfl rfl | exact umU 13 zzh9 rfl rfl | exact umU 14 zzh9 rfl rfl | exact umU 15 zzh9 rfl rfl | exact umV 0 zzh9 rfl rfl | exact umV 3 zzh9 rfl rfl | exact umV 6 zzh9 rfl rfl | exact umV 9 zzh9 rfl rfl | exact umV 12 zzh9 rfl rfl | exact umV 1 zzh9 rfl rfl | exact umV 4 zzh9 rfl rfl | exact umV 7 zzh9 rfl rfl | exact umV 10 zzh9 rfl rfl | exact umV 2 zzh9 rfl rfl | exact umV 5 zzh9 rfl rfl | exact umV 8 zzh9 rfl rfl | exact umV 11 zzh9 rfl rfl | exact umV 13 zzh9 rfl rfl | exact umV 14 zzh9 rfl rfl | exact umV 15 zzh9 rfl rfl) | exact ltB rfl)
  k_with "OM" => (first | (with_reducible assumption) | exact Nat.zero_le _ | (refine' leB ?om1 ?om2; (case om1 => (with_reducible assumption)); (case om2 => (fail_if_success (fail_if_success decide)); exact rfl)) | (refine' leS ?om1 ?om2; (case om1 => (with_reducible assumption)); (case om2 => (fail_if_success (fail_if_success decide)); exact rfl)) | (with_reducible refine' ltL ?om1 ?om2; (case om1 => (with_reducible assumption)); (case om2 => (fail_if_success (fail_if_success decide)); exact rfl)) | ((fail_if_success (fail_if_success decide)); exact ltB rfl) | (refine' i0_1 ?om1; (case om1 => (with_reducible assumption))) | (refine' i0_2 ?om1; (case om1 => (with_reducible assumption))) | (refine' i0_3 ?om1; (case om1 => (with_reducible assumption))) | (refine' il_0 ?om1 ?om2; (case om1 => (with_reducible assumption)); (case om2 => decide)) | (refine' il_1 ?om1 ?om2; (case om1 => (with_reducible assumption)); (case om2 => decide)) | (refine' il_2 ?om1 ?om2; (case om1 => (with_reducible assumption)); (case om2 => decide)) | (refine' il_3 ?om1 ?om2; (case om1 => (with_reducible assumption)); (case om2 => decide)) | exact ia_3 | exact ia_5 | exact ic_0 | decide | omega)
  k_with "k_all" => (first
  | (with_reducible assumption)
  | (refine' OffL.out ?ko1; (case ko1 => (with_reducible assumption)))
  | (refine' offA ?ko1; (case ko1 => (with_reducible assumption)))
  | (refine' TailIs.offAtL ?ko1 ?ko2 ?ko3; (case ko1 => (with_reducible assumption)); (case ko2 => (with_reducible assumption)); (case ko3 => (with_reducible assumption)))
  | (refine' offC ?ka1 ?ka2; (case ka1 => first | (refine' Apart.l ?kp1; (case kp1 => (with_reducible assumption))) | (refine' Apart.r ?kp1; (case kp1 => (with_reducible assumption))) | k_ne); (case ka2 => k_all))
  | assumption)
  k_with "k_upd" => (first | (refine' Upd.head ?ku1; (case ku1 => k_all)) | (refine' Upd.tail ?ku1 ?ku2; (case ku1 => first | (refine' Apart.l ?kp1; (case kp1 => (with_reducible assumption))) | (refine' Apart.r ?kp1; (case kp1 => (with_reducible assumption))) | k_ne); (case ku2 => k_upd)) | fail "k_upd")
  k_with "k_updF" => (first | (refine' Pull.head ?kf1; (case kf1 => k_all)) | (refine' Pull.tail ?_ ?kf2; (case kf2 => k_updF); (first | (refine' Apart.l ?kp1; (case kp1 => (with_reducible assumption))) | (refine' Apart.r ?kp1; (case kp1 => (with_reducible assumption))) | k_ne)) | (refine' UpdF.head ?kf1; (case kf1 => k_all)) | (refine' UpdF.tail ?_ ?kf2; (case kf2 => k_updF); (first | (refine' Apart.l ?kp1; (case kp1 => (with_reducible assumption))) | (refine' Apart.r ?kp1; (case kp1 => (with_reducible assumption))) | k_ne)) | fail "k_updF")
  k_with "k_mem" => (first | (refine mem_of ?_; (with_reducible assumption)) | (refine mem_of ?_; refine' TailIs.sub ?km1 _ ?km2; (case km1 => first | (refine' TailIs.rebase ?tr1; (case tr1 => (with_reducible assumption))) | (refine' TailIs.at ?tr1 _; (case tr1 => (with_reducible assumption)))); (case km2 => (with_reducible assumption))) | fail "k_mem")
  k_with "call builtin:len" => ((k_here; (with_reducible show wpAny _ _ (call (Value.builtin "len") [Value.ref _]) _ _ _); k_dflt (refine' len_ints_fit (News.isList ?n ?m) ?i ?f ?_; (case n => k_asm); (case m => k_mem); (case i => (with_reducible assumption)); (case f => k_extra "OM"); k_whole)))
  k_with "subscriptTail Name Name ref int" => ((k_here; (with_reducible show wpAny _ _ (subscriptTail _ _ (Value.ref _) (Value.int _ _)) _ _ _); (with_unfolding_all refine' item_list_ints (News.isList ?n ?m) ?k2 ?k3 ?k4 ?k5 ?_; (case n => k_asm); (case m => k_mem); (case k2 => (with_reducible assumption)); (case k3 => k_extra "OM"); (case k4 => k_extra "OM"); (case k5 => k_extra "OM"); k_whole); intro _))
  k_with "k_enter" => (first
  | (refine' code_def ?k1 ?k2 ?k3 ?k4 ?k5 ?kA ?kF ?kK ?k6 ?k7 ?k8 ?k9 ?kB ?_ ?c2 ?c3 ?c4 ?c5; (case kA => exact rfl); (case kF => exact rfl); (case kK => first | exact rfl | (with_reducible assumption)); (case k1 => k_asm); (case k2 => k_asm); (case k3 => k_asm); (case k4 => k_asm); (case k5 => k_asm); (case k6 => k_is); (case k7 => k_is); (case k8 => ktr_room); (case k9 => first | exact BindsTo.of_eq rfl | exact binds_K (by k_in) rfl (by k_is) rfl rfl rfl | fail "k_enter: no rule for these arguments"); (case c5 => decide); (case kB => exact locs rfl); (case c2 => exact rfl); (case c3 => exact rfl); (case c4 => exact rfl); k_whole; intro _ _ _ _ _ zzN' _ _ _; (try dsimp only); (try k_fold))
  | (refine' code_defC ?k1 ?k2 ?k3 ?k4 ?k5 ?kA ?kF ?kK ?k6 ?k7 ?k8 ?k9 ?kB ?kD ?_ ?c2 ?c3 ?c4; (case kA => exact rfl); (case kF => exact rfl); (case kK => first | exact rfl | (with_reducible assumption)); (case k1 => k_asm); (case k2 => k_asm); (case k3 => k_asm); (case k4 => k_asm); (case k5 => k_asm); (case k6 => k_is); (case k7 => k_is); (case k8 => ktr_room); (case k9 => first | exact BindsTo.of_eq rfl | exact binds_K (by k_in) rfl (by k_is) rfl rfl rfl | fail "k_enter: no rule for these arguments"); (case kB => exact rfl); (case kD => decide +kernel); (case c2 => exact rfl); (case c3 => exact rfl); (case c4 => exact rfl); k_whole; intro _ _ _ _ _ _ _ zzN' zzY' _ _ _ zzl1; revert zzl1; intro _; (have _ := Mk9.mk); k_cells zzY'; (try (simp only [List.cons_append, List.nil_append] at zzN'; revert zzN'; intro _)); (try dsimp only); (try k_fold)))
  k_with "call type:tuple" => ((k_here; (with_reducible show wpAny _ _ (call (Value.type _) [Value.ref _]) _ _ _); k_dflt (refine' kde_tupleOf ?k1 ?k2 (News.isList ?k3 ?k6) ?k4 ?k5 ?_; (case k1 => k_asm); (case k2 => k_asm); (case k3 => k_asm); (case k6 => k_mem); (case k4 => (simp only [List.size_toArray]; k_extra "OM")); (case k5 => exact rfl); k_whole); intro _ _ _ _ zzl1; revert zzl1; intro _; (have _ := Mk9.mk); (try k_sweep)))
  k_with "tb_rel" => (first | (refine' TailIs.rebase ?tr1; (case tr1 => (with_reducible assumption))) | (refine' TailIs.at ?tr1 _; (case tr1 => (with_reducible assumption))) | (refine' TailIs.moveT ?tb1; (case tb1 => tb_rel)) | (refine' TailIs.cons ?tb1; (case tb1 => tb_rel)) | exact TailIs.nil)
  trivial
-- every old address stands in the ledger
theorem rows_C17_2 : True := by
  k_with "kcf_m" => (first
  | (refine' covC ?kc1 ?kc2; (case kc1 => k_mem); (case kc2 => kcf_m))
  | exact List.forall_mem_nil _
  | (intro zzq9 zzhq9; refine ⟨Prod.snd zzq9, ?_⟩; repeat (first | exact zzhq9 | (refine' TailIs.coverAt ?tc1 (Run.sub ?tc2) zzq9 zzhq9; (case tc1 => (with_reducible assumption)); (case tc2 => (with_reducible assumption))) | refine List.mem_cons_of_mem _ ?_)))
  trivial
-- what is made here is none of the old
theorem rows_C17_3 : True := by
  k_with "kcf_all" => ((intro zzq9 zzhq9 zzho9; repeat (first | exact zzho9 | refine List.forall_mem_cons.mpr ⟨tmp_ne (by (with_reducible assumption)) (by kcf_m) zzq9 zzhq9, ?_⟩)))
  k_with "tb_start" => ((
  (rename Grow _ _ _ _ => zzG9)
  (have zzgB9 := Grow.base zzG9)
  (repeat (rename Run _ _ (Grow.R zzG9) => zzR9; have _ := Run.step zzR9 zzG9 (by kcf_m) (by kcf_all); clear zzR9))
  (repeat (rename DatIn (Grow.R zzG9) _ _ => zzhX9; have _ := DatIn.mono zzgB9 zzhX9; clear zzhX9))
  (repeat (rename DatAll (Grow.R zzG9) _ _ => zzhX9; have _ := DatAll.mono zzgB9 zzhX9; clear zzhX9))
  (repeat (rename IntsAt (Grow.R zzG9) _ _ => zzhX9; have _ := IntsAt.mono zzhX9 zzgB9; clear zzhX9))
  (repeat (rename (_ ∈ Grow.R zzG9) => zzhX9; have _ := zzgB9 _ zzhX9; clear zzhX9))
  (repeat (rename OffL (Grow.R zzG9) _ => zzhX9; have _ := Grow.offL zzG9 zzhX9 ⟨_, by k_mem⟩ (by k_all); clear zzhX9))
  (have zzhS9 := Grow.sub zzG9; (first | refine fd_6 zzhS9 ?_ | refine fd_5 zzhS9 ?_ | refine fd_4 zzhS9 ?_ | refine fd_3 zzhS9 ?_ | refine fd_2 zzhS9 ?_ | refine fd_1 zzhS9 ?_ | refine fd_0 zzhS9 ?_); clear zzhS9)
  clear zzgB9 zzG9
  intros))
  k_with "kqd_in" => (first | (refine' DatIn.mono ?kd1 ?kd2; (case kd2 => first | (with_reducible assumption) | assumption); (case kd1 => (intro _ zzhp9; repeat (first | exact zzhp9 | (refine' TailIs.sub ?kd3 _ zzhp9; (case kd3 => first | (refine' TailIs.rebase ?tr1; (case tr1 => (with_reducible assumption))) | (refine' TailIs.at ?tr1 _; (case tr1 => (with_reducible assumption))))) | refine List.mem_cons_of_mem _ ?_)))) | fail "kqd_in")
  k_with "kqd_all" => (first | (refine' DatAll.mono ?kd1 ?kd2; (case kd2 => first | (with_reducible assumption) | assumption); (case kd1 => (intro _ zzhp9; repeat (first | exact zzhp9 | (refine' TailIs.sub ?kd3 _ zzhp9; (case kd3 => first | (refine' TailIs.rebase ?tr1; (case tr1 => (with_reducible assumption))) | (refine' TailIs.at ?tr1 _; (case tr1 => (with_reducible assumption))))) | refine List.mem_cons_of_mem _ ?_)))) | fail "kqd_all")
  k_with "compareOp Eq ref ref" => ((k_here; (with_reducible show wpAny _ _ (compareOp CmpOp.Eq (Value.ref _) (Value.ref _)) _ _ _); k_dflt (refine' dat_eq ?n9 ?da (fun _ h => h) ?db (fun _ h => h) ?oa ?ob ?u9 ?_; (case n9 => k_asm); (case da => kqd_in); (case db => kqd_in); (case oa => first | exact domD_ok _ | rfl | (with_reducible assumption)); (case ob => first | exact domD_ok _ | rfl | (with_reducible assumption)); (case u9 => ktr_units); intro _ _)))
  k_with "compareOp NotEq ref ref" => ((k_here; (with_reducible show wpAny _ _ (compareOp CmpOp.NotEq (Value.ref _) (Value.ref _)) _ _ _); k_dflt (refine' dat_ne ?n9 ?da (fun _ h => h) ?db (fun _ h => h) ?oa ?ob ?u9 ?_; (case n9 => k_asm); (case da => kqd_in); (case db => kqd_in); (case oa => first | exact domD_ok _ | rfl | (with_reducible assumption)); (case ob => first | exact domD_ok _ | rfl | (with_reducible assumption)); (case u9 => ktr_units); intro _ _)))
  k_with "call builtin:list.append" => ((k_here; (with_reducible show wpAny _ _ (call (Value.builtin _) [Value.ref _, _]) _ _ _); k_dflt (refine' append_L ?k1 ?k2 ?k3 ?z ?_; (case k1 => k_asm); (case k2 => k_asm); (case k3 => k_upd); (case z => first | k_extra "OM" | ((simp only [List.length_cons, List.length_nil, List.length_append]); k_extra "OM")); k_whole); intro _ _ _; (try k_sweep)))
  k_with "call builtin:min" => ((k_here; (with_reducible show wpAny _ _ (call (Value.builtin _) [Value.ref _]) _ _ _); k_dflt ((refine' min_L ?f9 ?n9 ?m9 ?i9 ?z9 ?h9 ?_; (case f9 => k_asm); (case n9 => k_asm); (case m9 => k_mem); (case i9 => (with_reducible assumption)); (case z9 => first | k_extra "OM" | (simp_all; k_extra "OM")); (case h9 => with_unfolding_all rfl)); intro _ _ _ _ _)))
  k_with "call builtin:max" => ((k_here; (with_reducible show wpAny _ _ (call (Value.builtin _) [Value.ref _]) _ _ _); k_dflt ((refine' max_L ?f9 ?n9 ?m9 ?i9 ?z9 ?h9 ?_; (case f9 => k_asm); (case n9 => k_asm); (case m9 => k_mem); (case i9 => (with_reducible assumption)); (case z9 => first | k_extra "OM" | (simp_all; k_extra "OM")); (case h9 => with_unfolding_all rfl)); intro _ _ _ _ _)))
  k_with "ktr_rel" => (((case n9 => k_asm); (case b9 => k_asm); (case f9 => k_asm); (case x9 => k_asm); (case t9 => k_asm); (case k9 => first | exact rfl | (with_reducible assumption)); (case d9 => ktr_room); (case u9 => ktr_units)))
  trivial
theorem rows_C17_4 : True := by
  k_with "kcf_m" => ((intro zzq9 zzhq9; refine ⟨Prod.snd zzq9, ?_⟩; (repeat (first | exact zzhq9 | exact List.mem_append_left _ zzhq9 | (refine' TailIs.coverAt ?tc1 (Run.sub ?tc2) zzq9 zzhq9; (case tc1 => (with_reducible assumption)); (case tc2 => (with_reducible assumption))) | refine List.mem_cons_of_mem _ ?_ | refine List.mem_append_right _ ?_)); done))
  k_with "call builtin:len" => ((k_here; (with_reducible show wpAny _ _ (call (Value.builtin "len") [Value.ref _]) _ _ _); k_dflt (refine' len_L ?n9 ?m9 ?z9 ?_; (case n9 => k_asm); (case m9 => k_mem); (case z9 => (first | k_extra "OM" | ((simp only [List.length_append, List.length_cons, List.length_nil]); k_extra "OM"))); k_whole)))
  k_with "exec Assign cons ListComp" => ((k_here; (with_reducible show wpAny _ _ (exec _ _) _ _ _); refine Stop.intro ?_))
  k_with "eval ListComp" => ((k_here; (with_reducible show wpAny _ _ (eval (Expr.ListComp _ _ _ _) _) _ _ _); refine Stop.intro ?_))
  k_with "CompSrcT" => ((k_here; refine Stop.intro ?_))
  k_with "CompSrc" => ((k_here; refine Stop.intro ?_))
  k_with "CompEnd" => ((refine Stop.intro ?_))
  k_with "kqd_sub" => (first | (refine List.forall_mem_cons.mpr ⟨?kqa, ?kqb⟩; (case kqa => k_mem); (case kqb => kqd_sub)) | (intro _ zzhq9; (repeat (first | exact zzhq9 | refine List.mem_cons_of_mem _ ?_)); done))
  trivial
-- what a comparison has answered
theorem rows_C17_5 : True := by
  k_with "ANSWER" => (((rename Bool => zzt9); (rename (zzt9 = true ↔ _) => zzht9); (first | (have zze9 := zzht9.mpr (by first | rfl | (with_reducible assumption)); subst zze9) | (have zze9 := bool_no zzht9 (by first | (with_reducible assumption) | (intro zzh9; exact zzh9 rfl) | (intro zzh9; exact zzh9 (by (with_reducible assumption)))); subst zze9) | skip)))
  k_with "compareOp Eq ref ref" => ((k_here; (with_reducible show wpAny _ _ (compareOp CmpOp.Eq (Value.ref _) (Value.ref _)) _ _ _); k_dflt (refine' dat_eq ?n9 ?da (fun _ h => h) ?db (fun _ h => h) ?oa ?ob ?u9 ?_; (case n9 => k_asm); (case da => kqd_in); (case db => kqd_in); (case oa => first | exact domD_ok _ | rfl | (with_reducible assumption)); (case ob => first | exact domD_ok _ | rfl | (with_reducible assumption)); (case u9 => ktr_units); intro _ _; walk_at "ANSWER")))
  k_with "compareOp NotEq ref ref" => ((k_here; (with_reducible show wpAny _ _ (compareOp CmpOp.NotEq (Value.ref _) (Value.ref _)) _ _ _); k_dflt (refine' dat_ne ?n9 ?da (fun _ h => h) ?db (fun _ h => h) ?oa ?ob ?u9 ?_; (case n9 => k_asm); (case da => kqd_in); (case db => kqd_in); (case oa => first | exact domD_ok _ | rfl | (with_reducible assumption)); (case ob => first | exact domD_ok _ | rfl | (with_reducible assumption)); (case u9 => ktr_units); intro _ _; walk_at "ANSWER")))
  k_with "compareOp NotEq ref ref" => ((k_here; (with_reducible show wpAny _ _ (compareOp CmpOp.NotEq (Value.ref _) (Value.ref _)) _ _ _); k_dflt (refine' ints_ne ?n9 ?a9 ?i9 ?b9 ?j9 ?u9 ?_; (case n9 => k_asm); (case a9 => k_mem); (case b9 => k_mem); (case i9 => first | (with_reducible assumption) | exact IntsAre.nil); (case j9 => first | (with_reducible assumption) | exact IntsAre.nil); (case u9 => ktr_units); intro _ _; walk_at "ANSWER")))
  k_with "compareOp Eq ref ref" => ((k_here; (with_reducible show wpAny _ _ (compareOp CmpOp.Eq (Value.ref _) (Value.ref _)) _ _ _); k_dflt (refine' ints_eq ?n9 ?a9 ?i9 ?b9 ?j9 ?u9 ?_; (case n9 => k_asm); (case a9 => k_mem); (case b9 => k_mem); (case i9 => first | (with_reducible assumption) | exact IntsAre.nil); (case j9 => first | (with_reducible assumption) | exact IntsAre.nil); (case u9 => ktr_units); intro _ _; walk_at "ANSWER")))
  k_with "TAILFOR" => (first | (refine' TailFor.rebase ?tf1; (case tf1 => (with_reducible assumption))) | (refine' TailFor.at ?tf1 _; (case tf1 => (with_reducible assumption))) | (refine' TailFor.moveT ?tl9; (case tl9 => walk_at "TAILFOR")) | (refine' TailFor.moveA ?tl9; (case tl9 => walk_at "TAILFOR")) | (refine' TailFor.cons ?tl9; (case tl9 => walk_at "TAILFOR")) | exact TailFor.nil | (refine' TailFor.pre ?tl9; (case tl9 => walk_at "TAILFOR")))
  k_with "call ref" => ((k_here; (with_reducible show wpAny _ _ (call (Value.ref 42) _) _ _ _); k_dflt (first | ((refine' Call.cps (fromValues_f ?ti ?m9 ?i9 ?ln ?as) t_gD ?b9 ?f9 ?x9 ?t9 ?k9 ?d9 ?u9 ?n9 ?_; ktr_rel; (case ti => walk_at "TAILFOR"); (case m9 => k_mem); (case i9 => (with_reducible assumption)); (case ln => first | k_extra "OM" | (with_reducible assumption)); (case as => (with_reducible assumption))); intro _ _ _ _ _ _ _ zzN9; (try dsimp only at zzN9); tb_start) | (fail_if_success skip) | refine Stop.intro ?_)))
  k_with "call ref" => ((k_here; (with_reducible show wpAny _ _ (call (Value.ref 283) _) _ _ _); k_dflt (first | ((refine' Call.cps (bars_c ?m9) t_bool ?b9 ?f9 ?x9 ?t9 ?k9 ?d9 ?u9 ?n9 ?_; ktr_rel; (case m9 => k_mem)); intro _ _ _ _ _ _) | refine Stop.intro ?_)))
  k_with "setItem ref int ref" => ((k_here; (with_reducible show wpAny _ _ (setItem (Value.ref _) (Value.int _ _) (Value.ref _)) _ _ _); k_dflt (refine' set_sel ?f9 ?n9 ?x9 ?u9 ?_; (case f9 => k_asm); (case n9 => k_asm); (case x9 => (with_reducible assumption)); (case u9 => k_upd); k_whole; intro _ _ _)))
  k_with "kcf_all" => ((intro zzq9 zzhq9 zzho9; repeat (first | exact zzho9 | refine List.forall_mem_cons.mpr ⟨tmp_ne (by (with_reducible assumption)) (by kcf_m) zzq9 zzhq9, ?_⟩ | refine List.forall_mem_cons.mpr ⟨tmp_off (by (with_reducible assumption)) (by kcf_m) zzq9 zzhq9, ?_⟩)))
  k_with "subscriptTail Attribute Name Name ref int" => ((k_here; (with_reducible show wpAny _ _ (subscriptTail _ _ (Value.ref _) (Value.int _ _)) _ _ _); k_dflt (refine' item_sel ?n9 ?m9 ?x9 ?_ ?s9; (case n9 => k_asm); (case x9 => (with_reducible assumption)); (case m9 => k_mem); (case s9 => with_unfolding_all rfl); k_whole)))
  k_with "subscriptTail Name Name ref int" => ((k_here; (with_reducible show wpAny _ _ (subscriptTail _ _ (Value.ref _) (Value.int _ _)) _ _ _); k_dflt (refine' item_sel ?n9 ?m9 ?x9 ?_ ?s9; (case n9 => k_asm); (case x9 => (with_reducible assumption)); (case m9 => k_mem); (case s9 => with_unfolding_all rfl); k_whole)))
  k_with "subscriptTail Attribute Name Constant ref int" => ((k_here; (with_reducible show wpAny _ _ (subscriptTail _ _ (Value.ref _) (Value.int (OfNat.ofNat _) _)) _ _ _); k_dflt (refine' item_tup ?n9 ?m9 ?x9 ?y9 ?z9 ?_ ?s9; (case n9 => k_asm); (case m9 => k_mem); (case x9 => rfl); (case y9 => decide); (case z9 => decide); (case s9 => with_unfolding_all rfl); k_whole)))
  k_with "subscriptTail Subscript Attribute Constant Constant ref int" => ((k_here; (with_reducible show wpAny _ _ (subscriptTail _ _ (Value.ref _) (Value.int (OfNat.ofNat _) _)) _ _ _); k_dflt (refine' item_tup ?n9 ?m9 ?x9 ?y9 ?z9 ?_ ?s9; (case n9 => k_asm); (case m9 => k_mem); (case x9 => rfl); (case y9 => decide); (case z9 => decide); (case s9 => with_unfolding_all rfl); k_whole)))
  k_with "subscriptTail Name Constant ref int" => ((k_here; (with_reducible show wpAny _ _ (subscriptTail _ _ (Value.ref _) (Value.int (OfNat.ofNat _) _)) _ _ _); k_dflt (refine' item_tup ?n9 ?m9 ?x9 ?y9 ?z9 ?_ ?s9; (case n9 => k_asm); (case m9 => k_mem); (case x9 => rfl); (case y9 => decide); (case z9 => decide); (case s9 => with_unfolding_all rfl); k_whole)))
  k_with "subscriptTail Name Constant ref int" => ((k_here; (with_reducible show wpAny _ _ (subscriptTail _ _ (Value.ref _) (Value.int 0 _)) _ _ _); k_dflt (refine' head_int ?n9 ?m9 ?i9 ?g9 ?_ ?s9; (case n9 => k_asm); (case m9 => k_mem); (case i9 => (with_reducible assumption)); (case g9 => (with_reducible assumption)); (case s9 => with_unfolding_all rfl); k_whole); intro _))
  k_with "subscriptTail Name UnaryOp ref int" => ((k_here; (with_reducible show wpAny _ _ (subscriptTail _ _ (Value.ref _) (Value.int _ _)) _ _ _); k_dflt (refine' last_int ?n9 ?m9 ?i9 ?g9 ?_ ?s9; (case n9 => k_asm); (case m9 => k_mem); (case i9 => (with_reducible assumption)); (case g9 => (with_reducible assumption)); (case s9 => with_unfolding_all rfl); k_whole); intro _))
  k_with "subscriptTail Name Slice ref ref" => ((k_here; (with_reducible show wpAny _ _ (subscriptTail _ (PySem.Expr.Slice _ _ none _) (Value.ref _) (Value.ref _)) _ _ _); k_dflt (refine' trail_from ?f9 ?n9 ?m9 ?h9 ?z9 ?_ ?s9 ?t9; (case f9 => k_asm); (case n9 => k_asm); (case m9 => k_mem); (case h9 => k_extra "OM"); (case z9 => k_extra "OM"); (case s9 => with_unfolding_all rfl); (case t9 => kmk_pure)); intro _ _ _ _ zzl1; revert zzl1; intro _; (have _ := Mk9.mk)))
  k_with "call type:list" => ((k_here; (with_reducible show wpAny _ _ (call (Value.type _) [Value.ref _]) _ _ _); k_dflt (refine' list_of ?f9 ?n9 ?m9 ?z9 ?_; (case f9 => k_asm); (case n9 => k_asm); (case m9 => k_mem); (case z9 => (first | k_extra "OM" | ((simp only [List.length_cons, List.length_nil]); k_extra "OM")))); intro _ _ _ _ _ zzo8'; ((first | refine fm_16 zzo8' ?_ | refine fm_15 zzo8' ?_ | refine fm_14 zzo8' ?_ | refine fm_13 zzo8' ?_ | refine fm_12 zzo8' ?_ | refine fm_11 zzo8' ?_ | refine fm_10 zzo8' ?_ | refine fm_9 zzo8' ?_ | refine fm_8 zzo8' ?_ | refine fm_7 zzo8' ?_ | refine fm_6 zzo8' ?_ | refine fm_5 zzo8' ?_ | refine fm_4 zzo8' ?_ | refine fm_3 zzo8' ?_); clear zzo8'; intros)))
  k_with "call ref" => ((k_here; (with_reducible show wpAny _ _ (call (Value.ref 276) _) _ _ _); k_dflt (first | ((refine' Call.cps (draw_c ?p1 ?ca ?ho ?hi ?m1 ?m2 ?k1 ?k2 ?ln) t_draw ?b9 ?f9 ?x9 ?t9 ?k9 ?d9 ?u9 ?n9 ?_; ktr_rel; (case p1 => k_updF); (case ho => (with_reducible assumption)); (case ca => k_mem); (case hi => (with_reducible assumption)); (case m1 => decide); (case m2 => decide); (case k1 => k_extra "OM"); (case k2 => k_extra "OM"); (case ln => k_extra "OM")); intro _ _ _ _ _ _ _ _ _ _) | refine Stop.intro ?_)))
  k_with "OFFS" => (((rename Off1 _ _ => o9'); have o8' := off1_ap o9'; clear o9'; (first | refine fm_16 o8' ?_ | refine fm_15 o8' ?_ | refine fm_14 o8' ?_ | refine fm_13 o8' ?_ | refine fm_12 o8' ?_ | refine fm_11 o8' ?_ | refine fm_10 o8' ?_ | refine fm_9 o8' ?_ | refine fm_8 o8' ?_ | refine fm_7 o8' ?_ | refine fm_6 o8' ?_ | refine fm_5 o8' ?_ | refine fm_4 o8' ?_ | refine fm_3 o8' ?_ | refine fm_2 o8' ?_ | refine fm_1 o8' ?_); clear o8'; intros))
  k_with "SEP" => (repeat' (first | (refine sepC ?_ ?_ ?_) | exact sepN | exact apN | (refine apC ?_ ?_) | (with_reducible assumption) | exact Apart.swap (by (with_reducible assumption)) | exact offG (by (with_reducible assumption)) (by (with_reducible assumption)) (by (with_reducible assumption)) | assumption))
  k_with "call ref" => ((k_here; (with_reducible show wpAny _ _ (call (Value.ref 213) _) _ _ _); refine Stop.intro ?_))
  k_with "subscriptTail" => ((k_here; (with_reducible show wpAny _ _ (subscriptTail (PySem.Expr.Tuple _ _ _) _ (Value.ref _) (Value.int _ _)) _ _ _); refine Stop.intro ?_))
  trivial
theorem enter_cT {w : World} {u0 u1 : Dom} {tr2 : List Ent} {K : Sk} {si sd dl fl tl ml nd la a0 a1 ca : Addr} {no : Obj} {sp : Int} {st : Tok} {fa : Bool} {rv : Value} {rd : Dat} {spk : Int} {stk : Tok} {n1 n2 : Nat} {tv : List Value} {tr : List Ent} {d0 d1 : Dom} {sg : Sg} {x k : Int} {news l1 l2 l3 others r0 rest : Led} {g : Led → Led}
  (P1 : Pull sd (sdO w K dl fl tl ml nd sp st fa ca) news l1) (P2 : Pull dl (listOf [Value.ref a0, .ref a1].toArray n1) l1 l2) (P3 : Pull tl (listOf tv.toArray n2) l2 l3) (P4 : Pull nd no l3 others)
  (TI : TailIs others r0 rest g) (hsi : (si, instObj 265 sd) ∈ rest) (Dl : DatIn rest (.ref la) (litD x sg.str k)) (D0 : DatIn rest (.ref a0) (domD d0)) (D1 : DatIn rest (.ref a1) (domD d1)) (Dr : DatIn rest rv rd)
  (hr : (rv = .none) ∨ (∃ ea, rv = .ref ea ∧ rd = .tuple [])) (Dt : DatAll rest tv (tr.map entD)) (hx : x = 0 ∨ x = 1) (hl0 : d0.length ≤ 1000) (hl1 : d1.length ≤ 1000) (htv : tv.length ≤ 1000) (hno : NewsO w no) (hne : struckF sg k (sel x d0 d1) ≠ []) (e0 : sel x (struckF sg k d0) d0 = u0) (e1 : sel x d1 (struckF sg k d1) = u1) (e2 : trailOf sg k x d0 d1 rd spk tr = tr2) :
  Call w 5 213 [.ref si, .ref la, rv, .int spk stk] news (fun r nw =>
    ∃ a0' a1' tv' n1' n2' no' rest', r = .bool true ∧ nw = (sd, sdO w K dl fl tl ml nd sp st fa ca) :: (dl, listOf [Value.ref a0', .ref a1'].toArray n1') :: (tl, listOf tv'.toArray n2') :: (nd, no') :: g rest' ∧
      Grow news r0 rest rest' ∧ NewsO w no' ∧ DatIn rest' (.ref a0') (domD u0) ∧ DatIn rest' (.ref a1') (domD u1) ∧ DatAll rest' tv' (tr2.map entD)) := by
  subst e0; subst e1; subst e2
  refine Call.mono (enter_c P1 P2 P3 P4 TI hsi Dl D0 D1 Dr hr Dt hx hl0 hl1 htv hno) (Nat.le_refl _) fun r nw hp => ?_
  rcases hp with ⟨_, _, z, _⟩ | hp
  · exact absurd z hne
  · exact el_7_8 hp fun a0' a1' tv' m1' m2' no' rest9 e9 e9' G9 Hn D0' D1' Dt' _ => in_7_7 a0' a1' tv' m1' m2' no' rest9 e9 e9' G9 Hn D0' D1' Dt'
theorem decided_c0 {w : World} {K : Sk} {si sd dl fl tl ml nd fd ol kl ca cc a0 a1 l0 l1 : Addr} {no of : Obj} {sp : Int} {st : Tok} {n1 n2 nm no' nk nn : Nat} {tv mv kv vs : List Value} {cells : List Int} {k : Int} {tr : List Ent} {ms q0 q1 g0 g1 : List Int} {hs : List (List Int × List Int)} {others r0 rest : Led} {g : Led → Led}
  (TI : TailIs others r0 rest g) (hsi : (si, instObj 265 sd) ∈ rest)
  (S : StF w rest a0 a1 tv mv no l0 l1 tr ms q0 q1) (H : Hist g0 g1 tr ms hs q0 q1) (hlen : hs.length ≤ 20) (hkv : kv.length ≤ 20)
  (hca : (cc, listOf vs.toArray nn) ∈ rest) (ho : FeedO w of cc k) (hi : IntsAre vs cells) (hk1 : 0 ≤ k) (hk2 : k ≤ 900) (hln : cells.length ≤ 60)
  (ap : SepL [sd, dl, tl, nd, ml, fd, ol, kl] others) :
  Call w 12 308 [.ref fd, .ref si, .ref ol, .ref kl] ((sd, sdO w K dl fl tl ml nd sp st false ca) :: (dl, listOf [Value.ref a0, .ref a1].toArray n1) :: (tl, listOf tv.toArray n2) :: (nd, no) :: (ml, listOf mv.toArray nm) :: (fd, of) :: (ol, listOf [Value.ref l0, .ref l1].toArray no') :: (kl, listOf kv.toArray nk) :: others) (fun r nw => r = .none ∧ LapP w K sd dl fl tl ml nd fd ol kl cc sp st l0 l1 kv no' nk k tr ms hs q0 q1 g0 g1 ((sd, sdO w K dl fl tl ml nd sp st false ca) :: (dl, listOf [Value.ref a0, .ref a1].toArray n1) :: (tl, listOf tv.toArray n2) :: (nd, no) :: (ml, listOf mv.toArray nm) :: (fd, of) :: (ol, listOf [Value.ref l0, .ref l1].toArray no') :: (kl, listOf kv.toArray nk) :: others) r0 rest g nw) := by
  intro p loose mean mg mb dp un gd cn cs a ccd cl outer A₀ base h₀ L m s Q E B F X T hk hd hu N hret
  revert X; k_fill; intro X
  have R0 : Run ((sd, sdO w K dl fl tl ml nd sp st false ca) :: (dl, listOf [Value.ref a0, .ref a1].toArray n1) :: (tl, listOf tv.toArray n2) :: (nd, no) :: (ml, listOf mv.toArray nm) :: (fd, of) :: (ol, listOf [Value.ref l0, .ref l1].toArray no') :: (kl, listOf kv.toArray nk) :: others) rest rest := Run.refl
  refine sep_8 ap fun ap1 ap2 ap3 ap4 ap5 ap6 ap7 o1 bp1 bp2 bp3 bp4 bp5 bp6 o2 cp1 cp2 cp3 cp4 cp5 o3 dp1 dp2 dp3 dp4 o4 ep1 ep2 ep3 o5 fp1 fp2 o6 gp1 o7 o8 => ?_
  clear ap
  have q1' : OffL rest sd := fun p hp => o1 p (TI.sub p hp)
  have q2' : OffL rest dl := fun p hp => o2 p (TI.sub p hp)
  have q3' : OffL rest tl := fun p hp => o3 p (TI.sub p hp)
  have q4' : OffL rest nd := fun p hp => o4 p (TI.sub p hp)
  have q5' : OffL rest ml := fun p hp => o5 p (TI.sub p hp)
  have q6' : OffL rest fd := fun p hp => o6 p (TI.sub p hp)
  have q7' : OffL rest ol := fun p hp => o7 p (TI.sub p hp)
  have q8' : OffL rest kl := fun p hp => o8 p (TI.sub p hp)
  obtain ⟨D0, D1, Dt, hno, im, i0, i1⟩ := S
  refine el_0_9 H.facts fun z1 z2 z3 G0 G1 z4 z5 z6 z7 => ?_
  have htv : tv.length = tr.length := by have := Dt.length; simpa using this
  have hmv : mv.length = ms.length := im.length
  have hdl0 : (ivs q0).length ≤ 900 := Nat.le_trans (ivs_len _) (by have := G0.len; k_extra "OM")
  have hdl1 : (ivs q1).length ≤ 900 := Nat.le_trans (ivs_len _) (by have := G1.len; k_extra "OM")
  w_strict (
    refine wpAny_call ?_
    k_dflt k_enter
    k_steps
    unfold Stop
    rename_i L9 _ _ _ _ _ _ hLL _ _ _ _ _ _ _ _ _ x _ _ hx0 hx2 ho1 _ _ _ _ _ _ _ _ _ y _ _ hy0 hy3 ho2 _
    have hx := two_of hx0 hx2
    refine el_2_2 (intsAt_sel hx i0 i1) fun hv nh hlh hh => ?_
    have hq := good_sel hx G0 G1
    have hql := hq.len
    have oA := off_3 (l := others) (fun p hp => hLL p (by repeat (first | exact hp | refine List.mem_cons_of_mem _ ?_)))
    have oB := off_2 (l := others) (fun p hp => hLL p (by repeat (first | exact hp | refine List.mem_cons_of_mem _ ?_)))
    have oC := off_1 (l := others) (fun p hp => hLL p (by repeat (first | exact hp | refine List.mem_cons_of_mem _ ?_)))
    k_dflt (refine' item_sg ?n9 ?m9 ?g9 ?z9 ?_ ?s9; (case n9 => k_asm); (case m9 => k_mem); (case g9 => assumption); (case z9 => assumption); (case s9 => with_unfolding_all rfl))
    intro t9
    k_steps
    unfold Stop
    k_dflt (refine LCt.Assign_ListComp_T (F₀ := by k_asm) (by rfl) (by with_unfolding_all rfl) (by with_unfolding_all rfl) (by decide) (by rfl) (by decide) (by rfl) (by rfl) (by rfl) ?_)
    k_steps
    unfold Stop
    (rename Fr _ _ _ _ => F1; rename News _ _ _ _ => N1; rename Int => kk)
    refine LCt.CompSrcT.ledger rfl F1 N1 (by k_mem) (by rw [List.size_toArray, hh.length, sizeLine_eq]; k_extra "OM") fun g8 => filtT (fun v => !barsB (sgOf y) kk v) hh (.inr ⟨_, by k_mem, rfl, _, rfl⟩) ?_ ?_
    · clear F1 N1
      intro k t ys I oI C oC D m₂ h tk E' hkq hC hx' F2 N2 off ne
      k_steps
      all_goals (rename Fr _ _ _ _ => F9; rename News _ _ _ _ => N9; rename (_ = true ↔ barsP _ _ _) => hb9)
      · exact FiltEnd.intro (by rw [bars_yes hb9 (by assumption)]; rfl) F9 N9 (by kqd_sub)
      · exact FiltEnd.intro (by rw [bars_no hb9 (by assumption)]; rfl) F9 N9 (by kqd_sub)
    · rw [keep_filter]
      intro ks hks
      clear F1 N1
      unfold FinA
      intro Dk h tk F2 N2 ok
      rename_i o9 _ _ ho3 D9 _ _ _ _ _ oX dX _ oS dS _ oK dK _
      walk_at "OFFS"
      dsimp only
      have hZ9 := freeze (l0 := (sd, sdO w K dl fl tl ml nd sp st false ca) :: (dl, listOf [Value.ref a0, .ref a1].toArray n1) :: (tl, listOf tv.toArray n2) :: (nd, no) :: (ml, listOf mv.toArray nm) :: (fd, o9) :: (ol, listOf [Value.ref l0, .ref l1].toArray no') :: (kl, listOf kv.toArray nk) :: (L9 + 1 + 1 + 1, oK) :: (L9 + 1 + 1, oS) :: (L9 + 1, oX) :: others) [(Dk, lst ks)] (.cons (.cons (.cons (.cons (.cons (.cons (.cons (.cons (.cons (.cons (.cons (.rebase TI)))))))))))) N2
      refine el_1_3 (hZ9 (by kqd_sub) (by kqd_sub) (List.forall_mem_cons.mpr ⟨by k_all, List.forall_mem_nil _⟩)) fun r1 hr1 N3 G9 => ?_
      clear hZ9
      (try dsimp only at N3)
      have mA : (Dk, listOf ks.toArray _) ∈ r1 := hr1 _ (.head _)
      clear hr1
      clear N2
      tb_start
      rcases Classical.em (keepL (sgOf y) kk (sel x q0 q1) = []) with hk0 | hk0
      · rw [hk0] at hks
        k_steps
        (rename Fr _ _ _ _ => F9; rename News _ _ _ _ => N9; rename Run _ _ _ => R9)
        refine hret _ _ _ _ F9 (fun p hp => N9 p ((show ∀ q ∈ (sd, sdO w K dl fl tl ml nd sp st false ca) :: (dl, listOf [Value.ref a0, .ref a1].toArray n1) :: (tl, listOf tv.toArray n2) :: (nd, no) :: (ml, listOf mv.toArray nm) :: (fd, o9) :: (ol, listOf [Value.ref l0, .ref l1].toArray no') :: (kl, listOf kv.toArray nk) :: g r1, q ∈ _ by kqd_sub) p hp)) ⟨rfl, .stay ca _ o9 a0 a1 n1 n2 nm tv mv ml nd no r1 ho3 (by k_extra "OM") (by k_extra "OM") (Run.grow TI.base R9) ⟨by assumption, by assumption, by assumption, by assumption, by assumption, by assumption, by assumption⟩ (by walk_at "SEP")⟩
      · have hkg := hq.filter hk0
        obtain ⟨tre, ett, hcl1, htx, hund⟩ := decided_lev (x := x) (sp := -1) (sg := sgOf y) (k := kk) (tr := tr) (rd := .none) hq hk0
        have hcl : tre.length ≤ 2 := by k_extra "OM"
        obtain ⟨un0, un1⟩ := undo_sel hx htx hund
        rw [sel_ivs hx] at un0 un1
        have i0' : IntsAt r1 (sel x Dk l0) (sel x (keepL (sgOf y) kk (sel x q0 q1)) q0) := intsAt_sel hx ⟨_, _, mA, hks⟩ (by assumption)
        have i1' : IntsAt r1 (sel x l1 Dk) (sel x q1 (keepL (sgOf y) kk (sel x q0 q1))) := intsAt_sel hx (by assumption) ⟨_, _, mA, hks⟩
        have gg0 : Good (sel x (keepL (sgOf y) kk (sel x q0 q1)) q0) := good_sel hx hkg G0
        have gg1 : Good (sel x q1 (keepL (sgOf y) kk (sel x q0 q1))) := good_sel hx G1 hkg
        have e0 : sel x (struckF (sgOf y) kk (ivs q0)) (ivs q0) = ivs (sel x (keepL (sgOf y) kk (sel x q0 q1)) q0) := by rcases hx with rfl | rfl; exact struck_ivs G0.asc; rfl
        have e1 : sel x (ivs q1) (struckF (sgOf y) kk (ivs q1)) = ivs (sel x q1 (keepL (sgOf y) kk (sel x q0 q1))) := by rcases hx with rfl | rfl; rfl; exact struck_ivs G1.asc
        have et : trailOf (sgOf y) kk x (ivs q0) (ivs q1) .none (-1) tr = tr ++ tre := by unfold trailOf; rw [sel_ivs hx]; exact ett
        k_steps
        unfold Stop
        k_dflt (refine' Call.cps (enter_cT (sg := sgOf y) ?p1 ?p2 ?p3 ?p4 ?ti ?si ?dl ?d0 ?d1 ?dr ?hr ?dt ?hx ?l0 ?l1 ?tv ?no ?ne ?e0 ?e1 ?e2) t_7_5 ?b9 ?f9 ?x9 ?t9 ?k9 ?d9 ?u9 ?n9 ?_; ktr_rel; (case p1 => k_updF); (case p2 => k_updF); (case p3 => k_updF); (case p4 => k_updF); (case ti => tb_rel); (case si => k_mem); (case dl => exact DatIn.tuple (by k_mem) (.cons (.int _ _) (.cons (.str _ _) (.cons (.int _ _) .nil)))); (case d0 => kqd_in); (case d1 => kqd_in); (case dr => exact DatIn.none); (case hr => exact .inl rfl); (case dt => kqd_all); (case hx => assumption); (case l0 => k_extra "OM"); (case l1 => k_extra "OM"); (case tv => k_extra "OM"); (case no => assumption); (case ne => (rw [sel_ivs hx]; exact fun z9 => hk0 ((struck_nil hq.asc).mp z9))); (case e0 => exact e0); (case e1 => exact e1); (case e2 => exact et))
        · intro h9 tk9 F9 a0' a1' tv' m1' m2' nz rest9 G9 Hn D0' D1' Dt' N9
          (try dsimp only at N9)
          tb_start
          k_steps
          (rename Fr _ _ _ _ => F9; rename News _ _ _ _ => N9; rename Run _ _ _ => R9)
          (rename ∀ q ∈ g rest9, Apart q.1 _ => o8)
          have oD : OffL rest9 _ := fun q hq => o8 q (TailIs.sub (TailIs.at TI rest9) q hq)
          have oE : OffL others _ := fun q hq => o8 q (TailIs.coverAt TI R9.sub q hq)
          clear o8
          have H9 : Hist g0 g1 (tr ++ tre) (ms ++ [(tr.length : Int)]) (hs ++ [(q0, q1)]) (sel x (keepL (sgOf y) kk (sel x q0 q1)) q0) (sel x q1 (keepL (sgOf y) kk (sel x q0 q1))) := .push H un0 un1 (fun e he => by rw [htx e he]; exact hx) hcl gg0 gg1
          have N8 : News _ _ _ ((sd, _) :: (dl, _) :: (tl, _) :: (nd, _) :: (ml, _) :: (fd, _) :: (ol, _) :: (kl, _) :: (_, listOf [Value.ref l0, .ref l1].toArray _) :: g rest9) := List.forall_mem_cons.mpr ⟨N9 _ (by k_mem), List.forall_mem_cons.mpr ⟨N9 _ (by k_mem), List.forall_mem_cons.mpr ⟨N9 _ (by k_mem), List.forall_mem_cons.mpr ⟨N9 _ (by k_mem), List.forall_mem_cons.mpr ⟨N9 _ (by k_mem), List.forall_mem_cons.mpr ⟨N9 _ (by k_mem), List.forall_mem_cons.mpr ⟨N9 _ (by k_mem), List.forall_mem_cons.mpr ⟨N9 _ (by k_mem), List.forall_mem_cons.mpr ⟨N9 _ (by k_mem), fun p hp => N9 p (by repeat (first | exact hp | refine List.mem_cons_of_mem _ ?_))⟩⟩⟩⟩⟩⟩⟩⟩⟩
          refine hret _ _ _ _ F9 N8 ⟨rfl, .more _ _ o9 a0' a1' m1' m2' _ tv' _ nz _ _ _ _ _ _ (tr ++ tre) _ _ rest9 ho3 (by k_extra "OM") (by k_extra "OM") (Run.grow TI.base R9) ⟨by assumption, by assumption, by assumption, by assumption, IntsAre.append im (by rw [← htv]; exact .cons _ _ .nil), by assumption, by assumption⟩ (by assumption) (by assumption) H9 (by walk_at "SEP")⟩)
theorem el_1_7 {α0 : Type} {P0 P1 P2 P3 P4 P5 P6 : α0 → Prop} {C : Prop} (h : ∃ x0, P0 x0 ∧ P1 x0 ∧ P2 x0 ∧ P3 x0 ∧ P4 x0 ∧ P5 x0 ∧ P6 x0) (k : ∀ x0, P0 x0 → P1 x0 → P2 x0 → P3 x0 → P4 x0 → P5 x0 → P6 x0 → C) : C := Exists.elim h fun x0 h => k x0 h.1 h.2.1 h.2.2.1 h.2.2.2.1 h.2.2.2.2.1 h.2.2.2.2.2.1 h.2.2.2.2.2.2
theorem drawn_c {w : World} {fd ca : Addr} {o : Obj} {vs : List Value} {cells : List Int} {k : Int} {nn : Nat} {news others r0 rest : Led} {g : Led → Led}
  (P : Pull fd o news others) (TI : TailIs others r0 rest g) (hca : (ca, listOf vs.toArray nn) ∈ rest) (ho : FeedO w o ca k) (hi : IntsAre vs cells) (hk1 : 0 ≤ k) (hk2 : k < 900) (hln : cells.length ≤ 60) :
  Call w 4 288 [.ref fd] news (fun r nw => ∃ ra o' rest' ns, r = .ref ra ∧ nw = (fd, o') :: g rest' ∧ Grow news r0 rest rest' ∧ FeedO w o' ca (k + 8) ∧ IntsAt rest' ra ns ∧ Good ns) := by
  refine Call.sub (Call.mono (drawn_c0 (o := o) TI hca ho hi hk1 hk2 hln P.off) (Nat.le_refl _) fun r nw hp => ?_) P.sub
  obtain ⟨ra, o', rest', ns, a, b, G, c, d, e, f, h⟩ := hp
  exact ⟨ra, o', rest', ns, a, b, G.cov P.cover, c, d, ⟨f, e, h⟩⟩
theorem drawn_f {w : World} {fd ca : Addr} {o : Obj} {vs : List Value} {cells : List Int} {k : Int} {nn : Nat} {news others r0 rest : Led} {g : Led → Led}
  (P : Pull fd o news others) (TI : TailIs others r0 rest g) (hca : (ca, listOf vs.toArray nn) ∈ rest) (ho : FeedO w o ca k) (hi : IntsAre vs cells) (hk1 : 0 ≤ k) (hk2 : k < 900) (hln : cells.length ≤ 60) :
  Call w 4 288 [.ref fd] news (fun r nw => ∃ ra o' rest' ns iv n, r = .ref ra ∧ nw = (fd, o') :: g rest' ∧ Grow news r0 rest rest' ∧ FeedO w o' ca (k + 8) ∧ Good ns ∧ (ra, listOf iv.toArray n) ∈ rest' ∧ IntsAre iv ns ∧ ns.length ≤ 8 ∧ Asc ns ∧ ¬ domD (ivs ns) = Dat.tuple []) := by
  refine Call.mono (drawn_c P TI hca ho hi hk1 hk2 hln) (Nat.le_refl _) fun r nw hp => ?_
  obtain ⟨ra, o', rest', ns, a, b, G, c, ⟨iv, n, d, e⟩, f⟩ := hp
  exact ⟨ra, o', rest', ns, iv, n, a, b, G, c, f, d, e, f.len, f.asc, fun e => f.ivs (domD_nil.mp e)⟩
section
variable {prog : Program} {w : World} {A : Around} {E : Value → Shared → Prop} {s : Shared} {env : Env} {h₀ : Heap} {x : Str} {body : List Stmt} {Q : Flow → Shared → Prop}
theorem loop_R {r : Addr} {a₀ b₀ : Int} {t₀ u₀ v₀ : Tok} {n : Nat} {m₀ : Str → Option Value} {news : Led} (J : Nat → (Str → Option Value) → Led → Prop)
    (hh : A.handled = none) (hr : IsRange s.heap r a₀ b₀ 1 t₀ u₀ v₀) (hsmall : Builtin.Range.small a₀ b₀ 1 = true) (hsz : Builtin.Range.rangeSize a₀ b₀ 1 = (n : Int)) (F : Fr h₀ env.locals s.heap m₀) (N : News h₀ env.locals s.heap news) (hj : J 0 m₀ news)
    (turn : ∀ i t m₁ nx h tk own, i < n → OwnOff own (nx.map (·.1)) → J i m₁ nx → Fr h₀ env.locals h (fun y => if y = x then some (.int (a₀ + (i : Int)) t) else m₁ y) → News h₀ env.locals h (nx ++ own) →
      wpAny (model prog w) A (execs body env) (InvPostG h₀ env.locals (J (i + 1)) own { s with heap := h, toks := tk } Q) E { s with heap := h, toks := tk })
    (done : ∀ m₁ nx h tk, J n m₁ nx → Fr h₀ env.locals h m₁ → News h₀ env.locals h nx → Q .next { s with heap := h, toks := tk }) :
    wpAny (model prog w) A (pyIter (.ref r)) (fun it s₂ => LoopAtV prog w A h₀ env x body Q E it s₂) E s := by
  refine tbr_invG J hh hr hsmall hsz F N hj (fun i k t m₁ nx h tk own hk off hJ F₁ N₁ => ?_) done
  obtain ⟨hl, ek⟩ := List.getElem?_eq_some_iff.mp hk
  have hi : i < n := rangeKs_length a₀ n ▸ hl
  obtain rfl : a₀ + (i : Int) = k := by simpa [rangeKs] using ek
  refine wpAny_mono (turn i t m₁ nx h tk own hi (fun p hp b hb => ?_) hJ F₁ N₁) (fun f z hz => ?_) fun _ _ e => e
  · obtain ⟨q, hq, rfl⟩ := List.mem_map.mp hb
    exact off p hp q hq
  · have conv : InvEndG h₀ env.locals (J (i + 1)) own { s with heap := h, toks := tk } z → TbEnd h₀ env.locals (J (i + 1)) own { s with heap := h, toks := tk } z :=
      fun ⟨h', tk', m', nw, nx', e, F', N', hn, ho, ha, hj⟩ => ⟨h', tk', m', nw, nx', e, F', N', hn, ho, fun p hp q hq => ha p hp q.1 (List.mem_map_of_mem hq), hj⟩
    cases f <;> first | exact hz | exact conv hz
end
/-- the stack: copies of what was left, level by level -/
inductive Stk (r : Led) : List Value → Led → List (List Int × List Int) → Prop
  | nil : Stk r [] [] []
  | push {kv stk hs l9 l0 l1 n q0 q1} : Stk r kv stk hs → IntsAt r l0 q0 → IntsAt r l1 q1 → Stk r (kv ++ [.ref l9]) ((l9, listOf [Value.ref l0, .ref l1].toArray n) :: stk) (hs ++ [(q0, q1)])
theorem mem_mr {xs own r : Led} {p : Addr × Obj} (h : p ∈ xs ++ (own ++ r)) : p ∈ (xs ++ r) ++ own :=
  (List.mem_append.mp h).elim (fun h => List.mem_append_left _ (List.mem_append_left _ h)) fun h => (List.mem_append.mp h).elim (fun h => List.mem_append_right _ h) fun h => List.mem_append_left _ (List.mem_append_right _ h)
theorem mem_ms {xs own r : Led} {p : Addr × Obj} (h : p ∈ xs ++ r) : p ∈ xs ++ (own ++ r) :=
  (List.mem_append.mp h).elim (fun h => List.mem_append_left _ h) fun h => List.mem_append_right _ (List.mem_append_right _ h)
theorem Stk.mono {r r' : Led} {kv : List Value} {stk : Led} {hs : List (List Int × List Int)} (h : Stk r kv stk hs) (hr : ∀ p ∈ r, p ∈ r') : Stk r' kv stk hs := by
  induction h with
  | nil => exact .nil
  | push _ a b ih => exact .push ih (a.mono hr) (b.mono hr)
theorem Stk.len {r : Led} {kv : List Value} {stk : Led} {hs : List (List Int × List Int)} (h : Stk r kv stk hs) : kv.length = hs.length := by
  induction h with
  | nil => rfl
  | push _ _ _ ih => simp [ih]
theorem Stk.top {r : Led} {kv : List Value} {stk : Led} {hs : List (List Int × List Int)} {q0 q1 : List Int} (h : Stk r kv stk (hs ++ [(q0, q1)])) :
    ∃ kv' l9 stk' l0 l1 n, kv = kv' ++ [.ref l9] ∧ stk = (l9, listOf [Value.ref l0, .ref l1].toArray n) :: stk' ∧ Stk r kv' stk' hs ∧ IntsAt r l0 q0 ∧ IntsAt r l1 q1 := by
  generalize hs' : hs ++ [(q0, q1)] = s at h
  cases h with
  | nil => simp at hs'
  | push H a b =>
    obtain ⟨e1, e2⟩ := List.append_inj' hs' rfl
    simp only [List.cons.injEq, Prod.mk.injEq, and_true] at e2
    obtain ⟨rfl, rfl⟩ := e2
    subst e1
    exact ⟨_, _, _, _, _, _, rfl, rfl, H, a, b⟩
theorem Stk.none {r : Led} {kv : List Value} {stk : Led} (h : Stk r kv stk []) : kv = [] ∧ stk = [] := by
  generalize hs' : ([] : List (List Int × List Int)) = s at h
  cases h with
  | nil => exact ⟨rfl, rfl⟩
  | push H a b => simp at hs'
theorem sep_snoc {as : List Addr} {c : Addr} {o : Obj} {r : Led} : SepL (as ++ [c]) r ↔ SepL as ((c, o) :: r) ∧ OffL r c := by
  induction as with
  | nil => simp [SepL]
  | cons a as ih =>
    simp only [List.cons_append, SepL, ih, List.mem_append, List.mem_singleton]
    constructor
    · rintro ⟨h1, h2, h3, h4⟩
      exact ⟨⟨fun b hb => h1 b (.inl hb), List.forall_mem_cons.mpr ⟨fun e => h1 c (.inr rfl) e.symm, h2⟩, h3⟩, h4⟩
    · rintro ⟨⟨h1, h2, h3⟩, h4⟩
      obtain ⟨h5, h6⟩ := List.forall_mem_cons.mp h2
      refine ⟨fun b hb => ?_, h6, h3, h4⟩
      rcases hb with hb | rfl
      · exact h1 b hb
      · exact fun e => h5 e.symm
theorem sep_sub {as : List Addr} {r r' : Led} (h : SepL as r) (hs : ∀ p ∈ r', p ∈ r) : SepL as r' := by
  induction as with
  | nil => trivial
  | cons a as ih => exact ⟨h.1, fun p hp => h.2.1 p (hs p hp), ih h.2.2⟩
theorem sep_off {as : List Addr} {r : Led} (h : SepL as r) : ∀ a ∈ as, OffL r a := by
  induction as with
  | nil => exact fun _ h => nomatch h
  | cons a as ih =>
    intro b hb
    rcases List.mem_cons.mp hb with rfl | hb
    · exact h.2.1
    · exact ih h.2.2 b hb
theorem sep_of {as : List Addr} {r r' : Led} (h : SepL as r) (hs : ∀ a ∈ as, OffL r' a) : SepL as r' := by
  induction as with
  | nil => trivial
  | cons a as ih => exact ⟨h.1, hs a (.head _), ih h.2.2 fun b hb => hs b (.tail _ hb)⟩
theorem offL_append {a b : Led} {d : Addr} : OffL (a ++ b) d ↔ OffL a d ∧ OffL b d :=
  ⟨fun h => ⟨fun p hp => h p (List.mem_append_left _ hp), fun p hp => h p (List.mem_append_right _ hp)⟩, fun h => offL_app h.1 h.2⟩
theorem subT {m : Addr × Obj} {a b : Led} (h : ∀ p ∈ a, p ∈ b) : ∀ p ∈ m :: a, p ∈ m :: b := List.forall_mem_cons.mpr ⟨.head _, fun p hp => .tail _ (h p hp)⟩
theorem sub9 {m0 m1 m2 m3 m4 m5 m6 m7 m8 : Addr × Obj} {a b : Led} (h : ∀ p ∈ a, p ∈ b) : ∀ p ∈ m0 :: m1 :: m2 :: m3 :: m4 :: m5 :: m6 :: m7 :: m8 :: a, p ∈ m0 :: m1 :: m2 :: m3 :: m4 :: m5 :: m6 :: m7 :: m8 :: b := subT (subT (subT (subT (subT (subT (subT (subT (subT h))))))))
theorem tl9 {m0 m1 m2 m3 m4 m5 m6 m7 m8 : Addr × Obj} {a : Led} {p : Addr × Obj} (h : p ∈ a) : p ∈ m0 :: m1 :: m2 :: m3 :: m4 :: m5 :: m6 :: m7 :: m8 :: a := .tail _ (.tail _ (.tail _ (.tail _ (.tail _ (.tail _ (.tail _ (.tail _ (.tail _ h))))))))
theorem app3 {a b c : Led} {p : Addr × Obj} {C : Prop} (h : p ∈ (a ++ b) ++ c) (h1 : p ∈ a → C) (h2 : p ∈ b → C) (h3 : p ∈ c → C) : C := (List.mem_append.mp h).elim (fun h => (List.mem_append.mp h).elim h1 h2) h3
theorem in1 {a b c : Led} {p : Addr × Obj} (h : p ∈ a) : p ∈ (a ++ b) ++ c := List.mem_append_left _ (List.mem_append_left _ h)
theorem in2 {a b c : Led} {p : Addr × Obj} (h : p ∈ b) : p ∈ (a ++ b) ++ c := List.mem_append_left _ (List.mem_append_right _ h)
theorem in3 {a b c : Led} {p : Addr × Obj} (h : p ∈ c) : p ∈ (a ++ b) ++ c := List.mem_append_right _ h
/-- the law's state between two laps; own: what the loop itself holds -/
inductive LawS (w : World) (K : Sk) (sd dl fl tl fd kl co cc : Addr) (g0 g1 : List Int) (fz : Led) (i : Nat) (own : Led) : Led → Prop
  | mk (sp : Int) (st : Tok) (ca a0 a1 : Addr) (n1 n2 nm nq nk : Nat) (tv mv kv : List Value) (no of oC : Obj) (ml nd ol l0 l1 : Addr) (k : Int) (tr : List Ent) (ms q0 q1 : List Int) (hs : List (List Int × List Int)) (stk rest : Led)
      (h1 : oC.data = .cell (some (.ref ol))) (h2 : FeedO w of cc k) (h3 : 0 ≤ k) (h4 : k ≤ 17 + 10 * (i : Int)) (h5 : StF w rest a0 a1 tv mv no l0 l1 tr ms q0 q1) (h6 : Hist g0 g1 tr ms hs q0 q1) (h7 : hs.length ≤ i) (h8 : Stk rest kv stk hs) (h9 : SepL [sd, dl, tl, nd, ml, fd, ol, kl, co] ((stk ++ own) ++ rest)) (h10 : SepL (stk.map (·.1)) (own ++ rest)) (h11 : (∀ q ∈ own, OffL rest q.1)) (h12 : (∀ p ∈ fz, p ∈ rest)) :
      LawS w K sd dl fl tl fd kl co cc g0 g1 fz i own ((sd, sdO w K dl fl tl ml nd sp st false ca) :: (dl, listOf [Value.ref a0, .ref a1].toArray n1) :: (tl, listOf tv.toArray n2) :: (nd, no) :: (ml, listOf mv.toArray nm) :: (fd, of) :: (ol, listOf [Value.ref l0, .ref l1].toArray nq) :: (kl, listOf kv.toArray nk) :: (co, oC) :: ((stk ++ own) ++ rest))
section
variable {w : World} {K : Sk} {sd dl fl tl fd kl co cc : Addr} {g0 g1 : List Int} {fz : Led} {i : Nat}
theorem lawS_e {own nx : Led} {C : Prop} (h : LawS w K sd dl fl tl fd kl co cc g0 g1 fz i own nx) (kk : ∀ (sp : Int) (st : Tok) (ca a0 a1 : Addr) (n1 n2 nm nq nk : Nat) (tv mv kv : List Value) (no of oC : Obj) (ml nd ol l0 l1 : Addr) (k : Int) (tr : List Ent) (ms q0 q1 : List Int) (hs : List (List Int × List Int)) (stk rest : Led), (nx = (sd, sdO w K dl fl tl ml nd sp st false ca) :: (dl, listOf [Value.ref a0, .ref a1].toArray n1) :: (tl, listOf tv.toArray n2) :: (nd, no) :: (ml, listOf mv.toArray nm) :: (fd, of) :: (ol, listOf [Value.ref l0, .ref l1].toArray nq) :: (kl, listOf kv.toArray nk) :: (co, oC) :: ((stk ++ own) ++ rest)) → (oC.data = .cell (some (.ref ol))) → (FeedO w of cc k) → (0 ≤ k) → (k ≤ 17 + 10 * (i : Int)) → (StF w rest a0 a1 tv mv no l0 l1 tr ms q0 q1) → (Hist g0 g1 tr ms hs q0 q1) → (hs.length ≤ i) → (Stk rest kv stk hs) → (SepL [sd, dl, tl, nd, ml, fd, ol, kl, co] ((stk ++ own) ++ rest)) → (SepL (stk.map (·.1)) (own ++ rest)) → ((∀ q ∈ own, OffL rest q.1)) → ((∀ p ∈ fz, p ∈ rest)) → C) : C := by
  rcases h with ⟨sp, st, ca, a0, a1, n1, n2, nm, nq, nk, tv, mv, kv, no, of, oC, ml, nd, ol, l0, l1, k, tr, ms, q0, q1, hs, stk, rest, h1, h2, h3, h4, h5, h6, h7, h8, h9, h10, h11, h12⟩
  exact kk sp st ca a0 a1 n1 n2 nm nq nk tv mv kv no of oC ml nd ol l0 l1 k tr ms q0 q1 hs stk rest rfl h1 h2 h3 h4 h5 h6 h7 h8 h9 h10 h11 h12
theorem offL_cons {r : Led} {d : Addr} {p : Addr × Obj} : OffL (p :: r) d ↔ p.1 ≠ d ∧ OffL r d := List.forall_mem_cons
theorem own_off {own nx : Led} (ho : OwnOff own (nx.map (·.1))) {p : Addr × Obj} (hp : p ∈ nx) : OffL own p.1 := fun q hq => ho q hq p.1 (List.mem_map.mpr ⟨p, hp, rfl⟩)
theorem lawS_in {own nx : Led} (h : LawS w K sd dl fl tl fd kl co cc g0 g1 fz i [] nx) (ho : OwnOff own (nx.map (·.1))) : ∃ nx', (∀ p ∈ nx', p ∈ nx ++ own) ∧ LawS w K sd dl fl tl fd kl co cc g0 g1 fz i own nx' := by
  refine lawS_e h fun sp st ca a0 a1 n1 n2 nm nq nk tv mv kv no of oC ml nd ol l0 l1 k tr ms q0 q1 hs stk rest e9 e1 e2 e3 e4 e5 e6 e7 e8 s1 s2 s3 s4 => ?_
  subst e9
  refine ⟨_, ?_, .mk sp st ca a0 a1 n1 n2 nm nq nk tv mv kv no of oC ml nd ol l0 l1 k tr ms q0 q1 hs stk rest e1 e2 e3 e4 e5 e6 e7 e8 ?_ ?_ ?_ s4⟩
  · exact sub9 fun p hp => app3 hp (fun h => List.mem_append_left _ (in1 h)) (fun h => List.mem_append_right _ h) (fun h => List.mem_append_left _ (in3 h))
  · refine sep_of s1 fun a ha => ?_
    have h1 := sep_off s1 a ha
    rw [List.append_nil] at h1
    obtain ⟨h2, h3⟩ := offL_append.mp h1
    refine offL_app (offL_app h2 fun q hq => ho q hq a ?_) h3
    show a ∈ [sd, dl, tl, nd, ml, fd, ol, kl, co] ++ List.map (fun p : Addr × Obj => p.1) ((stk ++ []) ++ rest)
    exact List.mem_append_left _ ha
  · refine sep_of s2 fun a ha => ?_
    obtain ⟨p, hp, rfl⟩ := List.mem_map.mp ha
    exact offL_app (own_off ho (tl9 (in1 hp))) (sep_off s2 _ ha)
  · intro q hq p hp e
    exact ho q hq p.1 (List.mem_map.mpr ⟨p, tl9 (in3 hp), rfl⟩) e.symm
theorem lawS_out {own nx : Led} (h : LawS w K sd dl fl tl fd kl co cc g0 g1 fz i own nx) : (∀ p ∈ own, p ∈ nx) ∧ ∃ nx', (∀ p ∈ nx', p ∈ nx) ∧ LawS w K sd dl fl tl fd kl co cc g0 g1 fz i [] nx' ∧ OwnOff own (nx'.map (·.1)) := by
  refine lawS_e h fun sp st ca a0 a1 n1 n2 nm nq nk tv mv kv no of oC ml nd ol l0 l1 k tr ms q0 q1 hs stk rest e9 e1 e2 e3 e4 e5 e6 e7 e8 s1 s2 s3 s4 => ?_
  subst e9
  have hsub : ∀ p ∈ (stk ++ []) ++ rest, p ∈ (stk ++ own) ++ rest := fun p hp => app3 hp in1 (fun h => nomatch h) in3
  refine ⟨fun p hp => tl9 (in2 hp), _, sub9 hsub, .mk sp st ca a0 a1 n1 n2 nm nq nk tv mv kv no of oC ml nd ol l0 l1 k tr ms q0 q1 hs stk rest e1 e2 e3 e4 e5 e6 e7 e8 (sep_sub s1 hsub) ?_ (fun _ h => nomatch h) s4, ?_⟩
  · exact sep_sub s2 fun p hp => List.mem_append_right _ hp
  · intro q hq b hb
    have hb' : b ∈ [sd, dl, tl, nd, ml, fd, ol, kl, co] ++ List.map (fun p : Addr × Obj => p.1) ((stk ++ []) ++ rest) := hb
    rcases List.mem_append.mp hb' with h | h
    · exact sep_off s1 b h q (in2 hq)
    · obtain ⟨p, hp, rfl⟩ := List.mem_map.mp h
      exact app3 hp (fun h => sep_off s2 _ (List.mem_map.mpr ⟨p, h, rfl⟩) q (List.mem_append_left _ hq)) (fun h => nomatch h) (fun h => Ne.symm (s3 q hq p h))
/-- a deed is done: the state behind it -/
theorem lap_law {own nw news stk rest : Led} {g : Led → Led} {nd ml ol : Addr} {sp : Int} {st : Tok} {l0 l1 : Addr} {kv : List Value} {nq nk : Nat} {k : Int} {tr : List Ent} {ms q0 q1 : List Int} {hs : List (List Int × List Int)} {oC : Obj}
    (hl : LapP w K sd dl fl tl ml nd fd ol kl cc sp st l0 l1 kv nq nk k tr ms hs q0 q1 g0 g1 news rest rest g nw) (hn : ∀ p ∈ (co, oC) :: ((stk ++ own) ++ rest), p ∈ news) (hg : ∀ x, g x = (co, oC) :: ((stk ++ own) ++ x))
    (dC : oC.data = .cell (some (.ref ol))) (k0 : 0 ≤ k) (k1 : k ≤ 17 + 10 * (i : Int) + 1) (H : Hist g0 g1 tr ms hs q0 q1) (hi : hs.length ≤ i) (hk : Stk rest kv stk hs) (sC : OffL ((stk ++ own) ++ rest) co) (sK : SepL (stk.map (·.1)) (own ++ rest)) (sO : ∀ q ∈ own, OffL rest q.1) (hz : ∀ p ∈ fz, p ∈ rest) :
    ∃ nx', (∀ p ∈ nx', p ∈ nw) ∧ LawS w K sd dl fl tl fd kl co cc g0 g1 fz (i + 1) own nx' := by
  have grow : ∀ {rest' : Led}, Grow news rest rest rest' → (∀ q ∈ own, OffL rest' q.1) ∧ SepL (stk.map (·.1)) (own ++ rest') ∧ OffL ((stk ++ own) ++ rest') co ∧ (∀ p ∈ fz, p ∈ rest') ∧ Stk rest' kv stk hs := by
    intro rest' G
    have h1 := offL_append.mp sC
    refine ⟨fun q hq => G.off q.1 ⟨q.2, hn q (.tail _ (in2 hq))⟩ (sO q hq), sep_of sK fun a ha => ?_, offL_app h1.1 (G.off co ⟨oC, hn _ (.head _)⟩ h1.2), fun p hp => G.sub p (hz p hp), hk.mono G.sub⟩
    have h2 := offL_append.mp (sep_off sK a ha)
    obtain ⟨p, hp, rfl⟩ := List.mem_map.mp ha
    exact offL_app h2.1 (G.off p.1 ⟨p.2, hn p (.tail _ (in1 hp))⟩ h2.2)
  rcases hl with ⟨ca, k', of, a0, a1, n1, n2, nm, tv, mv, ml', nd', no, rest', ho, hk1, hk2, G, S, sp'⟩ | ⟨ca, k', of, a0, a1, n1, n2, nm, tv, mv, no, l0', l1', nq', nk', l9, n9, tr', q0', q1', rest', ho, hk1, hk2, G, S, i0, i1, H', sp'⟩
  · obtain ⟨y1, y2, y3, y4, y5⟩ := grow G
    rw [hg] at sp' ⊢
    refine ⟨_, fun _ h => h, .mk sp st ca a0 a1 n1 n2 nm nq nk tv mv kv no of oC ml' nd' ol l0 l1 k' tr ms q0 q1 hs stk rest' dC ho (by omega) (by push_cast; omega) S H (by omega) y5 ?_ y2 y1 y4⟩
    exact sep_snoc (as := [sd, dl, tl, nd', ml', fd, ol, kl]).mpr ⟨sp', y3⟩
  · obtain ⟨y1, y2, y3, y4, y5⟩ := grow G
    rw [hg] at sp' ⊢
    obtain ⟨z1, z2⟩ := sep_snoc (o := listOf [Value.ref l0, .ref l1].toArray n9) (as := [sd, dl, tl, nd, ml, fd, ol, kl]).mp sp'
    obtain ⟨z3, z4⟩ := offL_cons.mp z2
    obtain ⟨z5, z6⟩ := offL_append.mp z4
    obtain ⟨z7, z8⟩ := offL_append.mp z5
    refine ⟨_, ?_, .mk sp st ca a0 a1 n1 n2 nm nq' nk' tv mv (kv ++ [.ref l9]) no of oC ml nd ol l0' l1' k' tr' (ms ++ [(tr.length : Int)]) q0' q1' (hs ++ [(q0, q1)]) ((l9, listOf [Value.ref l0, .ref l1].toArray n9) :: stk) rest' dC ho (by omega) (by push_cast; omega) S H' (by simp; omega) (.push y5 i0 i1) ?_ ?_ y1 y4⟩
    · refine subT (subT (subT (subT (subT (subT (subT (subT ?_)))))))
      refine List.forall_mem_cons.mpr ⟨.tail _ (.head _), fun p hp => ?_⟩
      exact app3 hp (fun h => (List.mem_cons.mp h).elim (fun e => e ▸ .head _) fun h => .tail _ (.tail _ (in1 h))) (fun h => .tail _ (.tail _ (in2 h))) (fun h => .tail _ (.tail _ (in3 h)))
    · refine sep_snoc (o := oC) (as := [sd, dl, tl, nd, ml, fd, ol, kl]).mpr ⟨sep_sub z1 (List.forall_mem_cons.mpr ⟨.tail _ (.head _), fun p hp => app3 hp (fun h => (List.mem_cons.mp h).elim (fun e => e ▸ .head _) fun h => .tail _ (.tail _ (in1 h))) (fun h => .tail _ (.tail _ (in2 h))) (fun h => .tail _ (.tail _ (in3 h)))⟩), ?_⟩
      · exact offL_cons.mpr ⟨fun e => z3 e.symm, y3⟩
    · refine ⟨fun b hb => ?_, offL_app z8 z6, y2⟩
      obtain ⟨p, hp, rfl⟩ := List.mem_map.mp hb
      exact fun e => z7 p hp e.symm
end
theorem rows_C18c_0 : True := by
  k_with_none
  w_top off
  trivial
def hsD (p : List Int × List Int) : Dat := .list [.list (p.1.map Dat.int), .list (p.2.map Dat.int)]
theorem hsD_ok (hs : List (List Int × List Int)) : kqdOk 8 (Dat.list (hs.map hsD)) = true := by
  simp only [kqdOk, List.all_map, List.all_eq_true]
  intro p _
  simp only [hsD, Function.comp, kqdOk, List.all_cons, List.all_nil, Bool.and_true, Bool.and_eq_true, List.all_map, List.all_eq_true]
  exact ⟨fun _ _ => trivial, fun _ _ => trivial⟩
theorem ints_at_dat {r : Led} {l : Addr} {q : List Int} (h : IntsAt r l q) : DatIn r (.ref l) (.list (q.map Dat.int)) := let ⟨_, _, a, b⟩ := h; DatIn.list a (ints_dat b)
theorem datAll_snoc' {r : Led} {vs : List Value} {ds : List Dat} {v : Value} {d : Dat} (h : DatAll r vs ds) (h2 : DatIn r v d) : DatAll r (vs ++ [v]) (ds ++ [d]) := datAll_push h h2
theorem stk_dat {r news : Led} {kv : List Value} {stk : Led} {hs : List (List Int × List Int)} (h : Stk r kv stk hs) (h1 : ∀ p ∈ stk, p ∈ news) (h2 : ∀ p ∈ r, p ∈ news) : DatAll news kv (hs.map hsD) := by
  induction h with
  | nil => exact .nil
  | push _ a b ih =>
    rw [List.map_append]
    exact datAll_push (ih fun p hp => h1 p (.tail _ hp)) (DatIn.list (h1 _ (.head _)) (.cons ((ints_at_dat a).mono h2) (.cons ((ints_at_dat b).mono h2) .nil)))
theorem stk_ne {prog : Program} {w : World} {A : Around} {E : Value → Shared → Prop} {s : Shared} {h₀ : Heap} {L kl b : Addr} {news stk r : Led} {kv : List Value} {nk n' : Nat} {hs : List (List Int × List Int)} {Q : Value → Shared → Prop} (N : News h₀ L s.heap news)
    (ha : (kl, listOf kv.toArray nk) ∈ news) (hb : (b, listOf [].toArray n') ∈ news) (S : Stk r kv stk hs) {gr : Led} (g1 : ∀ p ∈ stk, p ∈ gr) (g2 : ∀ p ∈ r, p ∈ gr) (g3 : ∀ p ∈ gr, p ∈ news) (hu : A.units + 64 < cLine) (h : ∀ t : Bool, (t = true ↔ hs ≠ []) → Q (.bool t) s) : wpAny (model prog w) A (compareOp .NotEq (.ref kl) (.ref b)) Q E s :=
  dat_ne N (DatIn.list ha (stk_dat S (fun p hp => g3 p (g1 p hp)) fun p hp => g3 p (g2 p hp))) (fun _ h => h) (DatIn.list (ds := []) hb .nil) (fun _ h => h) (hsD_ok _) rfl hu fun t ht => h t (ht.trans (not_congr (by
    constructor
    · intro e; injection e with e; exact List.map_eq_nil_iff.mp e
    · rintro rfl; rfl)))
theorem own_run {own rest rest' : Led} {as : List Addr} (ho : OwnOff own (as ++ rest.map (·.1))) (R : Run (own ++ rest) rest rest') : OwnOff own (as ++ rest'.map (·.1)) := by
  intro q hq b hb
  rcases List.mem_append.mp hb with hb | hb
  · exact ho q hq b (List.mem_append_left _ hb)
  · obtain ⟨p, hp, rfl⟩ := List.mem_map.mp hb
    refine Ne.symm (R.off q (List.mem_append_left _ hq) (fun p' hp' => Ne.symm (ho q hq p'.1 (List.mem_append_right _ (List.mem_map.mpr ⟨p', hp', rfl⟩)))) p hp)
section
variable {prog : Program} {w : World} {A : Around} {E : Value → Shared → Prop} {s : Shared} {env : Env} {h₀ : Heap} {x : Str} {body : List Stmt} {Q : Flow → Shared → Prop}
theorem loop_Z (z : Str) {r : Addr} {a₀ b₀ : Int} {t₀ u₀ v₀ : Tok} {n : Nat} {m₀ : Str → Option Value} {news : Led} (J : Nat → Led → Prop) (hxz : z ≠ x)
    (hh : A.handled = none) (hr : IsRange s.heap r a₀ b₀ 1 t₀ u₀ v₀) (hsmall : Builtin.Range.small a₀ b₀ 1 = true) (hsz : Builtin.Range.rangeSize a₀ b₀ 1 = (n : Int)) (F : Fr h₀ env.locals s.heap m₀) (N : News h₀ env.locals s.heap news) (hj : J 0 news)
    (turn : ∀ i t u nx h tk own, i < n → OwnOff own (nx.map (·.1)) → J i nx → Fr h₀ env.locals h (fun y => if y = x then some (.int (a₀ + (i : Int)) t) else if y = z then u else m₀ y) → News h₀ env.locals h (nx ++ own) →
      wpAny (model prog w) A (execs body env) (InvPostG h₀ env.locals (fun m' nx => (∀ y, y ≠ x → y ≠ z → m' y = m₀ y) ∧ J (i + 1) nx) own { s with heap := h, toks := tk } Q) E { s with heap := h, toks := tk })
    (done : ∀ u v nx h tk, J n nx → Fr h₀ env.locals h (fun y => if y = x then u else if y = z then v else m₀ y) → News h₀ env.locals h nx → Q .next { s with heap := h, toks := tk }) :
    wpAny (model prog w) A (pyIter (.ref r)) (fun it s₂ => LoopAtV prog w A h₀ env x body Q E it s₂) E s := by
  refine loop_R (fun i m nx => (∀ y, y ≠ x → y ≠ z → m y = m₀ y) ∧ J i nx) hh hr hsmall hsz F N ⟨fun _ _ _ => rfl, hj⟩ ?_ ?_
  · intro i t m₁ nx h tk own hi ho hJ F₁ N₁
    have e : (fun y => if y = x then some (Value.int (a₀ + (i : Int)) t) else m₁ y) = fun y => if y = x then some (Value.int (a₀ + (i : Int)) t) else if y = z then m₁ z else m₀ y := by
      funext y
      by_cases hy : y = x
      · rw [if_pos hy, if_pos hy]
      · rw [if_neg hy, if_neg hy]
        by_cases hz : y = z
        · rw [if_pos hz, hz]
        · rw [if_neg hz]; exact hJ.1 y hy hz
    rw [e] at F₁
    exact turn i t _ nx h tk own hi ho hJ.2 F₁ N₁
  · intro m₁ nx h tk hJ F₁ N₁
    have e : m₁ = fun y => if y = x then m₁ x else if y = z then m₁ z else m₀ y := by
      funext y
      by_cases hy : y = x
      · rw [if_pos hy, hy]
      · rw [if_neg hy]
        by_cases hz : y = z
        · rw [if_pos hz, hz]
        · rw [if_neg hz]; exact hJ.1 y hy hz
    rw [e] at F₁
    exact done _ _ nx h tk hJ.2 F₁ N₁
end
theorem news_tl {h₀ h : Heap} {L : Addr} {a : Addr × Obj} {l : Led} (N : News h₀ L h (a :: l)) : News h₀ L h l := fun p hp => N p (.tail _ hp)
theorem doms_ok (a b : Dom) : kqdOk 8 (Dat.list [domD a, domD b]) = true := by
  simp only [kqdOk, domD, List.all_cons, List.all_nil, Bool.and_true, Bool.and_eq_true, List.all_map, List.all_eq_true]
  exact ⟨fun _ _ => rfl, fun _ _ => rfl⟩
theorem two_items {a b v : Value} {i : Nat} (h : ([a, b].toArray)[i]? = some v) : (i = 0 ∧ v = a) ∨ (i = 1 ∧ v = b) := by
  cases i with
  | zero => exact .inl ⟨rfl, by simpa using h.symm⟩
  | succ i =>
    cases i with
    | zero => exact .inr ⟨rfl, by simpa using h.symm⟩
    | succ i => simp at h
/-- the tuple (0, 1) read item by item -/
theorem two_ints {t u : Tok} {v : Value} {i : Nat} (h : ([Value.int 0 t, .int 1 u].toArray)[i]? = some v) : ∃ x t', v = .int x t' ∧ (x = 0 ∨ x = 1) ∧ (∀ {α : Type} (a b : α), [a, b].take (i + 1) = [a, b].take i ++ [sel x a b]) := by
  rcases two_items h with ⟨rfl, rfl⟩ | ⟨rfl, rfl⟩
  · exact ⟨0, t, rfl, .inl rfl, fun _ _ => rfl⟩
  · exact ⟨1, u, rfl, .inr rfl, fun _ _ => rfl⟩
theorem shift2 {h₀ h : Heap} {L : Addr} {a b : Addr × Obj} {NX : Led} (N : News h₀ L h (a :: b :: NX)) : ∃ r0 : Led, a ∈ r0 ∧ (∀ p ∈ NX, p ∈ r0) ∧ (∀ d, a.1 ≠ d → OffL NX d → OffL r0 d) ∧ News h₀ L h (b :: r0) :=
  ⟨a :: NX, .head _, fun _ hp => .tail _ hp, fun _ h1 h2 => offL_cons.mpr ⟨h1, h2⟩, News.swap N⟩
def CutHere : Prop := True
abbrev frM {h₀ : Heap} {L : Addr} {h : Heap} {m : Str → Option Value} (_ : Fr h₀ L h m) : Str → Option Value := m
/-- a deed is done, in the midst of a lap -/
def Mid (h₀ : Heap) (L : Addr) (m : Str → Option Value) (J : Led → Prop) (s : Shared) (fl : Flow) (s' : Shared) : Prop := fl = .next ∧ ∃ h tk nx, s' = { s with heap := h, toks := tk } ∧ Fr h₀ L h m ∧ News h₀ L h nx ∧ J nx
theorem datIn_dom {r : Led} {v : Value} {d : Dom} (h : DatIn r v (domD d)) : ∃ a, v = .ref a := by
  cases h with
  | tuple _ _ => exact ⟨_, rfl⟩
theorem rows_C18c_1 : True := by
  k_with "LT9" => (first | (with_reducible assumption) | (refine' ltM ?lt1 ?lt2; (case lt1 => (with_reducible assumption)); (case lt2 => (repeat (first | exact List.Mem.head _ | refine List.Mem.tail _ ?_)); done)) | (refine' ltT ?lt0 ?lt1 ?lt2; (case lt0 => (with_reducible assumption)); (case lt1 => (with_reducible assumption)); (case lt2 => (repeat (first | exact List.Mem.head _ | refine List.Mem.tail _ ?_)); done)) | fail "LT9")
  k_with "k_ne" => (first | (with_reducible assumption) | (refine' Ne.symm ?ne1; (case ne1 => (with_reducible assumption))) | (refine neG ?_; walk_at "LT9") | (refine neL ?_; walk_at "LT9") | (refine neS ?_; walk_at "LT9") | (refine neT ?_; walk_at "LT9") | (refine neS2 ?_; walk_at "LT9") | (refine neT2 ?_; walk_at "LT9") | (refine neS3 ?_; walk_at "LT9") | (refine neT3 ?_; walk_at "LT9") | (refine' neM (l := _ :: _) ?lt1 ?lt2; (case lt1 => (with_reducible assumption)); (case lt2 => (repeat (first | exact List.Mem.head _ | refine List.Mem.tail _ ?_)); done)) | (refine' neN (l := _ :: _) ?lt1 ?lt2; (case lt1 => (with_reducible assumption)); (case lt2 => (repeat (first | exact List.Mem.head _ | refine List.Mem.tail _ ?_)); done)) | exact nc12 | exact nc21 | exact nc13 | exact nc31 | exact nc23 | exact nc32 | fail "k_ne")
  k_with "ktr_room" => (first | (rename (_ + _ < recursionLimit) => zzh9; first | exact rmU 0 zzh9 rfl rfl | exact rmU 1 zzh9 rfl rfl | exact rmU 2 zzh9 rfl rfl | exact rmU 3 zzh9 rfl rfl | exact rmU 4 zzh9 rfl rfl | exact rmU 5 zzh9 rfl rfl | exact rmU 6 zzh9 rfl rfl | exact rmU 7 zzh9 rfl rfl | exact rmU 8 zzh9 rfl rfl | exact rmU 9 zzh9 rfl rfl) | exact ltB rfl)
  k_with "ktr_units" => (first | (rename (_ + _ + _ < cLine) => zzh9; first | exact umU 0 zzh9 rfl rfl | exact umU 3 zzh9 rfl rfl | exact umU 6 zzh9 rfl rfl | exact umU 9 zzh9 rfl rfl | exact umU 12 zzh9 rfl rfl | exact umU 1 zzh9 rfl rfl | exact umU 4 zzh9 rfl rfl | exact umU 7 zzh9 rfl rfl | exact umU 10 zzh9 rfl rfl | exact umU 2 zzh9 rfl rfl | exact umU 5 zzh9 rfl rfl | exact umU 8 zzh9 rfl rfl | exact umU 11 zzh9 rfl rfl | exact umU 13 zzh9 rfl rfl | exact umU 14 zzh9 rfl rfl | exact umU 15 zzh9 rfl rfl | exact umV 0 zzh9 rfl rfl | exact umV 3 zzh9 rfl rfl | exact umV 6 zzh9 rfl rfl | exact umV 9 zzh9 rfl rfl | exact umV 12 zzh9 rfl rfl | exact umV 1 zzh9 rfl rfl | exact umV 4 zzh9 rfl rfl | exact umV 7 zzh9 rfl rfl | exact umV 10 zzh9 rfl rfl | exact umV 2 zzh9 rfl rfl | exact umV 5 zzh9 rfl rfl | exact umV 8 zzh9 rfl rfl | exact umV 11 zzh9 rfl rfl | exact umV 13 zzh9 rfl rfl | exact umV 14 zzh9 rfl rfl | exact umV 15 zzh9 rfl rfl) | exact ltB rfl)
  k_with "OM" => (first | (with_reducible assumption) | exact Nat.zero_le _ | (refine' leB ?om1 ?om2; (case om1 => (with_reducible assumption)); (case om2 => (fail_if_success (fail_if_success decide)); exact rfl)) | (refine' leS ?om1 ?om2; (case om1 => (with_reducible assumption)); (case om2 => (fail_if_success (fail_if_success decide)); exact rfl)) | (with_reducible refine' ltL ?om1 ?om2; (case om1 => (with_reducible assumption)); (case om2 => (fail_if_success (fail_if_success decide)); exact rfl)) | ((fail_if_success (fail_if_success decide)); exact ltB rfl) | (refine' i0_1 ?om1; (case om1 => (with_reducible assumption))) | (refine' i0_2 ?om1; (case om1 => (with_reducible assumption))) | (refine' i0_3 ?om1; (case om1 => (with_reducible assumption))) | (refine' il_0 ?om1 ?om2; (case om1 => (with_reducible assumption)); (case om2 => decide)) | (refine' il_1 ?om1 ?om2; (case om1 => (with_reducible assumption)); (case om2 => decide)) | (refine' il_2 ?om1 ?om2; (case om1 => (with_reducible assumption)); (case om2 => decide)) | (refine' il_3 ?om1 ?om2; (case om1 => (with_reducible assumption)); (case om2 => decide)) | exact ia_3 | exact ia_5 | exact ic_0 | decide | omega)
  k_with "k_all" => (first
  | (with_reducible assumption)
  | (refine' OffL.out ?ko1; (case ko1 => (with_reducible assumption)))
  | (refine' offA ?ko1; (case ko1 => (with_reducible assumption)))
  | (refine' TailIs.offAtL ?ko1 ?ko2 ?ko3; (case ko1 => (with_reducible assumption)); (case ko2 => (with_reducible assumption)); (case ko3 => (with_reducible assumption)))
  | (refine' offC ?ka1 ?ka2; (case ka1 => first | (refine' Apart.l ?kp1; (case kp1 => (with_reducible assumption))) | (refine' Apart.r ?kp1; (case kp1 => (with_reducible assumption))) | k_ne); (case ka2 => k_all))
  | assumption)
  k_with "k_upd" => (first | (refine' Upd.head ?ku1; (case ku1 => k_all)) | (refine' Upd.tail ?ku1 ?ku2; (case ku1 => first | (refine' Apart.l ?kp1; (case kp1 => (with_reducible assumption))) | (refine' Apart.r ?kp1; (case kp1 => (with_reducible assumption))) | k_ne); (case ku2 => k_upd)) | fail "k_upd")
  k_with "k_updF" => (first | (refine' Pull.head ?kf1; (case kf1 => k_all)) | (refine' Pull.tail ?_ ?kf2; (case kf2 => k_updF); (first | (refine' Apart.l ?kp1; (case kp1 => (with_reducible assumption))) | (refine' Apart.r ?kp1; (case kp1 => (with_reducible assumption))) | k_ne)) | (refine' UpdF.head ?kf1; (case kf1 => k_all)) | (refine' UpdF.tail ?_ ?kf2; (case kf2 => k_updF); (first | (refine' Apart.l ?kp1; (case kp1 => (with_reducible assumption))) | (refine' Apart.r ?kp1; (case kp1 => (with_reducible assumption))) | k_ne)) | fail "k_updF")
  k_with "k_mem" => (first | (refine mem_of ?_; (with_reducible assumption)) | (refine mem_of ?_; refine' TailIs.sub ?km1 _ ?km2; (case km1 => first | (refine' TailIs.rebase ?tr1; (case tr1 => (with_reducible assumption))) | (refine' TailIs.at ?tr1 _; (case tr1 => (with_reducible assumption)))); (case km2 => (with_reducible assumption))) | fail "k_mem")
  k_with "call builtin:len" => ((k_here; (with_reducible show wpAny _ _ (call (Value.builtin "len") [Value.ref _]) _ _ _); k_dflt (refine' len_ints_fit (News.isList ?n ?m) ?i ?f ?_; (case n => k_asm); (case m => k_mem); (case i => (with_reducible assumption)); (case f => k_extra "OM"); k_whole)))
  k_with "subscriptTail Name Name ref int" => ((k_here; (with_reducible show wpAny _ _ (subscriptTail _ _ (Value.ref _) (Value.int _ _)) _ _ _); (with_unfolding_all refine' item_list_ints (News.isList ?n ?m) ?k2 ?k3 ?k4 ?k5 ?_; (case n => k_asm); (case m => k_mem); (case k2 => (with_reducible assumption)); (case k3 => k_extra "OM"); (case k4 => k_extra "OM"); (case k5 => k_extra "OM"); k_whole); intro _))
  k_with "k_enter" => (first
  | (refine' code_def ?k1 ?k2 ?k3 ?k4 ?k5 ?kA ?kF ?kK ?k6 ?k7 ?k8 ?k9 ?kB ?_ ?c2 ?c3 ?c4 ?c5; (case kA => exact rfl); (case kF => exact rfl); (case kK => first | exact rfl | (with_reducible assumption)); (case k1 => k_asm); (case k2 => k_asm); (case k3 => k_asm); (case k4 => k_asm); (case k5 => k_asm); (case k6 => k_is); (case k7 => k_is); (case k8 => ktr_room); (case k9 => first | exact BindsTo.of_eq rfl | exact binds_K (by k_in) rfl (by k_is) rfl rfl rfl | fail "k_enter: no rule for these arguments"); (case c5 => decide); (case kB => exact locs rfl); (case c2 => exact rfl); (case c3 => exact rfl); (case c4 => exact rfl); k_whole; intro _ _ _ _ _ zzN' _ _ _; (try dsimp only); (try k_fold))
  | (refine' code_defC ?k1 ?k2 ?k3 ?k4 ?k5 ?kA ?kF ?kK ?k6 ?k7 ?k8 ?k9 ?kB ?kD ?_ ?c2 ?c3 ?c4; (case kA => exact rfl); (case kF => exact rfl); (case kK => first | exact rfl | (with_reducible assumption)); (case k1 => k_asm); (case k2 => k_asm); (case k3 => k_asm); (case k4 => k_asm); (case k5 => k_asm); (case k6 => k_is); (case k7 => k_is); (case k8 => ktr_room); (case k9 => first | exact BindsTo.of_eq rfl | exact binds_K (by k_in) rfl (by k_is) rfl rfl rfl | fail "k_enter: no rule for these arguments"); (case kB => exact rfl); (case kD => decide +kernel); (case c2 => exact rfl); (case c3 => exact rfl); (case c4 => exact rfl); k_whole; intro _ _ _ _ _ _ _ zzN' zzY' _ _ _ zzl1; revert zzl1; intro _; (have _ := Mk9.mk); k_cells zzY'; (try (simp only [List.cons_append, List.nil_append] at zzN'; revert zzN'; intro _)); (try dsimp only); (try k_fold)))
  k_with "call type:tuple" => ((k_here; (with_reducible show wpAny _ _ (call (Value.type _) [Value.ref _]) _ _ _); k_dflt (refine' kde_tupleOf ?k1 ?k2 (News.isList ?k3 ?k6) ?k4 ?k5 ?_; (case k1 => k_asm); (case k2 => k_asm); (case k3 => k_asm); (case k6 => k_mem); (case k4 => (simp only [List.size_toArray]; k_extra "OM")); (case k5 => exact rfl); k_whole); intro _ _ _ _ zzl1; revert zzl1; intro _; (have _ := Mk9.mk); (try k_sweep)))
  k_with "tb_rel" => (first | (refine' TailIs.rebase ?tr1; (case tr1 => (with_reducible assumption))) | (refine' TailIs.at ?tr1 _; (case tr1 => (with_reducible assumption))) | (refine' TailIs.moveT ?tb1; (case tb1 => tb_rel)) | (refine' TailIs.cons ?tb1; (case tb1 => tb_rel)) | exact TailIs.nil)
  trivial
-- every old address stands in the ledger
theorem rows_C18c_2 : True := by
  k_with "kcf_m" => (first
  | (refine' covC ?kc1 ?kc2; (case kc1 => k_mem); (case kc2 => kcf_m))
  | exact List.forall_mem_nil _
  | (intro zzq9 zzhq9; refine ⟨Prod.snd zzq9, ?_⟩; repeat (first | exact zzhq9 | (refine' TailIs.coverAt ?tc1 (Run.sub ?tc2) zzq9 zzhq9; (case tc1 => (with_reducible assumption)); (case tc2 => (with_reducible assumption))) | refine List.mem_cons_of_mem _ ?_)))
  trivial
-- what is made here is none of the old
theorem rows_C18c_3 : True := by
  k_with "kcf_all" => ((intro zzq9 zzhq9 zzho9; repeat (first | exact zzho9 | refine List.forall_mem_cons.mpr ⟨tmp_ne (by (with_reducible assumption)) (by kcf_m) zzq9 zzhq9, ?_⟩)))
  k_with "tb_start" => ((
  (rename Grow _ _ _ _ => zzG9)
  (have zzgB9 := Grow.base zzG9)
  (repeat (rename Run _ _ (Grow.R zzG9) => zzR9; have _ := Run.step zzR9 zzG9 (by kcf_m) (by kcf_all); clear zzR9))
  (repeat (rename DatIn (Grow.R zzG9) _ _ => zzhX9; have _ := DatIn.mono zzgB9 zzhX9; clear zzhX9))
  (repeat (rename DatAll (Grow.R zzG9) _ _ => zzhX9; have _ := DatAll.mono zzgB9 zzhX9; clear zzhX9))
  (repeat (rename IntsAt (Grow.R zzG9) _ _ => zzhX9; have _ := IntsAt.mono zzhX9 zzgB9; clear zzhX9))
  (repeat (rename (_ ∈ Grow.R zzG9) => zzhX9; have _ := zzgB9 _ zzhX9; clear zzhX9))
  (repeat (rename OffL (Grow.R zzG9) _ => zzhX9; have _ := Grow.offL zzG9 zzhX9 ⟨_, by k_mem⟩ (by k_all); clear zzhX9))
  (have zzhS9 := Grow.sub zzG9; (first | refine fd_6 zzhS9 ?_ | refine fd_5 zzhS9 ?_ | refine fd_4 zzhS9 ?_ | refine fd_3 zzhS9 ?_ | refine fd_2 zzhS9 ?_ | refine fd_1 zzhS9 ?_ | refine fd_0 zzhS9 ?_); clear zzhS9)
  clear zzgB9 zzG9
  intros))
  k_with "kqd_in" => (first | (refine' DatIn.mono ?kd1 ?kd2; (case kd2 => first | (with_reducible assumption) | assumption); (case kd1 => (intro _ zzhp9; repeat (first | exact zzhp9 | (refine' TailIs.sub ?kd3 _ zzhp9; (case kd3 => first | (refine' TailIs.rebase ?tr1; (case tr1 => (with_reducible assumption))) | (refine' TailIs.at ?tr1 _; (case tr1 => (with_reducible assumption))))) | refine List.mem_cons_of_mem _ ?_)))) | fail "kqd_in")
  k_with "kqd_all" => (first | (refine' DatAll.mono ?kd1 ?kd2; (case kd2 => first | (with_reducible assumption) | assumption); (case kd1 => (intro _ zzhp9; repeat (first | exact zzhp9 | (refine' TailIs.sub ?kd3 _ zzhp9; (case kd3 => first | (refine' TailIs.rebase ?tr1; (case tr1 => (with_reducible assumption))) | (refine' TailIs.at ?tr1 _; (case tr1 => (with_reducible assumption))))) | refine List.mem_cons_of_mem _ ?_)))) | fail "kqd_all")
  k_with "compareOp Eq ref ref" => ((k_here; (with_reducible show wpAny _ _ (compareOp CmpOp.Eq (Value.ref _) (Value.ref _)) _ _ _); k_dflt (refine' dat_eq ?n9 ?da (fun _ h => h) ?db (fun _ h => h) ?oa ?ob ?u9 ?_; (case n9 => k_asm); (case da => kqd_in); (case db => kqd_in); (case oa => first | exact domD_ok _ | rfl | (with_reducible assumption)); (case ob => first | exact domD_ok _ | rfl | (with_reducible assumption)); (case u9 => ktr_units); intro _ _)))
  k_with "compareOp NotEq ref ref" => ((k_here; (with_reducible show wpAny _ _ (compareOp CmpOp.NotEq (Value.ref _) (Value.ref _)) _ _ _); k_dflt (refine' dat_ne ?n9 ?da (fun _ h => h) ?db (fun _ h => h) ?oa ?ob ?u9 ?_; (case n9 => k_asm); (case da => kqd_in); (case db => kqd_in); (case oa => first | exact domD_ok _ | rfl | (with_reducible assumption)); (case ob => first | exact domD_ok _ | rfl | (with_reducible assumption)); (case u9 => ktr_units); intro _ _)))
  k_with "call builtin:list.append" => ((k_here; (with_reducible show wpAny _ _ (call (Value.builtin _) [Value.ref _, _]) _ _ _); k_dflt (refine' append_L ?k1 ?k2 ?k3 ?z ?_; (case k1 => k_asm); (case k2 => k_asm); (case k3 => k_upd); (case z => first | k_extra "OM" | ((simp only [List.length_cons, List.length_nil, List.length_append]); k_extra "OM")); k_whole); intro _ _ _; (try k_sweep)))
  k_with "call builtin:min" => ((k_here; (with_reducible show wpAny _ _ (call (Value.builtin _) [Value.ref _]) _ _ _); k_dflt ((refine' min_L ?f9 ?n9 ?m9 ?i9 ?z9 ?h9 ?_; (case f9 => k_asm); (case n9 => k_asm); (case m9 => k_mem); (case i9 => (with_reducible assumption)); (case z9 => first | k_extra "OM" | (simp_all; k_extra "OM")); (case h9 => with_unfolding_all rfl)); intro _ _ _ _ _)))
  k_with "call builtin:max" => ((k_here; (with_reducible show wpAny _ _ (call (Value.builtin _) [Value.ref _]) _ _ _); k_dflt ((refine' max_L ?f9 ?n9 ?m9 ?i9 ?z9 ?h9 ?_; (case f9 => k_asm); (case n9 => k_asm); (case m9 => k_mem); (case i9 => (with_reducible assumption)); (case z9 => first | k_extra "OM" | (simp_all; k_extra "OM")); (case h9 => with_unfolding_all rfl)); intro _ _ _ _ _)))
  k_with "ktr_rel" => (((case n9 => k_asm); (case b9 => k_asm); (case f9 => k_asm); (case x9 => k_asm); (case t9 => k_asm); (case k9 => first | exact rfl | (with_reducible assumption)); (case d9 => ktr_room); (case u9 => ktr_units)))
  trivial
theorem rows_C18c_4 : True := by
  k_with "kcf_m" => ((intro zzq9 zzhq9; refine ⟨Prod.snd zzq9, ?_⟩; (repeat (first | exact zzhq9 | exact List.mem_append_left _ zzhq9 | (refine' TailIs.coverAt ?tc1 (Run.sub ?tc2) zzq9 zzhq9; (case tc1 => (with_reducible assumption)); (case tc2 => (with_reducible assumption))) | refine List.mem_cons_of_mem _ ?_ | refine List.mem_append_right _ ?_)); done))
  k_with "call builtin:len" => ((k_here; (with_reducible show wpAny _ _ (call (Value.builtin "len") [Value.ref _]) _ _ _); k_dflt (refine' len_L ?n9 ?m9 ?z9 ?_; (case n9 => k_asm); (case m9 => k_mem); (case z9 => (first | k_extra "OM" | ((simp only [List.length_append, List.length_cons, List.length_nil]); k_extra "OM"))); k_whole)))
  k_with "exec Assign cons ListComp" => ((k_here; (with_reducible show wpAny _ _ (exec _ _) _ _ _); refine Stop.intro ?_))
  k_with "eval ListComp" => ((k_here; (with_reducible show wpAny _ _ (eval (Expr.ListComp _ _ _ _) _) _ _ _); refine Stop.intro ?_))
  k_with "CompSrcT" => ((k_here; refine Stop.intro ?_))
  k_with "CompSrc" => ((k_here; refine Stop.intro ?_))
  k_with "CompEnd" => ((refine Stop.intro ?_))
  k_with "kqd_sub" => (first | (refine List.forall_mem_cons.mpr ⟨?kqa, ?kqb⟩; (case kqa => k_mem); (case kqb => kqd_sub)) | (intro _ zzhq9; (repeat (first | exact zzhq9 | refine List.mem_cons_of_mem _ ?_)); done))
  trivial
-- what a comparison has answered
theorem rows_C18c_5 : True := by
  k_with "ANSWER" => (((rename Bool => zzt9); (rename (zzt9 = true ↔ _) => zzht9); (first | (have zze9 := zzht9.mpr (by first | rfl | (with_reducible assumption)); subst zze9) | (have zze9 := bool_no zzht9 (by first | (with_reducible assumption) | (intro zzh9; exact zzh9 rfl) | (intro zzh9; exact zzh9 (by (with_reducible assumption)))); subst zze9) | skip)))
  k_with "compareOp Eq ref ref" => ((k_here; (with_reducible show wpAny _ _ (compareOp CmpOp.Eq (Value.ref _) (Value.ref _)) _ _ _); k_dflt (refine' dat_eq ?n9 ?da (fun _ h => h) ?db (fun _ h => h) ?oa ?ob ?u9 ?_; (case n9 => k_asm); (case da => kqd_in); (case db => kqd_in); (case oa => first | exact domD_ok _ | rfl | (with_reducible assumption)); (case ob => first | exact domD_ok _ | rfl | (with_reducible assumption)); (case u9 => ktr_units); intro _ _; walk_at "ANSWER")))
  k_with "compareOp NotEq ref ref" => ((k_here; (with_reducible show wpAny _ _ (compareOp CmpOp.NotEq (Value.ref _) (Value.ref _)) _ _ _); k_dflt (refine' dat_ne ?n9 ?da (fun _ h => h) ?db (fun _ h => h) ?oa ?ob ?u9 ?_; (case n9 => k_asm); (case da => kqd_in); (case db => kqd_in); (case oa => first | exact domD_ok _ | rfl | (with_reducible assumption)); (case ob => first | exact domD_ok _ | rfl | (with_reducible assumption)); (case u9 => ktr_units); intro _ _; walk_at "ANSWER")))
  k_with "compareOp NotEq ref ref" => ((k_here; (with_reducible show wpAny _ _ (compareOp CmpOp.NotEq (Value.ref _) (Value.ref _)) _ _ _); k_dflt (refine' ints_ne ?n9 ?a9 ?i9 ?b9 ?j9 ?u9 ?_; (case n9 => k_asm); (case a9 => k_mem); (case b9 => k_mem); (case i9 => first | (with_reducible assumption) | exact IntsAre.nil); (case j9 => first | (with_reducible assumption) | exact IntsAre.nil); (case u9 => ktr_units); intro _ _; walk_at "ANSWER")))
  k_with "compareOp Eq ref ref" => ((k_here; (with_reducible show wpAny _ _ (compareOp CmpOp.Eq (Value.ref _) (Value.ref _)) _ _ _); k_dflt (refine' ints_eq ?n9 ?a9 ?i9 ?b9 ?j9 ?u9 ?_; (case n9 => k_asm); (case a9 => k_mem); (case b9 => k_mem); (case i9 => first | (with_reducible assumption) | exact IntsAre.nil); (case j9 => first | (with_reducible assumption) | exact IntsAre.nil); (case u9 => ktr_units); intro _ _; walk_at "ANSWER")))
  k_with "TAILFOR" => (first | (refine' TailFor.rebase ?tf1; (case tf1 => (with_reducible assumption))) | (refine' TailFor.at ?tf1 _; (case tf1 => (with_reducible assumption))) | (refine' TailFor.moveT ?tl9; (case tl9 => walk_at "TAILFOR")) | (refine' TailFor.moveA ?tl9; (case tl9 => walk_at "TAILFOR")) | (refine' TailFor.cons ?tl9; (case tl9 => walk_at "TAILFOR")) | exact TailFor.nil | (refine' TailFor.pre ?tl9; (case tl9 => walk_at "TAILFOR")))
  k_with "call ref" => ((k_here; (with_reducible show wpAny _ _ (call (Value.ref 42) _) _ _ _); k_dflt (first | ((refine' Call.cps (fromValues_f ?ti ?m9 ?i9 ?ln ?as) t_gD ?b9 ?f9 ?x9 ?t9 ?k9 ?d9 ?u9 ?n9 ?_; ktr_rel; (case ti => walk_at "TAILFOR"); (case m9 => k_mem); (case i9 => (with_reducible assumption)); (case ln => first | k_extra "OM" | (with_reducible assumption)); (case as => (with_reducible assumption))); intro _ _ _ _ _ _ _ zzN9; (try dsimp only at zzN9); tb_start) | (fail_if_success skip) | refine Stop.intro ?_)))
  k_with "call ref" => ((k_here; (with_reducible show wpAny _ _ (call (Value.ref 283) _) _ _ _); k_dflt (first | ((refine' Call.cps (bars_c ?m9) t_bool ?b9 ?f9 ?x9 ?t9 ?k9 ?d9 ?u9 ?n9 ?_; ktr_rel; (case m9 => k_mem)); intro _ _ _ _ _ _) | refine Stop.intro ?_)))
  k_with "setItem ref int ref" => ((k_here; (with_reducible show wpAny _ _ (setItem (Value.ref _) (Value.int _ _) (Value.ref _)) _ _ _); k_dflt (refine' set_sel ?f9 ?n9 ?x9 ?u9 ?_; (case f9 => k_asm); (case n9 => k_asm); (case x9 => (with_reducible assumption)); (case u9 => k_upd); k_whole; intro _ _ _)))
  k_with "kcf_all" => ((intro zzq9 zzhq9 zzho9; repeat (first | exact zzho9 | refine List.forall_mem_cons.mpr ⟨tmp_ne (by (with_reducible assumption)) (by kcf_m) zzq9 zzhq9, ?_⟩ | refine List.forall_mem_cons.mpr ⟨tmp_off (by (with_reducible assumption)) (by kcf_m) zzq9 zzhq9, ?_⟩)))
  k_with "subscriptTail Attribute Name Name ref int" => ((k_here; (with_reducible show wpAny _ _ (subscriptTail _ _ (Value.ref _) (Value.int _ _)) _ _ _); k_dflt (refine' item_sel ?n9 ?m9 ?x9 ?_ ?s9; (case n9 => k_asm); (case x9 => (with_reducible assumption)); (case m9 => k_mem); (case s9 => with_unfolding_all rfl); k_whole)))
  k_with "subscriptTail Name Name ref int" => ((k_here; (with_reducible show wpAny _ _ (subscriptTail _ _ (Value.ref _) (Value.int _ _)) _ _ _); k_dflt (refine' item_sel ?n9 ?m9 ?x9 ?_ ?s9; (case n9 => k_asm); (case x9 => (with_reducible assumption)); (case m9 => k_mem); (case s9 => with_unfolding_all rfl); k_whole)))
  k_with "subscriptTail Attribute Name Constant ref int" => ((k_here; (with_reducible show wpAny _ _ (subscriptTail _ _ (Value.ref _) (Value.int (OfNat.ofNat _) _)) _ _ _); k_dflt (refine' item_tup ?n9 ?m9 ?x9 ?y9 ?z9 ?_ ?s9; (case n9 => k_asm); (case m9 => k_mem); (case x9 => rfl); (case y9 => decide); (case z9 => decide); (case s9 => with_unfolding_all rfl); k_whole)))
  k_with "subscriptTail Subscript Attribute Constant Constant ref int" => ((k_here; (with_reducible show wpAny _ _ (subscriptTail _ _ (Value.ref _) (Value.int (OfNat.ofNat _) _)) _ _ _); k_dflt (refine' item_tup ?n9 ?m9 ?x9 ?y9 ?z9 ?_ ?s9; (case n9 => k_asm); (case m9 => k_mem); (case x9 => rfl); (case y9 => decide); (case z9 => decide); (case s9 => with_unfolding_all rfl); k_whole)))
  k_with "subscriptTail Name Constant ref int" => ((k_here; (with_reducible show wpAny _ _ (subscriptTail _ _ (Value.ref _) (Value.int (OfNat.ofNat _) _)) _ _ _); k_dflt (refine' item_tup ?n9 ?m9 ?x9 ?y9 ?z9 ?_ ?s9; (case n9 => k_asm); (case m9 => k_mem); (case x9 => rfl); (case y9 => decide); (case z9 => decide); (case s9 => with_unfolding_all rfl); k_whole)))
  trivial
theorem pop_0 {w : World} {si : Addr} {tn : Tok} {news : Led} : Call w 4 248 [.ref si, .int 0 tn] news (fun r nw => r = .none ∧ nw = news) := by
  intro p loose mean mg mb dp un gd cn cs a ccd cl outer A₀ base h₀ L m s Q E B F X T hk hd hu N hret
  revert X; k_fill; intro X
  w_strict (
    refine wpAny_call ?_
    k_dflt k_enter
    k_steps
    (rename Fr _ _ _ _ => F9; rename News _ _ _ _ => N9)
    exact hret _ _ _ _ F9 N9 ⟨rfl, rfl⟩)
theorem popAll_c {w : World} {K : Sk} {si sd dl fl tl ml nd a0 a1 ca f0 f1 l0 l1 : Addr} {no : Obj} {sp : Int} {st : Tok} {n1 n2 nf nm : Nat} {tv mv : List Value} {ms q0 q1 g0 g1 : List Int} {hs : List (List Int × List Int)} {tr : List Ent} {n : Nat} {tn : Tok} {news pl1 pl2 pl3 others r0 rest : Led} {g : Led → Led}
  (P1 : Pull sd (sdO w K dl fl tl ml nd sp st false ca) news pl1) (P2 : Pull dl (listOf [Value.ref a0, .ref a1].toArray n1) pl1 pl2) (P3 : Pull tl (listOf tv.toArray n2) pl2 pl3) (P4 : Pull ml (listOf mv.toArray nm) pl3 others)
  (TI : TailIs others r0 rest g) (hsi : (si, instObj 265 sd) ∈ rest) (S : StF w rest a0 a1 tv mv no l0 l1 tr ms q0 q1) (H : Hist g0 g1 tr ms hs q0 q1)
  (hfl : (fl, listOf [Value.ref f0, .ref f1].toArray nf) ∈ rest) (Df0 : DatIn rest (.ref f0) (domD (ivs g0))) (Df1 : DatIn rest (.ref f1) (domD (ivs g1))) (hlen : hs.length ≤ 20) (hn : n = hs.length) :
  Call w 4 248 [.ref si, .int (n : Int) tn] news (fun r nw => r = .none ∧ ∃ ca' b0 b1 m1 ml' nd' rest', (∀ p ∈ (sd, sdO w K dl fl tl ml' nd' sp st false ca') :: (dl, listOf [Value.ref b0, .ref b1].toArray m1) :: rest', p ∈ nw) ∧ (∀ p ∈ rest, p ∈ rest') ∧ DatIn rest' (.ref b0) (domD (ivs g0)) ∧ DatIn rest' (.ref b1) (domD (ivs g1))) := by
  obtain ⟨D0, D1, Dt, hno, im, i0, i1⟩ := S
  obtain ⟨z1, z2, z3, G0, G1, z4, z5, z6, z7⟩ := H.facts
  subst hn
  rcases Classical.em (hs = []) with hz | hz
  · obtain ⟨rfl, rfl, rfl⟩ := z6 hz
    subst hz
    refine Call.mono (pop_0 (si := si)) (Nat.le_refl _) fun r nw hp => ?_
    obtain ⟨rfl, rfl⟩ := hp
    refine ⟨rfl, ca, a0, a1, n1, ml, nd, rest, fun p hp => ?_, fun _ h => h, D0, D1⟩
    rcases List.mem_cons.mp hp with e | hp
    · exact e ▸ P1.mem
    refine P1.sub p (.tail _ ?_)
    rcases List.mem_cons.mp hp with e | hp
    · exact e ▸ P2.mem
    exact P2.sub p (.tail _ (P3.sub p (.tail _ (P4.sub p (.tail _ (TI.sub p hp))))))
  · have hp : 0 < hs.length := List.length_pos_iff.mpr hz
    have hm0 : ms[ms.length - hs.length]? = some ((0 : Nat) : Int) := by
      rw [z1, Nat.sub_self]
      cases ms with
      | nil => simp at z1; omega
      | cons a ms => rw [show a = 0 from z7 a rfl]; rfl
    refine Call.mono (pop_c (n := hs.length) (mk := 0) P1 P2 P3 P4 TI hsi D0 D1 Dt z3 hfl Df0 Df1 H.base.1.ivs H.base.2.ivs im (by omega) (by omega) hp (by omega) hm0 (Nat.zero_le _)) (Nat.le_refl _) fun r nw hq => ?_
    obtain ⟨ca', b0, b1, m1, m2, m3, ml', nd', no', mv', rest', rfl, rfl, G, _, _, E0, E1, _⟩ := hq
    rw [List.drop_zero, z4] at E0
    rw [List.drop_zero, z5] at E1
    refine ⟨rfl, ca', b0, b1, m1, ml', nd', rest', fun p hp => ?_, G.sub, E0, E1⟩
    rcases List.mem_cons.mp hp with e | hp
    · exact e ▸ .head _
    rcases List.mem_cons.mp hp with e | hp
    · exact e ▸ .tail _ (.head _)
    obtain ⟨ex, he, _⟩ := TI.split
    rw [he]
    exact .tail _ (.tail _ (.tail _ (.tail _ (.tail _ (List.mem_append_right _ hp)))))
theorem rows_C19_0 : True := by
  k_with_none
  w_top off
  trivial
theorem rows_C19_1 : True := by
  k_with "LT9" => (first | (with_reducible assumption) | (refine' ltM ?lt1 ?lt2; (case lt1 => (with_reducible assumption)); (case lt2 => (repeat (first | exact List.Mem.head _ | refine List.Mem.tail _ ?_)); done)) | (refine' ltT ?lt0 ?lt1 ?lt2; (case lt0 => (with_reducible assumption)); (case lt1 => (with_reducible assumption)); (case lt2 => (repeat (first | exact List.Mem.head _ | refine List.Mem.tail _ ?_)); done)) | fail "LT9")
  k_with "k_ne" => (first | (with_reducible assumption) | (refine' Ne.symm ?ne1; (case ne1 => (with_reducible assumption))) | (refine neG ?_; walk_at "LT9") | (refine neL ?_; walk_at "LT9") | (refine neS ?_; walk_at "LT9") | (refine neT ?_; walk_at "LT9") | (refine neS2 ?_; walk_at "LT9") | (refine neT2 ?_; walk_at "LT9") | (refine neS3 ?_; walk_at "LT9") | (refine neT3 ?_; walk_at "LT9") | (refine' neM (l := _ :: _) ?lt1 ?lt2; (case lt1 => (with_reducible assumption)); (case lt2 => (repeat (first | exact List.Mem.head _ | refine List.Mem.tail _ ?_)); done)) | (refine' neN (l := _ :: _) ?lt1 ?lt2; (case lt1 => (with_reducible assumption)); (case lt2 => (repeat (first | exact List.Mem.head _ | refine List.Mem.tail _ ?_)); done)) | exact nc12 | exact nc21 | exact nc13 | exact nc31 | exact nc23 | exact nc32 | fail "k_ne")
  k_with "ktr_room" => (first | (rename (_ + _ < recursionLimit) => zzh9; first | exact rmU 0 zzh9 rfl rfl | exact rmU 1 zzh9 rfl rfl | exact rmU 2 zzh9 rfl rfl | exact rmU 3 zzh9 rfl rfl | exact rmU 4 zzh9 rfl rfl | exact rmU 5 zzh9 rfl rfl | exact rmU 6 zzh9 rfl rfl | exact rmU 7 zzh9 rfl rfl | exact rmU 8 zzh9 rfl rfl | exact rmU 9 zzh9 rfl rfl) | exact ltB rfl)
  k_with "ktr_units" => (first | (rename (_ + _ + _ < cLine) => zzh9; first | exact umU 0 zzh9 rfl rfl | exact umU 3 zzh9 rfl rfl | exact umU 6 zzh9 rfl rfl | exact umU 9 zzh9 rfl rfl | exact umU 12 zzh9 rfl rfl | exact umU 1 zzh9 rfl rfl | exact umU 4 zzh9 rfl rfl | exact umU 7 zzh9 rfl rfl | exact umU 10 zzh9 rfl rfl | exact umU 2 zzh9 rfl rfl | exact umU 5 zzh9 rfl rfl | exact umU 8 zzh9 rfl rfl | exact umU 11 zzh9 rfl rfl | exact umU 13 zzh9 rfl rfl | exact umU 14 zzh9 rfl rfl | exact umU 15 zzh9 rfl rfl | exact umV 0 zzh9 rfl rfl | exact umV 3 zzh9 rfl rfl | exact umV 6 zzh9 rfl rfl | exact umV 9 zzh9 rfl rfl | exact umV 12 zzh9 rfl rfl | exact umV 1 zzh9 rfl rfl | exact umV 4 zzh9 rfl rfl | exact umV 7 zzh9 rfl rfl | exact umV 10 zzh9 rfl rfl | exact umV 2 zzh9 rfl rfl | exact umV 5 zzh9 rfl rfl | exact umV 8 zzh9 rfl rfl | exact umV 11 zzh9 rfl rfl | exact umV 13 zzh9 rfl rfl | exact umV 14 zzh9 rfl rfl | exact umV 15 zzh9 rfl rfl) | exact ltB rfl)
  k_with "OM" => (first | (with_reducible assumption) | exact Nat.zero_le _ | (refine' leB ?om1 ?om2; (case om1 => (with_reducible assumption)); (case om2 => (fail_if_success (fail_if_success decide)); exact rfl)) | (refine' leS ?om1 ?om2; (case om1 => (with_reducible assumption)); (case om2 => (fail_if_success (fail_if_success decide)); exact rfl)) | (with_reducible refine' ltL ?om1 ?om2; (case om1 => (with_reducible assumption)); (case om2 => (fail_if_success (fail_if_success decide)); exact rfl)) | ((fail_if_success (fail_if_success decide)); exact ltB rfl) | (refine' i0_1 ?om1; (case om1 => (with_reducible assumption))) | (refine' i0_2 ?om1; (case om1 => (with_reducible assumption))) | (refine' i0_3 ?om1; (case om1 => (with_reducible assumption))) | (refine' il_0 ?om1 ?om2; (case om1 => (with_reducible assumption)); (case om2 => decide)) | (refine' il_1 ?om1 ?om2; (case om1 => (with_reducible assumption)); (case om2 => decide)) | (refine' il_2 ?om1 ?om2; (case om1 => (with_reducible assumption)); (case om2 => decide)) | (refine' il_3 ?om1 ?om2; (case om1 => (with_reducible assumption)); (case om2 => decide)) | exact ia_3 | exact ia_5 | exact ic_0 | decide | omega)
  k_with "k_all" => (first
  | (with_reducible assumption)
  | (refine' OffL.out ?ko1; (case ko1 => (with_reducible assumption)))
  | (refine' offA ?ko1; (case ko1 => (with_reducible assumption)))
  | (refine' TailIs.offAtL ?ko1 ?ko2 ?ko3; (case ko1 => (with_reducible assumption)); (case ko2 => (with_reducible assumption)); (case ko3 => (with_reducible assumption)))
  | (refine' offC ?ka1 ?ka2; (case ka1 => first | (refine' Apart.l ?kp1; (case kp1 => (with_reducible assumption))) | (refine' Apart.r ?kp1; (case kp1 => (with_reducible assumption))) | k_ne); (case ka2 => k_all))
  | assumption)
  k_with "k_upd" => (first | (refine' Upd.head ?ku1; (case ku1 => k_all)) | (refine' Upd.tail ?ku1 ?ku2; (case ku1 => first | (refine' Apart.l ?kp1; (case kp1 => (with_reducible assumption))) | (refine' Apart.r ?kp1; (case kp1 => (with_reducible assumption))) | k_ne); (case ku2 => k_upd)) | fail "k_upd")
  k_with "k_updF" => (first | (refine' Pull.head ?kf1; (case kf1 => k_all)) | (refine' Pull.tail ?_ ?kf2; (case kf2 => k_updF); (first | (refine' Apart.l ?kp1; (case kp1 => (with_reducible assumption))) | (refine' Apart.r ?kp1; (case kp1 => (with_reducible assumption))) | k_ne)) | (refine' UpdF.head ?kf1; (case kf1 => k_all)) | (refine' UpdF.tail ?_ ?kf2; (case kf2 => k_updF); (first | (refine' Apart.l ?kp1; (case kp1 => (with_reducible assumption))) | (refine' Apart.r ?kp1; (case kp1 => (with_reducible assumption))) | k_ne)) | fail "k_updF")
  k_with "k_mem" => (first | (refine mem_of ?_; (with_reducible assumption)) | (refine mem_of ?_; refine' TailIs.sub ?km1 _ ?km2; (case km1 => first | (refine' TailIs.rebase ?tr1; (case tr1 => (with_reducible assumption))) | (refine' TailIs.at ?tr1 _; (case tr1 => (with_reducible assumption)))); (case km2 => (with_reducible assumption))) | fail "k_mem")
  k_with "call builtin:len" => ((k_here; (with_reducible show wpAny _ _ (call (Value.builtin "len") [Value.ref _]) _ _ _); k_dflt (refine' len_ints_fit (News.isList ?n ?m) ?i ?f ?_; (case n => k_asm); (case m => k_mem); (case i => (with_reducible assumption)); (case f => k_extra "OM"); k_whole)))
  k_with "subscriptTail Name Name ref int" => ((k_here; (with_reducible show wpAny _ _ (subscriptTail _ _ (Value.ref _) (Value.int _ _)) _ _ _); (with_unfolding_all refine' item_list_ints (News.isList ?n ?m) ?k2 ?k3 ?k4 ?k5 ?_; (case n => k_asm); (case m => k_mem); (case k2 => (with_reducible assumption)); (case k3 => k_extra "OM"); (case k4 => k_extra "OM"); (case k5 => k_extra "OM"); k_whole); intro _))
  k_with "k_enter" => (first
  | (refine' code_def ?k1 ?k2 ?k3 ?k4 ?k5 ?kA ?kF ?kK ?k6 ?k7 ?k8 ?k9 ?kB ?_ ?c2 ?c3 ?c4 ?c5; (case kA => exact rfl); (case kF => exact rfl); (case kK => first | exact rfl | (with_reducible assumption)); (case k1 => k_asm); (case k2 => k_asm); (case k3 => k_asm); (case k4 => k_asm); (case k5 => k_asm); (case k6 => k_is); (case k7 => k_is); (case k8 => ktr_room); (case k9 => first | exact BindsTo.of_eq rfl | exact binds_K (by k_in) rfl (by k_is) rfl rfl rfl | fail "k_enter: no rule for these arguments"); (case c5 => decide); (case kB => exact locs rfl); (case c2 => exact rfl); (case c3 => exact rfl); (case c4 => exact rfl); k_whole; intro _ _ _ _ _ zzN' _ _ _; (try dsimp only); (try k_fold))
  | (refine' code_defC ?k1 ?k2 ?k3 ?k4 ?k5 ?kA ?kF ?kK ?k6 ?k7 ?k8 ?k9 ?kB ?kD ?_ ?c2 ?c3 ?c4; (case kA => exact rfl); (case kF => exact rfl); (case kK => first | exact rfl | (with_reducible assumption)); (case k1 => k_asm); (case k2 => k_asm); (case k3 => k_asm); (case k4 => k_asm); (case k5 => k_asm); (case k6 => k_is); (case k7 => k_is); (case k8 => ktr_room); (case k9 => first | exact BindsTo.of_eq rfl | exact binds_K (by k_in) rfl (by k_is) rfl rfl rfl | fail "k_enter: no rule for these arguments"); (case kB => exact rfl); (case kD => decide +kernel); (case c2 => exact rfl); (case c3 => exact rfl); (case c4 => exact rfl); k_whole; intro _ _ _ _ _ _ _ zzN' zzY' _ _ _ zzl1; revert zzl1; intro _; (have _ := Mk9.mk); k_cells zzY'; (try (simp only [List.cons_append, List.nil_append] at zzN'; revert zzN'; intro _)); (try dsimp only); (try k_fold)))
  k_with "call type:tuple" => ((k_here; (with_reducible show wpAny _ _ (call (Value.type _) [Value.ref _]) _ _ _); k_dflt (refine' kde_tupleOf ?k1 ?k2 (News.isList ?k3 ?k6) ?k4 ?k5 ?_; (case k1 => k_asm); (case k2 => k_asm); (case k3 => k_asm); (case k6 => k_mem); (case k4 => (simp only [List.size_toArray]; k_extra "OM")); (case k5 => exact rfl); k_whole); intro _ _ _ _ zzl1; revert zzl1; intro _; (have _ := Mk9.mk); (try k_sweep)))
  k_with "tb_rel" => (first | (refine' TailIs.rebase ?tr1; (case tr1 => (with_reducible assumption))) | (refine' TailIs.at ?tr1 _; (case tr1 => (with_reducible assumption))) | (refine' TailIs.moveT ?tb1; (case tb1 => tb_rel)) | (refine' TailIs.cons ?tb1; (case tb1 => tb_rel)) | exact TailIs.nil)
  trivial
-- every old address stands in the ledger
theorem rows_C19_2 : True := by
  k_with "kcf_m" => (first
  | (refine' covC ?kc1 ?kc2; (case kc1 => k_mem); (case kc2 => kcf_m))
  | exact List.forall_mem_nil _
  | (intro zzq9 zzhq9; refine ⟨Prod.snd zzq9, ?_⟩; repeat (first | exact zzhq9 | (refine' TailIs.coverAt ?tc1 (Run.sub ?tc2) zzq9 zzhq9; (case tc1 => (with_reducible assumption)); (case tc2 => (with_reducible assumption))) | refine List.mem_cons_of_mem _ ?_)))
  trivial
-- what is made here is none of the old
theorem rows_C19_3 : True := by
  k_with "kcf_all" => ((intro zzq9 zzhq9 zzho9; repeat (first | exact zzho9 | refine List.forall_mem_cons.mpr ⟨tmp_ne (by (with_reducible assumption)) (by kcf_m) zzq9 zzhq9, ?_⟩)))
  k_with "tb_start" => ((
  (rename Grow _ _ _ _ => zzG9)
  (have zzgB9 := Grow.base zzG9)
  (repeat (rename Run _ _ (Grow.R zzG9) => zzR9; have _ := Run.step zzR9 zzG9 (by kcf_m) (by kcf_all); clear zzR9))
  (repeat (rename DatIn (Grow.R zzG9) _ _ => zzhX9; have _ := DatIn.mono zzgB9 zzhX9; clear zzhX9))
  (repeat (rename DatAll (Grow.R zzG9) _ _ => zzhX9; have _ := DatAll.mono zzgB9 zzhX9; clear zzhX9))
  (repeat (rename IntsAt (Grow.R zzG9) _ _ => zzhX9; have _ := IntsAt.mono zzhX9 zzgB9; clear zzhX9))
  (repeat (rename (_ ∈ Grow.R zzG9) => zzhX9; have _ := zzgB9 _ zzhX9; clear zzhX9))
  (repeat (rename OffL (Grow.R zzG9) _ => zzhX9; have _ := Grow.offL zzG9 zzhX9 ⟨_, by k_mem⟩ (by k_all); clear zzhX9))
  (have zzhS9 := Grow.sub zzG9; (first | refine fd_6 zzhS9 ?_ | refine fd_5 zzhS9 ?_ | refine fd_4 zzhS9 ?_ | refine fd_3 zzhS9 ?_ | refine fd_2 zzhS9 ?_ | refine fd_1 zzhS9 ?_ | refine fd_0 zzhS9 ?_); clear zzhS9)
  clear zzgB9 zzG9
  intros))
  k_with "kqd_in" => (first | (refine' DatIn.mono ?kd1 ?kd2; (case kd2 => first | (with_reducible assumption) | assumption); (case kd1 => (intro _ zzhp9; repeat (first | exact zzhp9 | (refine' TailIs.sub ?kd3 _ zzhp9; (case kd3 => first | (refine' TailIs.rebase ?tr1; (case tr1 => (with_reducible assumption))) | (refine' TailIs.at ?tr1 _; (case tr1 => (with_reducible assumption))))) | refine List.mem_cons_of_mem _ ?_)))) | fail "kqd_in")
  k_with "kqd_all" => (first | (refine' DatAll.mono ?kd1 ?kd2; (case kd2 => first | (with_reducible assumption) | assumption); (case kd1 => (intro _ zzhp9; repeat (first | exact zzhp9 | (refine' TailIs.sub ?kd3 _ zzhp9; (case kd3 => first | (refine' TailIs.rebase ?tr1; (case tr1 => (with_reducible assumption))) | (refine' TailIs.at ?tr1 _; (case tr1 => (with_reducible assumption))))) | refine List.mem_cons_of_mem _ ?_)))) | fail "kqd_all")
  k_with "compareOp Eq ref ref" => ((k_here; (with_reducible show wpAny _ _ (compareOp CmpOp.Eq (Value.ref _) (Value.ref _)) _ _ _); k_dflt (refine' dat_eq ?n9 ?da (fun _ h => h) ?db (fun _ h => h) ?oa ?ob ?u9 ?_; (case n9 => k_asm); (case da => kqd_in); (case db => kqd_in); (case oa => first | exact domD_ok _ | rfl | (with_reducible assumption)); (case ob => first | exact domD_ok _ | rfl | (with_reducible assumption)); (case u9 => ktr_units); intro _ _)))
  k_with "compareOp NotEq ref ref" => ((k_here; (with_reducible show wpAny _ _ (compareOp CmpOp.NotEq (Value.ref _) (Value.ref _)) _ _ _); k_dflt (refine' dat_ne ?n9 ?da (fun _ h => h) ?db (fun _ h => h) ?oa ?ob ?u9 ?_; (case n9 => k_asm); (case da => kqd_in); (case db => kqd_in); (case oa => first | exact domD_ok _ | rfl | (with_reducible assumption)); (case ob => first | exact domD_ok _ | rfl | (with_reducible assumption)); (case u9 => ktr_units); intro _ _)))
  k_with "call builtin:list.append" => ((k_here; (with_reducible show wpAny _ _ (call (Value.builtin _) [Value.ref _, _]) _ _ _); k_dflt (refine' append_L ?k1 ?k2 ?k3 ?z ?_; (case k1 => k_asm); (case k2 => k_asm); (case k3 => k_upd); (case z => first | k_extra "OM" | ((simp only [List.length_cons, List.length_nil, List.length_append]); k_extra "OM")); k_whole); intro _ _ _; (try k_sweep)))
  k_with "call builtin:min" => ((k_here; (with_reducible show wpAny _ _ (call (Value.builtin _) [Value.ref _]) _ _ _); k_dflt ((refine' min_L ?f9 ?n9 ?m9 ?i9 ?z9 ?h9 ?_; (case f9 => k_asm); (case n9 => k_asm); (case m9 => k_mem); (case i9 => (with_reducible assumption)); (case z9 => first | k_extra "OM" | (simp_all; k_extra "OM")); (case h9 => with_unfolding_all rfl)); intro _ _ _ _ _)))
  k_with "call builtin:max" => ((k_here; (with_reducible show wpAny _ _ (call (Value.builtin _) [Value.ref _]) _ _ _); k_dflt ((refine' max_L ?f9 ?n9 ?m9 ?i9 ?z9 ?h9 ?_; (case f9 => k_asm); (case n9 => k_asm); (case m9 => k_mem); (case i9 => (with_reducible assumption)); (case z9 => first | k_extra "OM" | (simp_all; k_extra "OM")); (case h9 => with_unfolding_all rfl)); intro _ _ _ _ _)))
  k_with "ktr_rel" => (((case n9 => k_asm); (case b9 => k_asm); (case f9 => k_asm); (case x9 => k_asm); (case t9 => k_asm); (case k9 => first | exact rfl | (with_reducible assumption)); (case d9 => ktr_room); (case u9 => ktr_units)))
  trivial
theorem rows_C19_4 : True := by
  k_with "kcf_m" => ((intro zzq9 zzhq9; refine ⟨Prod.snd zzq9, ?_⟩; (repeat (first | exact zzhq9 | exact List.mem_append_left _ zzhq9 | (refine' TailIs.coverAt ?tc1 (Run.sub ?tc2) zzq9 zzhq9; (case tc1 => (with_reducible assumption)); (case tc2 => (with_reducible assumption))) | refine List.mem_cons_of_mem _ ?_ | refine List.mem_append_right _ ?_)); done))
  k_with "call builtin:len" => ((k_here; (with_reducible show wpAny _ _ (call (Value.builtin "len") [Value.ref _]) _ _ _); k_dflt (refine' len_L ?n9 ?m9 ?z9 ?_; (case n9 => k_asm); (case m9 => k_mem); (case z9 => (first | k_extra "OM" | ((simp only [List.length_append, List.length_cons, List.length_nil]); k_extra "OM"))); k_whole)))
  k_with "exec Assign cons ListComp" => ((k_here; (with_reducible show wpAny _ _ (exec _ _) _ _ _); refine Stop.intro ?_))
  k_with "eval ListComp" => ((k_here; (with_reducible show wpAny _ _ (eval (Expr.ListComp _ _ _ _) _) _ _ _); refine Stop.intro ?_))
  k_with "CompSrcT" => ((k_here; refine Stop.intro ?_))
  k_with "CompSrc" => ((k_here; refine Stop.intro ?_))
  k_with "CompEnd" => ((refine Stop.intro ?_))
  k_with "kqd_sub" => (first | (refine List.forall_mem_cons.mpr ⟨?kqa, ?kqb⟩; (case kqa => k_mem); (case kqb => kqd_sub)) | (intro _ zzhq9; (repeat (first | exact zzhq9 | refine List.mem_cons_of_mem _ ?_)); done))
  trivial
-- what a comparison has answered
theorem rows_C19_5 : True := by
  k_with "ANSWER" => (((rename Bool => zzt9); (rename (zzt9 = true ↔ _) => zzht9); (first | (have zze9 := zzht9.mpr (by first | rfl | (with_reducible assumption)); subst zze9) | (have zze9 := bool_no zzht9 (by first | (with_reducible assumption) | (intro zzh9; exact zzh9 rfl) | (intro zzh9; exact zzh9 (by (with_reducible assumption)))); subst zze9) | skip)))
  k_with "compareOp Eq ref ref" => ((k_here; (with_reducible show wpAny _ _ (compareOp CmpOp.Eq (Value.ref _) (Value.ref _)) _ _ _); k_dflt (refine' dat_eq ?n9 ?da (fun _ h => h) ?db (fun _ h => h) ?oa ?ob ?u9 ?_; (case n9 => k_asm); (case da => kqd_in); (case db => kqd_in); (case oa => first | exact domD_ok _ | rfl | (with_reducible assumption)); (case ob => first | exact domD_ok _ | rfl | (with_reducible assumption)); (case u9 => ktr_units); intro _ _; walk_at "ANSWER")))
  k_with "compareOp NotEq ref ref" => ((k_here; (with_reducible show wpAny _ _ (compareOp CmpOp.NotEq (Value.ref _) (Value.ref _)) _ _ _); k_dflt (refine' dat_ne ?n9 ?da (fun _ h => h) ?db (fun _ h => h) ?oa ?ob ?u9 ?_; (case n9 => k_asm); (case da => kqd_in); (case db => kqd_in); (case oa => first | exact domD_ok _ | rfl | (with_reducible assumption)); (case ob => first | exact domD_ok _ | rfl | (with_reducible assumption)); (case u9 => ktr_units); intro _ _; walk_at "ANSWER")))
  k_with "compareOp NotEq ref ref" => ((k_here; (with_reducible show wpAny _ _ (compareOp CmpOp.NotEq (Value.ref _) (Value.ref _)) _ _ _); k_dflt (refine' ints_ne ?n9 ?a9 ?i9 ?b9 ?j9 ?u9 ?_; (case n9 => k_asm); (case a9 => k_mem); (case b9 => k_mem); (case i9 => first | (with_reducible assumption) | exact IntsAre.nil); (case j9 => first | (with_reducible assumption) | exact IntsAre.nil); (case u9 => ktr_units); intro _ _; walk_at "ANSWER")))
  k_with "compareOp Eq ref ref" => ((k_here; (with_reducible show wpAny _ _ (compareOp CmpOp.Eq (Value.ref _) (Value.ref _)) _ _ _); k_dflt (refine' ints_eq ?n9 ?a9 ?i9 ?b9 ?j9 ?u9 ?_; (case n9 => k_asm); (case a9 => k_mem); (case b9 => k_mem); (case i9 => first | (with_reducible assumption) | exact IntsAre.nil); (case j9 => first | (with_reducible assumption) | exact IntsAre.nil); (case u9 => ktr_units); intro _ _; walk_at "ANSWER")))
  k_with "TAILFOR" => (first | (refine' TailFor.rebase ?tf1; (case tf1 => (with_reducible assumption))) | (refine' TailFor.at ?tf1 _; (case tf1 => (with_reducible assumption))) | (refine' TailFor.moveT ?tl9; (case tl9 => walk_at "TAILFOR")) | (refine' TailFor.moveA ?tl9; (case tl9 => walk_at "TAILFOR")) | (refine' TailFor.cons ?tl9; (case tl9 => walk_at "TAILFOR")) | exact TailFor.nil | (refine' TailFor.pre ?tl9; (case tl9 => walk_at "TAILFOR")))
  k_with "call ref" => ((k_here; (with_reducible show wpAny _ _ (call (Value.ref 42) _) _ _ _); k_dflt (first | ((refine' Call.cps (fromValues_f ?ti ?m9 ?i9 ?ln ?as) t_gD ?b9 ?f9 ?x9 ?t9 ?k9 ?d9 ?u9 ?n9 ?_; ktr_rel; (case ti => walk_at "TAILFOR"); (case m9 => k_mem); (case i9 => (with_reducible assumption)); (case ln => first | k_extra "OM" | (with_reducible assumption)); (case as => (with_reducible assumption))); intro _ _ _ _ _ _ _ zzN9; (try dsimp only at zzN9); tb_start) | (fail_if_success skip) | refine Stop.intro ?_)))
  k_with "call ref" => ((k_here; (with_reducible show wpAny _ _ (call (Value.ref 283) _) _ _ _); k_dflt (first | ((refine' Call.cps (bars_c ?m9) t_bool ?b9 ?f9 ?x9 ?t9 ?k9 ?d9 ?u9 ?n9 ?_; ktr_rel; (case m9 => k_mem)); intro _ _ _ _ _ _) | refine Stop.intro ?_)))
  k_with "setItem ref int ref" => ((k_here; (with_reducible show wpAny _ _ (setItem (Value.ref _) (Value.int _ _) (Value.ref _)) _ _ _); k_dflt (refine' set_sel ?f9 ?n9 ?x9 ?u9 ?_; (case f9 => k_asm); (case n9 => k_asm); (case x9 => (with_reducible assumption)); (case u9 => k_upd); k_whole; intro _ _ _)))
  k_with "kcf_all" => ((intro zzq9 zzhq9 zzho9; repeat (first | exact zzho9 | refine List.forall_mem_cons.mpr ⟨tmp_ne (by (with_reducible assumption)) (by kcf_m) zzq9 zzhq9, ?_⟩ | refine List.forall_mem_cons.mpr ⟨tmp_off (by (with_reducible assumption)) (by kcf_m) zzq9 zzhq9, ?_⟩)))
  k_with "subscriptTail Attribute Name Name ref int" => ((k_here; (with_reducible show wpAny _ _ (subscriptTail _ _ (Value.ref _) (Value.int _ _)) _ _ _); k_dflt (refine' item_sel ?n9 ?m9 ?x9 ?_ ?s9; (case n9 => k_asm); (case x9 => (with_reducible assumption)); (case m9 => k_mem); (case s9 => with_unfolding_all rfl); k_whole)))
  k_with "subscriptTail Name Name ref int" => ((k_here; (with_reducible show wpAny _ _ (subscriptTail _ _ (Value.ref _) (Value.int _ _)) _ _ _); k_dflt (refine' item_sel ?n9 ?m9 ?x9 ?_ ?s9; (case n9 => k_asm); (case x9 => (with_reducible assumption)); (case m9 => k_mem); (case s9 => with_unfolding_all rfl); k_whole)))
  k_with "subscriptTail Attribute Name Constant ref int" => ((k_here; (with_reducible show wpAny _ _ (subscriptTail _ _ (Value.ref _) (Value.int (OfNat.ofNat _) _)) _ _ _); k_dflt (refine' item_tup ?n9 ?m9 ?x9 ?y9 ?z9 ?_ ?s9; (case n9 => k_asm); (case m9 => k_mem); (case x9 => rfl); (case y9 => decide); (case z9 => decide); (case s9 => with_unfolding_all rfl); k_whole)))
  k_with "subscriptTail Subscript Attribute Constant Constant ref int" => ((k_here; (with_reducible show wpAny _ _ (subscriptTail _ _ (Value.ref _) (Value.int (OfNat.ofNat _) _)) _ _ _); k_dflt (refine' item_tup ?n9 ?m9 ?x9 ?y9 ?z9 ?_ ?s9; (case n9 => k_asm); (case m9 => k_mem); (case x9 => rfl); (case y9 => decide); (case z9 => decide); (case s9 => with_unfolding_all rfl); k_whole)))
  k_with "subscriptTail Name Constant ref int" => ((k_here; (with_reducible show wpAny _ _ (subscriptTail _ _ (Value.ref _) (Value.int (OfNat.ofNat _) _)) _ _ _); k_dflt (refine' item_tup ?n9 ?m9 ?x9 ?y9 ?z9 ?_ ?s9; (case n9 => k_asm); (case m9 => k_mem); (case x9 => rfl); (case y9 => decide); (case z9 => decide); (case s9 => with_unfolding_all rfl); k_whole)))
  k_with "subscriptTail Name Constant ref int" => ((k_here; (with_reducible show wpAny _ _ (subscriptTail _ _ (Value.ref _) (Value.int 0 _)) _ _ _); k_dflt (refine' head_int ?n9 ?m9 ?i9 ?g9 ?_ ?s9; (case n9 => k_asm); (case m9 => k_mem); (case i9 => (with_reducible assumption)); (case g9 => (with_reducible assumption)); (case s9 => with_unfolding_all rfl); k_whole); intro _))
  k_with "subscriptTail Name UnaryOp ref int" => ((k_here; (with_reducible show wpAny _ _ (subscriptTail _ _ (Value.ref _) (Value.int _ _)) _ _ _); k_dflt (refine' last_int ?n9 ?m9 ?i9 ?g9 ?_ ?s9; (case n9 => k_asm); (case m9 => k_mem); (case i9 => (with_reducible assumption)); (case g9 => (with_reducible assumption)); (case s9 => with_unfolding_all rfl); k_whole); intro _))
  k_with "subscriptTail Name Slice ref ref" => ((k_here; (with_reducible show wpAny _ _ (subscriptTail _ (PySem.Expr.Slice _ _ none _) (Value.ref _) (Value.ref _)) _ _ _); k_dflt (refine' trail_from ?f9 ?n9 ?m9 ?h9 ?z9 ?_ ?s9 ?t9; (case f9 => k_asm); (case n9 => k_asm); (case m9 => k_mem); (case h9 => k_extra "OM"); (case z9 => k_extra "OM"); (case s9 => with_unfolding_all rfl); (case t9 => kmk_pure)); intro _ _ _ _ zzl1; revert zzl1; intro _; (have _ := Mk9.mk)))
  k_with "call type:list" => ((k_here; (with_reducible show wpAny _ _ (call (Value.type _) [Value.ref _]) _ _ _); k_dflt (refine' list_of ?f9 ?n9 ?m9 ?z9 ?_; (case f9 => k_asm); (case n9 => k_asm); (case m9 => k_mem); (case z9 => (first | k_extra "OM" | ((simp only [List.length_cons, List.length_nil]); k_extra "OM")))); intro _ _ _ _ _ zzo8'; ((first | refine fm_16 zzo8' ?_ | refine fm_15 zzo8' ?_ | refine fm_14 zzo8' ?_ | refine fm_13 zzo8' ?_ | refine fm_12 zzo8' ?_ | refine fm_11 zzo8' ?_ | refine fm_10 zzo8' ?_ | refine fm_9 zzo8' ?_ | refine fm_8 zzo8' ?_ | refine fm_7 zzo8' ?_ | refine fm_6 zzo8' ?_ | refine fm_5 zzo8' ?_ | refine fm_4 zzo8' ?_ | refine fm_3 zzo8' ?_); clear zzo8'; intros)))
  k_with "call ref" => ((k_here; (with_reducible show wpAny _ _ (call (Value.ref 276) _) _ _ _); k_dflt (first | ((refine' Call.cps (draw_c ?p1 ?ca ?ho ?hi ?m1 ?m2 ?k1 ?k2 ?ln) t_draw ?b9 ?f9 ?x9 ?t9 ?k9 ?d9 ?u9 ?n9 ?_; ktr_rel; (case p1 => k_updF); (case ho => (with_reducible assumption)); (case ca => k_mem); (case hi => (with_reducible assumption)); (case m1 => decide); (case m2 => decide); (case k1 => k_extra "OM"); (case k2 => k_extra "OM"); (case ln => k_extra "OM")); intro _ _ _ _ _ _ _ _ _ _) | refine Stop.intro ?_)))
  k_with "OFFS" => (((rename Off1 _ _ => o9'); have o8' := off1_ap o9'; clear o9'; (first | refine fm_16 o8' ?_ | refine fm_15 o8' ?_ | refine fm_14 o8' ?_ | refine fm_13 o8' ?_ | refine fm_12 o8' ?_ | refine fm_11 o8' ?_ | refine fm_10 o8' ?_ | refine fm_9 o8' ?_ | refine fm_8 o8' ?_ | refine fm_7 o8' ?_ | refine fm_6 o8' ?_ | refine fm_5 o8' ?_ | refine fm_4 o8' ?_ | refine fm_3 o8' ?_ | refine fm_2 o8' ?_ | refine fm_1 o8' ?_); clear o8'; intros))
  k_with "SEP" => (repeat' (first | (refine sepC ?_ ?_ ?_) | exact sepN | exact apN | (refine apC ?_ ?_) | (with_reducible assumption) | exact Apart.swap (by (with_reducible assumption)) | exact offG (by (with_reducible assumption)) (by (with_reducible assumption)) (by (with_reducible assumption)) | assumption))
  k_with "exec If" => ((k_here; (rename CutHere => zzcX9); (with_reducible show wpAny _ _ (exec (PySem.Stmt.If (PySem.Expr.BoolOp _ _ _) _ _ _) _) _ _ _); refine Stop.intro ?_))
  k_with "call ref" => ((k_here; (with_reducible show wpAny _ _ (call (Value.ref 248) _) _ _ _); refine Stop.intro ?_))
  k_with "call ref" => ((k_here; (with_reducible show wpAny _ _ (call (Value.ref 303) _) _ _ _); refine Stop.intro ?_))
  k_with "call ref" => ((k_here; (with_reducible show wpAny _ _ (call (Value.ref 308) _) _ _ _); refine Stop.intro ?_))
  k_with "compareOp Eq ref ref" => ((k_here; (rename CutHere => zzcX9); (with_reducible show wpAny _ _ (compareOp CmpOp.Eq (Value.ref _) (Value.ref _)) _ _ _); refine Stop.intro ?_))
  k_with "compareOp NotEq ref ref" => ((k_here; (rename CutHere => zzcX9); (with_reducible show wpAny _ _ (compareOp CmpOp.NotEq (Value.ref _) (Value.ref _)) _ _ _); refine Stop.intro ?_))
  k_with "compareOp NotEq ref ref" => ((k_here; (with_reducible show wpAny _ _ (compareOp CmpOp.NotEq (Value.ref _) (Value.ref _)) _ _ _); k_dflt (refine' stk_ne ?n9 ?a9 ?b9 ?s9 ?g1 ?g2 ?g3 ?u9 ?_; (case n9 => k_asm); (case s9 => (with_reducible assumption)); (case a9 => k_mem); (case b9 => k_mem); (case g1 => (with_reducible assumption)); (case g2 => (with_reducible assumption)); (case g3 => (intro _ zzhq9; (repeat (first | exact zzhq9 | refine List.mem_cons_of_mem _ ?_)))); (case u9 => ktr_units); intro _ _)))
  k_with "call builtin:list.pop" => ((k_here; (with_reducible show wpAny _ _ (call (Value.builtin _) [Value.ref _]) _ _ _); k_dflt (refine' pop_L ?f9 ?n9 ?u9 ?z9 ?_; (case f9 => k_asm); (case n9 => k_asm); (case u9 => k_upd); (case z9 => (first | k_extra "OM" | ((simp only [List.length_cons, List.length_nil, List.length_append]); k_extra "OM"))); k_whole); intro _ _ _))
  k_with "pyIter ref" => ((k_here; (with_reducible show wpAny _ _ (pyIter (Value.ref _)) _ _ _); refine Stop.intro ?_))
  k_with "call ref" => ((k_here; (with_reducible show wpAny _ _ (call (Value.ref 288) _) _ _ _); k_dflt (first | ((refine' Call.cps (drawn_f ?p1 ?ti ?ca ?ho ?hi ?k1 ?k2 ?ln) t_6_8 ?b9 ?f9 ?x9 ?t9 ?k9 ?d9 ?u9 ?n9 ?_; ktr_rel; (case p1 => k_updF); (case ti => tb_rel); (case ho => (with_reducible assumption)); (case ca => k_mem); (case hi => (with_reducible assumption)); (case k1 => k_extra "OM"); (case k2 => k_extra "OM"); (case ln => k_extra "OM")); intro _ _ _ _ _ _ _ _ _ _ _ _ _ _ _ _ _ zzN9; (try dsimp only at zzN9); tb_start) | refine Stop.intro ?_)))
  trivial
theorem law_holds : PySem.Challenge.rw_nz0013_01.Holds := hd (by
  w_strict (
    k_go0
    (all_goals try k_fold)
    k_steps
    all_goals unfold Stop
    k_dflt (refine ListComp_U (F₀ := by k_asm) (by with_unfolding_all rfl) (by decide) (by rfl) (by decide) (by rfl) ?_)
    k_steps
    unfold Stop
    (rename Fr _ _ _ _ => F1; rename News _ _ _ _ => N1; rename IntsAre _ (List.take 60 _) => hc60; rename (List.take 60 _).length = _ => hl60)
    rename_i oO oS dO dS _ d9 _ o9 lo9 hd9 hL9 l9 D9 ws9 _ _ hD9 lD9
    (rename Shared => S1; rename World => w)
    refine CompSrc.ledger rfl F1 N1 (by k_mem) (by rw [List.size_toArray, hc60.length, hl60, sizeLine_eq]; k_extra "OM") fun g8 => rest_inv (fun i ys nw => nw = _ ∧ ∃ ns, IntsAre ys ns ∧ ns.length = i) ⟨rfl, [], .nil, rfl⟩ ?_ ?_
    · clear F1 N1
      rintro i v ys _ I oI C oC D m₂ h tk E' hi8 hv ⟨rfl, ns, hys, hnl⟩ hC hx' F2 N2 off ne
      obtain ⟨k, t, rfl, et, hk⟩ := ints_item hc60 hv
      k_steps
      unfold Stop
      (rename Fr _ _ _ _ => F9; rename News _ _ _ _ => N9)
      exact CompEnd.intro F9 N9 _ (by kqd_sub) (Off3.of off) (.inr ⟨_, by k_mem, rfl, _, rfl⟩) ⟨rfl, _, IntsAre.append hys (.cons _ _ .nil), by simp [hnl]⟩
    · rintro ys _ ⟨rfl, cells, hys, hcl⟩
      have hc6 : cells.length ≤ 60 := by rw [hcl, List.size_toArray, hc60.length, hl60]; k_extra "OM"
      clear F1 N1
      unfold FinE
      intro D h tk F2 N2 o2'
      walk_at "OFFS"
      dsimp only
      k_steps
      unfold Stop
      rename_i of hof _ _ si sd _ fa na hLa la _ _ _ _ fb bb xb tb _ dl _ hLb lb _ _ fl _ hLc lc _ _ tl _ hLd ld _ _ ml _ hLe le _ _ nd _ no lof hsf fsf hino fif hLf lf _ _ _ ct _ hLct lct hh fc nc kF kN _ kX
      (rename Top _ _ _ _ _ S1.heap => T0)
      have hfo : FeedO _ of D 0 := ⟨_, hof⟩
      have hno : NewsO w no := ⟨[], hino, .inl rfl⟩
      have hst : ∃ K st fz, (D, listOf ys.toArray ys.length) ∈ fz ∧ (si, instObj 265 sd) ∈ fz ∧ DatIn fz (.ref ct) (.tuple []) ∧ SepL [sd, dl, fl, tl, nd, ml, d9, S1.heap.objs.size + 1 + 1, S1.heap.objs.size + 1] fz ∧
        News T0.heap S1.heap.objs.size hh ((d9, of) :: (sd, sdO w K dl fl tl ml nd (-1) st false ct) :: (dl, listOf [].toArray 0) :: (fl, listOf [].toArray 0) :: (tl, listOf [].toArray 0) :: (nd, no) :: (ml, listOf [].toArray 0) :: (S1.heap.objs.size + 1 + 1, oO) :: (S1.heap.objs.size + 1, oS) :: fz) := by
        refine' ⟨⟨_, _, _, _, _, _, _, _⟩, _, [(D, lst ys), (si, instObj 265 sd), (ct, tupO [] 0)], .head _, .tail _ (.head _), .tuple (.tail _ (.tail _ (.head _))) .nil, ?sep, ?nws⟩
        case nws => exact fun p hp => kN p ((show ∀ q ∈ (d9, of) :: (sd, sdO w _ dl fl tl ml nd (-1) _ false ct) :: (dl, listOf [].toArray 0) :: (fl, listOf [].toArray 0) :: (tl, listOf [].toArray 0) :: (nd, no) :: (ml, listOf [].toArray 0) :: (S1.heap.objs.size + 1 + 1, oO) :: (S1.heap.objs.size + 1, oS) :: [(D, lst ys), (si, instObj 265 sd), (ct, tupO [] 0)], q ∈ _ by kqd_sub) p hp)
        case sep =>
          (repeat' (first | (refine sepC ?_ ?_ ?_) | exact sepN | exact apN | (refine apC ?_ ?_) | (with_reducible assumption) | exact Apart.swap (by with_reducible assumption) | (show _ ≠ _; k_ne) | (show ∀ p ∈ _, _; k_all) | assumption))
      refine el_3_5 hst fun K st fz hcc hsi Dct ap N1 => ?_
      clear hst
      have TI : TailIs fz fz fz (fun x => x) := .nil
      refine sep_9 ap fun xa1 xa2 xa3 xa4 xa5 xa6 xa7 xa8 xo1 xb1 xb2 xb3 xb4 xb5 xb6 xb7 xo2 xc1 xc2 xc3 xc4 xc5 xc6 xo3 xd1 xd2 xd3 xd4 xd5 xo4 xe1 xe2 xe3 xe4 xo5 xf1 xf2 xf3 xo6 xg1 xg2 xo7 xh1 xo8 xo9 => ?_
      clear ap
      clear fa na hLa la fb bb xb tb hLb lb hLc lc hLd ld hLe le lof hsf fsf hino fif hLf lf hLct lct fc nc kN hof hd9 hL9 l9 hD9 lD9
      k_steps
      rename_i ra0 _ _ p0 iv0 in0 _ gp0 ii0 gl0 ga0 hn0 _ _ ra1 of2 fz2 p1 iv1 in1 ho2 gp1 im1 ii1 gl1 ga1 hn1 _ _ _ _ y1 y2 y3 y4 y5 y6 y7 y8 y9 fi _ hLfi lfi kl _ hLkl lkl T9 _ hLT9 lT9 _ _ oS2 dS2 _ hh2 lF N2
      (rename (D, _) ∈ fz2 => icc; rename (si, _) ∈ fz2 => isi; rename (ra0, _) ∈ fz2 => im0; rename DatIn fz2 (Value.ref ct) _ => ict)
      have hst : ∃ nf fz3, (S1.heap.objs.size + 1, oS2) ∈ fz3 ∧ (fi, listOf [Value.ref ra0, .ref ra1].toArray nf) ∈ fz3 ∧ (ra0, listOf iv0.toArray in0) ∈ fz3 ∧ (ra1, listOf iv1.toArray in1) ∈ fz3 ∧ (D, listOf ys.toArray ys.length) ∈ fz3 ∧ (si, instObj 265 sd) ∈ fz3 ∧ DatIn fz3 (.ref ct) (.tuple []) ∧
        SepL [d9, sd, dl, fl, tl, nd, ml, S1.heap.objs.size + 1 + 1, kl] fz3 ∧
        News T0.heap S1.heap.objs.size hh2 ((d9, of2) :: (sd, sdO w K dl fl tl ml nd (-1) st false ct) :: (dl, listOf [].toArray 0) :: (fl, listOf [].toArray 0) :: (tl, listOf [].toArray 0) :: (nd, no) :: (ml, listOf [].toArray 0) :: (S1.heap.objs.size + 1 + 1, oO) :: (kl, listOf [].toArray 0) :: fz3) := by
        refine' ⟨_, (S1.heap.objs.size + 1, oS2) :: (fi, listOf [Value.ref ra0, .ref ra1].toArray _) :: fz2, .head _, .tail _ (.head _), .tail _ (.tail _ im0), .tail _ (.tail _ im1), .tail _ (.tail _ icc), .tail _ (.tail _ isi), ict.mono (fun p hp => .tail _ (.tail _ hp)), ?sep, ?nws⟩
        case nws => exact fun p hp => N2 p ((show ∀ q ∈ (d9, of2) :: (sd, sdO w K dl fl tl ml nd (-1) st false ct) :: (dl, listOf [].toArray 0) :: (fl, listOf [].toArray 0) :: (tl, listOf [].toArray 0) :: (nd, no) :: (ml, listOf [].toArray 0) :: (S1.heap.objs.size + 1 + 1, oO) :: (kl, listOf [].toArray 0) :: (S1.heap.objs.size + 1, oS2) :: (fi, listOf [Value.ref ra0, .ref ra1].toArray _) :: fz2, q ∈ _ by kqd_sub) p hp)
        case sep =>
          have okl : OffL fz2 kl := fun p hp => Nat.ne_of_lt (hLkl p (by repeat (first | exact hp | refine List.mem_cons_of_mem _ ?_)))
          (repeat' (first | (refine sepC ?_ ?_ ?_) | exact sepN | exact apN | (refine apC ?_ ?_) | (with_reducible assumption) | exact Apart.swap (by with_reducible assumption) | (show _ ≠ _; k_ne) | (show ∀ p ∈ _, _; k_all) | assumption))
      refine el_2_9 hst fun nf fz3 jcs jfi jm0 jm1 jcc jsi jct ap N3 => ?_
      clear hst
      have ap' := ap
      refine sep_9 ap fun ap1 ap2 ap3 ap4 ap5 ap6 ap7 ap8 ao1 bp1 bp2 bp3 bp4 bp5 bp6 bp7 ao2 cp1 cp2 cp3 cp4 cp5 cp6 ao3 dp1 dp2 dp3 dp4 dp5 ao4 ep1 ep2 ep3 ep4 ao5 fp1 fp2 fp3 ao6 gp1' gp2 ao7 kp1 ao8 ao9 => ?_
      clear ap
      clear hLfi lfi hLkl lkl hLT9 lT9 N2 im0 im1 icc isi ict y1 y2 y3 y4 y5 y6 y7 y8 y9 xa1 xa2 xa3 xa4 xa5 xa6 xa7 xa8 xb1 xb2 xb3 xb4 xb5 xb6 xb7 xc1 xc2 xc3 xc4 xc5 xc6 xd1 xd2 xd3 xd4 xd5 xe1 xe2 xe3 xe4 xf1 xf2 xf3 xg1 xg2 xh1 TI
      unfold Stop
      refine' loop_L (fun i nx => ∃ us m1 m2 rest', nx = (d9, of2) :: (sd, sdO w K dl fl tl ml nd (-1) st false ct) :: (dl, listOf us.toArray m1) :: (fl, listOf us.toArray m2) :: (tl, listOf [].toArray 0) :: (nd, no) :: (ml, listOf [].toArray 0) :: (S1.heap.objs.size + 1 + 1, oO) :: (kl, listOf [].toArray 0) :: rest' ∧ (∀ p ∈ fz3, p ∈ rest') ∧ SepL [d9, sd, dl, fl, tl, nd, ml, S1.heap.objs.size + 1 + 1, kl] rest' ∧ DatAll rest' us ([domD (ivs p0), domD (ivs p1)].take i)) rfl (by repeat (first | exact jfi | refine List.mem_cons_of_mem _ ?_)) lF N3 ?hj ?turn ?done
      case hj => exact ⟨[], 0, 0, fz3, rfl, fun _ h => h, ap', .nil⟩
      case turn =>
        clear lF N3
        intro i v nx9 h tk' own hv ho hfi9 hJ9 F2 N2
        refine el_4_4 hJ9 fun us m1 m2 rest' e9 R sp Du => ?_
        clear hJ9 hfi9
        subst e9
        have hZ9 : ∃ ra ns iv iin, v = .ref ra ∧ (ra, listOf iv.toArray iin) ∈ rest' ∧ IntsAre iv ns ∧ Good ns ∧ [domD (ivs p0), domD (ivs p1)].take (i + 1) = [domD (ivs p0), domD (ivs p1)].take i ++ [domD (ivs ns)] := by
          cases i with
          | zero => exact ⟨ra0, p0, iv0, in0, by simpa using hv.symm, R _ jm0, ii0, gp0, rfl⟩
          | succ i =>
            cases i with
            | zero => exact ⟨ra1, p1, iv1, in1, by simpa using hv.symm, R _ jm1, ii1, gp1, rfl⟩
            | succ i => simp at hv
        refine el_4_5 hZ9 fun ra ns iv iin e9 hm hi gd et => ?_
        clear hZ9
        subst e9
        rw [et]
        have hgl := gd.len
        have hga := gd.asc
        have hgn : ¬ domD (ivs ns) = Dat.tuple [] := fun e => gd.ivs (domD_nil.mp e)
        have hul : us.length ≤ 2 := by rw [Du.length, List.length_take]; exact Nat.min_le_right _ _
        obtain ⟨g, TI, hg⟩ : ∃ g : Led → Led, TailIs (own ++ rest') rest' rest' g ∧ ∀ x, g x = own ++ x := ⟨_, tailIs_app, fun _ => rfl⟩
        refine offs_9 sp fun o1 o2 o3 o4 o5 o6 o7 o8 o9 => ?_
        have hw := ho
        simp only [List.map_cons] at hw
        have u1 : OffL (own ++ rest') d9 := offL_app (off_of hw (by simp)) o1
        have u2 : OffL (own ++ rest') sd := offL_app (off_of hw (by simp)) o2
        have u3 : OffL (own ++ rest') dl := offL_app (off_of hw (by simp)) o3
        have u4 : OffL (own ++ rest') fl := offL_app (off_of hw (by simp)) o4
        have N4 : News _ _ _ ((d9, of2) :: (sd, sdO w K dl fl tl ml nd (-1) st false ct) :: (dl, listOf us.toArray m1) :: (fl, listOf us.toArray m2) :: (tl, listOf [].toArray 0) :: (nd, no) :: (ml, listOf [].toArray 0) :: (S1.heap.objs.size + 1 + 1, oO) :: (kl, listOf [].toArray 0) :: g rest') := fun p hp => N2 p (by
          rw [hg] at hp
          exact mem_mr (xs := [_, _, _, _, _, _, _, _, _]) hp)
        clear N2 hv hw
        have jcs' := R _ jcs
        have jsi' := R _ jsi
        have RO : Run (own ++ rest') rest' rest' := Run.refl
        k_steps
        (rename Fr _ _ _ _ => F9; rename News _ _ _ _ => N9; rename Run _ _ _ => R9; rename Led => r9)
        rename_i ra9 _ _ _ _ _ _ _ _ _ _ _ _ _ _ _ _ _ _ _ _ _ _ _ _ _ _ _ _ _ _ _ _ _ _
        refine' InvEndG.intro F9 N9 (nx := (d9, of2) :: (sd, sdO w K dl fl tl ml nd (-1) st false ct) :: (dl, listOf (us ++ [Value.ref ra9]).toArray (m1 + 1)) :: (fl, listOf (us ++ [Value.ref ra9]).toArray (m2 + 1)) :: (tl, listOf [].toArray 0) :: (nd, no) :: (ml, listOf [].toArray 0) :: (S1.heap.objs.size + 1 + 1, oO) :: (kl, listOf [].toArray 0) :: r9) ⟨?mfi, fun y hy => if_neg hy, _, _, _, r9, rfl, fun p hp => R9.sub p (R p hp), ?sp, ?du⟩ (own_run (as := [d9, sd, dl, fl, tl, nd, ml, S1.heap.objs.size + 1 + 1, kl]) ho R9) ?sub ?osub
        case sub =>
          have gr : ∀ p ∈ r9, p ∈ g r9 := fun p hp => by rw [hg]; exact List.mem_append_right _ hp
          repeat (refine' subC ?sc1 ?_; (case sc1 => k_mem))
          intro p hp
          have hz := gr p hp
          repeat (first | exact hz | refine List.mem_cons_of_mem _ ?_)
        case osub => intro p hp; have hz : p ∈ g r9 := by { rw [hg]; exact List.mem_append_left _ hp }; (repeat (first | exact hz | refine List.mem_cons_of_mem _ ?_))
        case mfi => have hz := R9.sub _ (R _ jfi); (repeat (first | exact hz | refine List.mem_cons_of_mem _ ?_))
        case sp => refine sep_of sp ?_; simp only [List.forall_mem_cons]; exact ⟨by assumption, by assumption, by assumption, by assumption, by assumption, by assumption, by assumption, by assumption, by assumption, fun _ h => nomatch h⟩
        case du => exact datAll_push (by assumption) (by assumption)
      case done =>
        clear lF N3
        intro u nx9 h tk' hJ9 F2 N2
        refine el_4_4 hJ9 fun us m1 m2 rest' e9 R sp Du => ?_
        clear hJ9
        subst e9
        replace Du : DatAll rest' us [domD (ivs p0), domD (ivs p1)] := Du
        cases Du with
        | cons Da Du =>
        cases Du with
        | cons Db Du =>
        cases Du
        obtain ⟨f0, rfl⟩ := datIn_dom Da
        obtain ⟨f1, rfl⟩ := datIn_dom Db
        have hst : ∃ fz4, (S1.heap.objs.size + 1, oS2) ∈ fz4 ∧ (fi, listOf [Value.ref ra0, .ref ra1].toArray nf) ∈ fz4 ∧ (ra0, listOf iv0.toArray in0) ∈ fz4 ∧ (ra1, listOf iv1.toArray in1) ∈ fz4 ∧ (D, listOf ys.toArray ys.length) ∈ fz4 ∧ (si, instObj 265 sd) ∈ fz4 ∧ (fl, listOf [Value.ref f0, .ref f1].toArray m2) ∈ fz4 ∧
          DatIn fz4 (.ref f0) (domD (ivs p0)) ∧ DatIn fz4 (.ref f1) (domD (ivs p1)) ∧ SepL [d9, sd, dl, tl, nd, ml, S1.heap.objs.size + 1 + 1, kl] fz4 ∧
          News T0.heap S1.heap.objs.size h ((d9, of2) :: (sd, sdO w K dl fl tl ml nd (-1) st false ct) :: (dl, listOf [Value.ref f0, .ref f1].toArray m1) :: (tl, listOf [].toArray 0) :: (nd, no) :: (ml, listOf [].toArray 0) :: (S1.heap.objs.size + 1 + 1, oO) :: (kl, listOf [].toArray 0) :: fz4) := by
          have up : ∀ p ∈ rest', p ∈ (fl, listOf [Value.ref f0, .ref f1].toArray m2) :: rest' := fun p hp => .tail _ hp
          refine' ⟨(fl, listOf [Value.ref f0, .ref f1].toArray m2) :: rest', up _ (R _ jcs), up _ (R _ jfi), up _ (R _ jm0), up _ (R _ jm1), up _ (R _ jcc), up _ (R _ jsi), .head _, Da.mono up, Db.mono up, ?sep, ?nws⟩
          case nws => exact fun p hp => N2 p ((show ∀ q ∈ (d9, of2) :: (sd, sdO w K dl fl tl ml nd (-1) st false ct) :: (dl, listOf [Value.ref f0, .ref f1].toArray m1) :: (tl, listOf [].toArray 0) :: (nd, no) :: (ml, listOf [].toArray 0) :: (S1.heap.objs.size + 1 + 1, oO) :: (kl, listOf [].toArray 0) :: (fl, listOf [Value.ref f0, .ref f1].toArray m2) :: rest', q ∈ _ by kqd_sub) p hp)
          case sep =>
            refine offs_9 sp fun o1 o2 o3 o4 o5 o6 o7 o8 o9 => ?_
            (repeat' (first | (refine sepC ?_ ?_ ?_) | exact sepN | exact apN | (refine apC ?_ ?_) | (with_reducible assumption) | exact Apart.swap (by with_reducible assumption) | (show ∀ p ∈ _, _; k_all) | assumption))
        clear N2 ap' sp R Da Db jcs jfi jm0 jm1 jcc jsi jct
        refine el_1_11 hst fun fz4 jcs jfi jm0 jm1 jcc jsi jfl jf0 jf1 ap N3 => ?_
        clear hst
        have ap' := ap
        refine offs_8 ap fun o1 o2 o3 o4 o5 o6 o7 o8 => ?_
        k_steps
        rename_i ol nq0 _ _ _ oO8 z1 z2 z3 z4 z5 z6 z7 z8 _ oC _ _ dC _ _ _ laps _ of3 lo3 hi3 ho3 _ hh3 _ _ _ _ hR F3 N5 _
        unfold Stop
        refine sep_8 ap fun bp1 bp2 bp3 bp4 bp5 bp6 bp7 y1 cp1 cp2 cp3 cp4 cp5 cp6 y2 dp1 dp2 dp3 dp4 dp5 y3 ep1 ep2 ep3 ep4 y4 fp1 fp2 fp3 y5 gp1' gp2 y6 kp1 y7 y8 => ?_
        clear ap y1 y2 y3 y4 y5 y6 y7 y8
        have hS0 : LawS w K sd dl fl tl d9 kl (S1.heap.objs.size + 1 + 1) D p0 p1 fz4 0 [] ((sd, sdO w K dl fl tl ml nd (-1) st false ct) :: (dl, listOf [Value.ref f0, .ref f1].toArray m1) :: (tl, listOf [].toArray 0) :: (nd, no) :: (ml, listOf [].toArray 0) :: (d9, of3) :: (ol, listOf [Value.ref ra0, .ref ra1].toArray nq0) :: (kl, listOf [].toArray 0) :: (S1.heap.objs.size + 1 + 1, oC) :: (([] ++ []) ++ fz4)) := by
          refine .mk (-1) st ct f0 f1 m1 0 0 nq0 0 [] [] [] no of3 oC ml nd ol ra0 ra1 (0 + 8 + 8 + 1) [] [] p0 p1 [] [] fz4 dC ho3 (by k_extra "OM") (by k_extra "OM") ⟨jf0, jf1, .nil, hno, .nil, ⟨_, _, jm0, ii0⟩, ⟨_, _, jm1, ii1⟩⟩ (.nil gp0 gp1) (Nat.le_refl _) .nil ?_ trivial (fun _ h => nomatch h) (fun _ h => h)
          (repeat' (first | (refine sepC ?_ ?_ ?_) | exact sepN | exact apN | (refine apC ?_ ?_) | (with_reducible assumption) | exact Apart.swap (by with_reducible assumption) | assumption))
        have N6 : News T0.heap S1.heap.objs.size hh3 ((sd, sdO w K dl fl tl ml nd (-1) st false ct) :: (dl, listOf [Value.ref f0, .ref f1].toArray m1) :: (tl, listOf [].toArray 0) :: (nd, no) :: (ml, listOf [].toArray 0) :: (d9, of3) :: (ol, listOf [Value.ref ra0, .ref ra1].toArray nq0) :: (kl, listOf [].toArray 0) :: (S1.heap.objs.size + 1 + 1, oC) :: (([] ++ []) ++ fz4)) := fun p hp => N5 p ((by simp only [List.append_nil, List.nil_append]; kqd_sub : ∀ q ∈ (sd, sdO w K dl fl tl ml nd (-1) st false ct) :: (dl, listOf [Value.ref f0, .ref f1].toArray m1) :: (tl, listOf [].toArray 0) :: (nd, no) :: (ml, listOf [].toArray 0) :: (d9, of3) :: (ol, listOf [Value.ref ra0, .ref ra1].toArray nq0) :: (kl, listOf [].toArray 0) :: (S1.heap.objs.size + 1 + 1, oC) :: (([] ++ []) ++ fz4), q ∈ _) p hp)
        clear N5 bp1 bp2 bp3 bp4 bp5 bp6 bp7 cp1 cp2 cp3 cp4 cp5 cp6 dp1 dp2 dp3 dp4 dp5 ep1 ep2 ep3 ep4 fp1 fp2 fp3 gp1' gp2 kp1 z1 z2 z3 z4 z5 z6 z7 z8 o1 o2 o3 o4 o5 o6 o7 o8 ap'
        refine' loop_Z (Str.ofString "way") (n := (3 + laps).toNat) (fun i nx => LawS w K sd dl fl tl d9 kl (S1.heap.objs.size + 1 + 1) D p0 p1 fz4 i [] nx) (by decide) rfl hR (small_one (by k_extra "OM") (by k_extra "OM") (by k_extra "OM") (by k_extra "OM")) (by rw [rangeSize_nat]; k_extra "OM") F3 N6 hS0 ?turn ?done
        case turn =>
          clear F3 N6 hS0 hR dC ho3 oO8
          intro i t u nx h tk own hin hown hS F2 N2
          obtain ⟨nx1, hs1, hS1⟩ := lawS_in hS hown
          have N4 : News T0.heap S1.heap.objs.size h nx1 := fun p hp => N2 p (hs1 p hp)
          clear N2 hS hs1
          refine lawS_e hS1 fun sp st1 ca a0 a1 n1 n2 nm nq nk tv mv kv no1 of1 oC1 ml1 nd1 ol1 l0 l1 k tr ms q0 q1 hs stk rest e9 c1 c2 c3 c4 c5 c6 c7 c8 s1 s2 s3 s4 => ?_
          clear hS1
          subst e9
          obtain ⟨g, TI, hg⟩ : ∃ g : Led → Led, TailIs ((stk ++ own) ++ rest) rest rest g ∧ ∀ x, g x = (stk ++ own) ++ x := ⟨_, tailIs_app, fun _ => rfl⟩
          rw [← hg] at N4
          refine offs_9 s1 fun u1 u2 u3 u4 u5 u6 u7 u8 u9 => ?_
          have v1 := (offL_append.mp u1).2
          have v2 := (offL_append.mp u2).2
          have v3 := (offL_append.mp u3).2
          have v4 := (offL_append.mp u4).2
          have v5 := (offL_append.mp u5).2
          have v6 := (offL_append.mp u6).2
          have v7 := (offL_append.mp u7).2
          have v8 := (offL_append.mp u8).2
          have v9 := (offL_append.mp u9).2
          refine sep_9 s1 fun ap1 ap2 ap3 ap4 ap5 ap6 ap7 ap8 y1 bp1 bp2 bp3 bp4 bp5 bp6 bp7 y2 cp1 cp2 cp3 cp4 cp5 cp6 y3 dp1 dp2 dp3 dp4 dp5 y4 ep1 ep2 ep3 ep4 y5 fp1 fp2 fp3 y6 xp1 xp2 y7 kp1 y8 y9 => ?_
          clear y1 y2 y3 y4 y5 y6 y7 y8 y9
          have tcs := s4 _ jcs
          have tcc := s4 _ jcc
          have tsi := s4 _ jsi
          have tfl := s4 _ jfl
          have tf0 := jf0.mono s4
          have tf1 := jf1.mono s4
          have gk1 : ∀ p ∈ stk, p ∈ g rest := fun p hp => by rw [hg]; exact List.mem_append_left _ (List.mem_append_left _ hp)
          have gk2 : ∀ p ∈ rest, p ∈ g rest := fun p hp => by rw [hg]; exact List.mem_append_right _ hp
          have cut : CutHere := True.intro
          k_steps
          (rename CutHere => cut; clear cut)
          rename_i _ _ way _ of2 lw hw ho2 T9 _ hLw lw2 _ _ hh5 F5 N5
          clear hLw lw2
          replace N5 := news_tl N5
          unfold Stop
          refine wpAny_mono (Q := Mid T0.heap S1.heap.objs.size (frM F5) (LawS w K sd dl fl tl d9 kl (S1.heap.objs.size + 1 + 1) D p0 p1 fz4 (i + 1) own) S1) ?way ?check fun _ _ e => e
          case way =>
            have hlen20 : hs.length ≤ 20 := by k_extra "OM"
            have hkv20 : kv.length ≤ 20 := by rw [c8.len]; k_extra "OM"
            have sp8 : SepL [sd, dl, tl, nd1, ml1, d9, ol1, kl] ((S1.heap.objs.size + 1 + 1, oC1) :: g rest) := by rw [hg]; exact (sep_snoc (as := [sd, dl, tl, nd1, ml1, d9, ol1, kl]).mp s1).1
            k_steps
            · --POP
              unfold Stop
              (rename (_ = true ↔ hs ≠ []) => ht9)
              have hne := ht9.mp (by assumption)
              clear ht9
              obtain ⟨hs', ⟨b0, b1⟩, rfl⟩ : ∃ hs' b, hs = hs' ++ [b] := by
                rcases List.eq_nil_or_concat hs with h | ⟨a, b, h⟩
                · exact absurd h hne
                · exact ⟨a, b, by rw [h, List.concat_eq_append]⟩
              refine el_0_9 c6.facts fun z1 z2 z3 G0 G1 y1 y2 y3 y4 => ?_
              clear y1 y2 y3 y4
              refine el_3_5 c6.top fun tr' ms' tre e8 e9 H' ub0 ub1 => ?_
              subst e8
              subst e9
              refine el_6_5 c8.top fun kv' l9 stk' m0 m1' nn e8 e9 S' i0' i1' => ?_
              subst e8
              subst e9
              obtain ⟨D0, D1, Dt, hno', im, -, -⟩ := c5
              have hkv' : kv'.length ≤ 20 := by rw [S'.len]; have h := hlen20; rw [List.length_append] at h; k_extra "OM"
              k_dflt (refine' Call.cps (pop_cE (n := 1) (mk := tr'.length) (f0 := f0) (f1 := f1) (ms := ms' ++ [(tr'.length : Int)]) (tr := tr' ++ tre) ?p1 ?p2 ?p3 ?p4 ?ti ?si ?d0 ?d1 ?dt ?htx ?fl ?f0 ?f1 ?e0 ?e1 ?hm ?hml ?htl ?hn1 ?hn2 ?hmk ?hmt ?e2 ?e3 ?e4) t_11_9 ?b9 ?f9 ?x9 ?t9 ?k9 ?d9 ?u9 ?n9 ?_; ktr_rel; (case p1 => k_updF); (case p2 => k_updF); (case p3 => k_updF); (case p4 => k_updF); (case ti => tb_rel); (case si => k_mem); (case d0 => kqd_in); (case d1 => kqd_in); (case dt => kqd_all); (case htx => exact z3); (case fl => k_mem); (case f0 => kqd_in); (case f1 => kqd_in); (case e0 => exact gp0.ivs); (case e1 => exact gp1.ivs); (case hm => exact im); (case hml => k_extra "OM"); (case htl => k_extra "OM"); (case hn1 => exact Nat.le_refl _); (case hn2 => (rw [List.length_append, List.length_singleton]; k_extra "OM")); (case hmk => (rw [List.length_append, List.length_singleton, Nat.add_sub_cancel, List.getElem?_concat_length])); (case hmt => (rw [List.length_append]; k_extra "OM")); (case e2 => exact undo_dl ub0); (case e3 => exact undo_dl ub1); (case e4 => exact take_pop))
              intro h9 tk9 F9 ca2 b0' b1' k1 k2 k3 ml2 nd2 no2 mv2 rest7 G9 Hn2 Im2 E0 E1 fr om1 om2 om3 N9
              have gk3 : ∀ p ∈ stk' ++ own, p ∈ g rest := fun p hp => by rw [hg]; exact List.mem_append_left _ (.tail _ hp)
              have gk4 : (l9, listOf [Value.ref m0, .ref m1'].toArray nn) ∈ g rest := by rw [hg]; exact .head _
              have fr' : ∀ p ∈ g rest, Apart p.1 ml2 ∧ Apart p.1 nd2 := fun p hp => fr p (by repeat (first | exact hp | refine List.mem_cons_of_mem _ ?_))
              have sO' : ∀ q ∈ own, OffL rest7 q.1 := fun q hq => G9.off q.1 ⟨q.2, by have hz := gk3 q (List.mem_append_right _ hq); repeat (first | exact hz | refine List.mem_cons_of_mem _ ?_)⟩ (s3 q hq)
              have sK' : SepL (stk'.map (·.1)) (own ++ rest7) := sep_of s2.2.2 fun a ha => by
                obtain ⟨p, hp, rfl⟩ := List.mem_map.mp ha
                have h2 := offL_append.mp (sep_off s2.2.2 _ ha)
                exact offL_app h2.1 (G9.off p.1 ⟨p.2, by have hz := gk3 p (List.mem_append_left _ hp); repeat (first | exact hz | refine List.mem_cons_of_mem _ ?_)⟩ h2.2)
              have h29 := offL_append.mp s2.2.1
              have o9a : OffL rest7 l9 := G9.off l9 ⟨_, by repeat (first | exact gk4 | refine List.mem_cons_of_mem _ ?_)⟩ h29.2
              have o9b : OffL ((stk' ++ own) ++ rest7) l9 := offL_app (offL_app (fun p hp => Ne.symm (s2.1 _ (List.mem_map.mpr ⟨p, hp, rfl⟩))) h29.1) o9a
              have om4 : OffL ((stk' ++ own) ++ rest7) ml2 := offL_app (fun p hp => (fr' p (gk3 p hp)).1) om1
              have om5 : OffL ((stk' ++ own) ++ rest7) nd2 := offL_app (fun p hp => (fr' p (gk3 p hp)).2) om2
              have om6 : Apart l9 ml2 := (fr' _ gk4).1
              have om7 : Apart l9 nd2 := (fr' _ gk4).2
              have l9a : Apart l9 sd := u1 _ (.head _)
              have l9b : Apart l9 dl := u2 _ (.head _)
              have l9c : Apart l9 tl := u3 _ (.head _)
              have l9d : Apart l9 d9 := u6 _ (.head _)
              have l9e : Apart l9 kl := u8 _ (.head _)
              have l9f : Apart l9 (S1.heap.objs.size + 1 + 1) := u9 _ (.head _)
              have S7 := S'.mono G9.sub
              have s47 : ∀ p ∈ fz4, p ∈ rest7 := fun p hp => G9.sub p (s4 p hp)
              have fr1 := fun q hq => (fr q hq).1
              have fr2 := fun q hq => (fr q hq).2
              clear fr fr'
              (first | refine fm_13 fr1 ?_ | refine fm_12 fr1 ?_ | refine fm_11 fr1 ?_ | refine fm_10 fr1 ?_ | refine fm_9 fr1 ?_ | refine fm_8 fr1 ?_); clear fr1; intros
              (first | refine fm_13 fr2 ?_ | refine fm_12 fr2 ?_ | refine fm_11 fr2 ?_ | refine fm_10 fr2 ?_ | refine fm_9 fr2 ?_ | refine fm_8 fr2 ?_); clear fr2; intros
              (try dsimp only at N9)
              tb_start
              k_steps
              have w1 : OffL ((stk' ++ own) ++ rest7) sd := offL_app (fun p hp => u1 p (.tail _ (List.mem_append_left _ hp))) (by assumption)
              have w2 : OffL ((stk' ++ own) ++ rest7) dl := offL_app (fun p hp => u2 p (.tail _ (List.mem_append_left _ hp))) (by assumption)
              have w3 : OffL ((stk' ++ own) ++ rest7) tl := offL_app (fun p hp => u3 p (.tail _ (List.mem_append_left _ hp))) (by assumption)
              have w6 : OffL ((stk' ++ own) ++ rest7) d9 := offL_app (fun p hp => u6 p (.tail _ (List.mem_append_left _ hp))) (by assumption)
              have w8 : OffL ((stk' ++ own) ++ rest7) kl := offL_app (fun p hp => u8 p (.tail _ (List.mem_append_left _ hp))) (by assumption)
              have w9 : OffL ((stk' ++ own) ++ rest7) (S1.heap.objs.size + 1 + 1) := offL_app (fun p hp => u9 p (.tail _ (List.mem_append_left _ hp))) (by assumption)
              have Dtk := datAll_take tr'.length (show DatAll rest7 tv ((tr' ++ tre).map entD) by assumption)
              rw [List.map_append, List.take_left' (by simp)] at Dtk
              (rename Fr _ _ _ _ => F9; rename News _ _ _ _ => N9; rename (_ = Data.cell (some (Value.ref l9))) => dC9)
              refine' ⟨rfl, _, _, _, rfl, F9, ?nws, .mk _ _ ca2 b0' b1' k1 k2 k3 nn _ (tv.take tr'.length) mv2 kv' no2 of2 _ ml2 nd2 l9 m0 m1' (k + 1) tr' ms' b0 b1 hs' stk' rest7 dC9 ho2 (by k_extra "OM") (by k_extra "OM") ⟨E0, E1, Dtk, Hn2, Im2, by assumption, by assumption⟩ H' ?len S7 ?sep sK' sO' s47⟩
              case nws =>
                have gk5 : (l9, listOf [Value.ref m0, .ref m1'].toArray nn) ∈ g rest7 := by rw [hg]; exact .head _
                refine List.forall_mem_cons.mpr ⟨N9 _ (by k_mem), List.forall_mem_cons.mpr ⟨N9 _ (by k_mem), List.forall_mem_cons.mpr ⟨N9 _ (by k_mem), List.forall_mem_cons.mpr ⟨N9 _ (by k_mem), List.forall_mem_cons.mpr ⟨N9 _ (by k_mem), List.forall_mem_cons.mpr ⟨N9 _ (by k_mem), List.forall_mem_cons.mpr ⟨N9 _ (by repeat (first | exact gk5 | refine List.mem_cons_of_mem _ ?_)), List.forall_mem_cons.mpr ⟨N9 _ (by k_mem), List.forall_mem_cons.mpr ⟨N9 _ (by k_mem), fun p hp => N9 p ?_⟩⟩⟩⟩⟩⟩⟩⟩⟩
                have hz : p ∈ g rest7 := by
                  rw [hg]
                  simp only [List.mem_append, List.mem_cons] at hp ⊢
                  rcases hp with (h | h) | h <;> simp [h]
                repeat (first | exact hz | refine List.mem_cons_of_mem _ ?_)
              case len => rw [List.length_append] at c7; k_extra "OM"
              case sep =>
                (repeat' (first | (refine sepC ?_ ?_ ?_) | exact sepN | exact apN | (refine apC ?_ ?_) | (with_reducible assumption) | exact Apart.swap (by with_reducible assumption) | assumption))
            · exfalso; k_extra "OM"
            · unfold Stop
              have TI8 : TailIs ((S1.heap.objs.size + 1 + 1, oC1) :: g rest) rest rest (fun x => (S1.heap.objs.size + 1 + 1, oC1) :: g x) := .cons (TI.at rest)
              k_dflt (refine' Call.cps (Call.sub (asked_c0 (tr := tr) (ms := ms) TI8 ?si ?fl ?f0 ?f1 c5 c6 ?len ?kv ?ca ?ho hys ?k1 ?k2 ?ln sp8) ?sub) t_and ?b9 ?f9 ?x9 ?t9 ?k9 ?d9 ?u9 ?n9 ?_; ktr_rel; (case si => exact tsi); (case fl => exact tfl); (case f0 => exact tf0); (case f1 => exact tf1); (case len => exact hlen20); (case kv => exact hkv20); (case ca => exact tcc); (case ho => exact ho2); (case k1 => k_extra "OM"); (case k2 => k_extra "OM"); (case ln => exact hc6); (case sub => kqd_sub))
              clear TI8
              intro h9 tk9 F9 nw9 L9 N9
              k_steps
              (rename Fr _ _ _ _ => F9; rename News _ _ _ _ => N9)
              obtain ⟨nx', hsub, hlaw⟩ := lap_law (i := i) (fz := fz4) (co := S1.heap.objs.size + 1 + 1) (oC := oC1) (stk := stk) (own := own) L9 (fun p hp => by rw [← hg] at hp; repeat (first | exact hp | refine List.mem_cons_of_mem _ ?_)) (fun x => by show _ :: g x = _; rw [hg]) c1 (by k_extra "OM") (by k_extra "OM") c6 c7 c8 u9 s2 s3 s4
              exact ⟨rfl, _, _, nx', rfl, F9, fun p hp => N9 p (hsub p hp), hlaw⟩
            · unfold Stop
              have TI8 : TailIs ((S1.heap.objs.size + 1 + 1, oC1) :: g rest) rest rest (fun x => (S1.heap.objs.size + 1 + 1, oC1) :: g x) := .cons (TI.at rest)
              k_dflt (refine' Call.cps (Call.sub (decided_c0 (tr := tr) (ms := ms) TI8 ?si c5 c6 ?len ?kv ?ca ?ho hys ?k1 ?k2 ?ln sp8) ?sub) t_and ?b9 ?f9 ?x9 ?t9 ?k9 ?d9 ?u9 ?n9 ?_; ktr_rel; (case si => exact tsi); (case len => exact hlen20); (case kv => exact hkv20); (case ca => exact tcc); (case ho => exact ho2); (case k1 => k_extra "OM"); (case k2 => k_extra "OM"); (case ln => exact hc6); (case sub => kqd_sub))
              clear TI8
              intro h9 tk9 F9 nw9 L9 N9
              k_steps
              (rename Fr _ _ _ _ => F9; rename News _ _ _ _ => N9)
              obtain ⟨nx', hsub, hlaw⟩ := lap_law (i := i) (fz := fz4) (co := S1.heap.objs.size + 1 + 1) (oC := oC1) (stk := stk) (own := own) L9 (fun p hp => by rw [← hg] at hp; repeat (first | exact hp | refine List.mem_cons_of_mem _ ?_)) (fun x => by show _ :: g x = _; rw [hg]) c1 (by k_extra "OM") (by k_extra "OM") c6 c7 c8 u9 s2 s3 s4
              exact ⟨rfl, _, _, nx', rfl, F9, fun p hp => N9 p (hsub p hp), hlaw⟩
            · unfold Stop
              have TI8 : TailIs ((S1.heap.objs.size + 1 + 1, oC1) :: g rest) rest rest (fun x => (S1.heap.objs.size + 1 + 1, oC1) :: g x) := .cons (TI.at rest)
              k_dflt (refine' Call.cps (Call.sub (asked_c0 (tr := tr) (ms := ms) TI8 ?si ?fl ?f0 ?f1 c5 c6 ?len ?kv ?ca ?ho hys ?k1 ?k2 ?ln sp8) ?sub) t_and ?b9 ?f9 ?x9 ?t9 ?k9 ?d9 ?u9 ?n9 ?_; ktr_rel; (case si => exact tsi); (case fl => exact tfl); (case f0 => exact tf0); (case f1 => exact tf1); (case len => exact hlen20); (case kv => exact hkv20); (case ca => exact tcc); (case ho => exact ho2); (case k1 => k_extra "OM"); (case k2 => k_extra "OM"); (case ln => exact hc6); (case sub => kqd_sub))
              clear TI8
              intro h9 tk9 F9 nw9 L9 N9
              k_steps
              (rename Fr _ _ _ _ => F9; rename News _ _ _ _ => N9)
              obtain ⟨nx', hsub, hlaw⟩ := lap_law (i := i) (fz := fz4) (co := S1.heap.objs.size + 1 + 1) (oC := oC1) (stk := stk) (own := own) L9 (fun p hp => by rw [← hg] at hp; repeat (first | exact hp | refine List.mem_cons_of_mem _ ?_)) (fun x => by show _ :: g x = _; rw [hg]) c1 (by k_extra "OM") (by k_extra "OM") c6 c7 c8 u9 s2 s3 s4
              exact ⟨rfl, _, _, nx', rfl, F9, fun p hp => N9 p (hsub p hp), hlaw⟩
          case check =>
            rintro fl9 s' ⟨rfl, h5, tk5, nx, rfl, F6, N6, hS⟩
            unfold frM at F6
            clear F5 N5 c1 c2 c5 c6 c7 c8 s1 s2 s3 s4 gk1 gk2 hg u1 u2 u3 u4 u5 u6 u7 u8 u9 v1 v2 v3 v4 v5 v6 v7 v8 v9 ap1 ap2 ap3 ap4 ap5 ap6 ap7 ap8 bp1 bp2 bp3 bp4 bp5 bp6 bp7 cp1 cp2 cp3 cp4 cp5 cp6 dp1 dp2 dp3 dp4 dp5 ep1 ep2 ep3 ep4 fp1 fp2 fp3 xp1 xp2 kp1 tcs tcc tsi tfl tf0 tf1 TI ho2 lw hw
            have hS' := hS
            refine lawS_e hS fun sp2 st2 ca2 b0 b1 j1 j2 jm jq jk tv2 mv2 kv2 no2 of3 oC2 ml2 nd2 ol2 m0 m1' k2 tr2 ms2 q2 q3 hs2 stk2 rest2 e9 c1 c2 c3 c4 c5 c6 c7 c8 s1 s2 s3 s4 => ?_
            clear hS
            subst e9
            obtain ⟨D0, D1, Dt, hno', im, i0, i1⟩ := c5
            refine el_0_9 c6.facts fun y1 y2 y3 G0 G1 y4 y5 y6 y7 => ?_
            clear y1 y2 y3 y4 y5 y6 y7
            have hZ9 : ∃ NX : Led, NX = (sd, sdO w K dl fl tl ml2 nd2 sp2 st2 false ca2) :: (dl, listOf [Value.ref b0, .ref b1].toArray j1) :: (tl, listOf tv2.toArray j2) :: (nd2, no2) :: (ml2, listOf mv2.toArray jm) :: (d9, of3) :: (ol2, listOf [Value.ref m0, .ref m1'].toArray jq) :: (kl, listOf kv2.toArray jk) :: (S1.heap.objs.size + 1 + 1, oC2) :: ((stk2 ++ own) ++ rest2) ∧ (sd, sdO w K dl fl tl ml2 nd2 sp2 st2 false ca2) ∈ NX ∧ (dl, listOf [Value.ref b0, .ref b1].toArray j1) ∈ NX ∧ (ol2, listOf [Value.ref m0, .ref m1'].toArray jq) ∈ NX ∧ (S1.heap.objs.size + 1 + 1, oC2) ∈ NX ∧ True ∧ ∀ p ∈ rest2, p ∈ NX :=
              ⟨_, rfl, .head _, .tail _ (.head _), .tail _ (.tail _ (.tail _ (.tail _ (.tail _ (.tail _ (.head _)))))), .tail _ (.tail _ (.tail _ (.tail _ (.tail _ (.tail _ (.tail _ (.tail _ (.head _)))))))), trivial, fun p hp => .tail _ (.tail _ (.tail _ (.tail _ (.tail _ (.tail _ (.tail _ (.tail _ (.tail _ (List.mem_append_right _ hp)))))))))⟩
            refine el_1_7 hZ9 fun NX hX k1 k2 k3 k4 k5 hR => ?_
            clear hZ9
            rw [← hX] at N6 hS'
            clear hX c2 c3 c4 c6 c7 c8 s1 s2 s3 im hno' Dt k5
            have tcs := hR _ (s4 _ jcs)
            have tsi := hR _ (s4 _ jsi)
            replace D0 := D0.mono hR
            replace D1 := D1.mono hR
            replace i0 := i0.mono hR
            replace i1 := i1.mono hR
            clear hR s4
            have TI : TailIs NX NX NX (fun x => x) := .nil
            have cut : CutHere := True.intro
            dsimp only
            k_steps
            unfold Stop
            k_dflt (refine Mine.ListComp_tup (_F₀ := by k_asm) (by with_unfolding_all rfl) (by decide) (by rfl) (by decide) (by rfl) ?_)
            k_steps
            rename_i T1 _ FT NT lT1 _
            refine ⟨_, _, _, _, rfl, rfl, FT, NT, ?sz, .head _, ?_⟩
            case sz => exact (show (2 : Nat) ≤ sizeLine by rw [sizeLine_eq]; decide)
            rintro _ ⟨_, rfl⟩
            refine rest_inv (fun i ys nw => nw = _ ∧ ys = [Value.ref b0, .ref b1].take i) ⟨rfl, rfl⟩ ?_ ?_
            · clear FT NT
              rintro i v ys _ I oI C oC D m₂ h tk E' hi8 hv ⟨rfl, rfl⟩ hC hx' F2 N2 off ne
              obtain ⟨x, t', rfl, hx, ht⟩ := two_ints hv
              k_steps
              unfold Stop
              (rename Fr _ _ _ _ => F9; rename News _ _ _ _ => N9)
              exact CompEnd.intro F9 N9 _ (by kqd_sub) (Off3.of off) ⟨_, .head _⟩ ⟨rfl, by rw [ht, ← sel_app (fun a => Value.ref a)]⟩
            · rintro ys9 _ ⟨rfl, rfl⟩
              clear FT NT
              unfold FinE
              intro Y1 h tk F2 N2 oY
              dsimp only
              replace N2 : News T0.heap S1.heap.objs.size h ((Y1, lst [Value.ref b0, .ref b1]) :: NX) := fun p hp => N2 p (by rcases List.mem_cons.mp hp with e | hp; exact e ▸ .head _; exact .tail _ (.tail _ hp))
              replace oY : OffL NX Y1 := fun p hp => off1_mem oY p (.tail _ hp)
              k_steps
              unfold Stop
              k_dflt (refine Mine.ListComp_tup (_F₀ := by k_asm) (by with_unfolding_all rfl) (by decide) (by rfl) (by decide) (by rfl) ?_)
              k_steps
              (rename Fr _ _ _ _ => FT; rename News _ _ _ _ => NT)
              refine el_1_4 (shift2 NT) fun r0 mT RX oX NT0 => ?_
              have oY0 : OffL r0 Y1 := oX Y1 (by k_ne) oY
              clear NT oX oY TI
              refine ⟨_, _, _, _, rfl, rfl, FT, NT0, ?sz, .tail _ mT, ?_⟩
              case sz => exact (show (2 : Nat) ≤ sizeLine by rw [sizeLine_eq]; decide)
              rintro _ ⟨_, rfl⟩
              refine rest_inv (fun i ys nw => ∃ r, nw = (Y1, lst [Value.ref b0, .ref b1]) :: r ∧ (∀ p ∈ r0, p ∈ r) ∧ OffL r Y1 ∧ DatAll r ys ([domD (ivs q2), domD (ivs q3)].take i)) ⟨r0, rfl, fun _ h => h, oY0, .nil⟩ ?_ ?_
              · clear FT NT0
                rintro i v ys nw I oI C oC D m₂ h tk E' hi8 hv ⟨r, rfl, R, oYr, Dy⟩ hC hx' F2 N2 off ne
                obtain ⟨x, t', rfl, hx, ht⟩ := two_ints hv
                have TIr : TailIs r r r (fun y => y) := .nil
                have RN : Run ([] : Led) r0 r := ⟨R, fun _ h => nomatch h⟩
                have k3' := R _ (RX _ k3)
                have k4' := R _ (RX _ k4)
                have mT' := R _ mT
                refine el_2_2 (intsAt_sel hx (i0.mono fun p hp => R _ (RX _ hp)) (i1.mono fun p hp => R _ (RX _ hp))) fun hv' nh hlh hh => ?_
                have hq := good_sel hx G0 G1
                have hql := hq.len
                have hqs := hq.asc
                have hql' : (sel x q2 q3).length < 64 := by k_extra "OM"
                have oI' : OffL r I := fun p hp => (off p (.tail _ hp)).1
                have oC' : OffL r C := fun p hp => (off p (.tail _ hp)).2.1
                have oD' : OffL r D := fun p hp => (off p (.tail _ hp)).2.2
                have offY := off _ (.head _)
                clear off hv
                k_steps
                unfold Stop
                (rename Fr _ _ _ _ => F9; rename News _ _ _ _ => N9; rename Run _ _ _ => R9; rename Led => r9; rename DatIn _ _ (domD (ivs (sel x q2 q3))) => D9; rename OffL _ I => oI9; rename OffL _ C => oC9; rename OffL _ D => oD9)
                refine CompEnd.intro F9 N9 ((Y1, lst [Value.ref b0, .ref b1]) :: r9) (by kqd_sub) ⟨offY, Off3.of fun p hp => ⟨oI9 p hp, oC9 p hp, oD9 p hp⟩⟩ ⟨_, .tail _ (by assumption)⟩ ⟨r9, rfl, R9.sub, by assumption, ?_⟩
                rw [ht, sel_app (fun q => domD (ivs q))]
                exact datAll_push (by assumption) D9
              · rintro ys nw ⟨r, rfl, R, oYr, Dy⟩
                clear FT NT0
                replace Dy : DatAll r ys [domD (ivs q2), domD (ivs q3)] := Dy
                unfold FinE
                intro Y2 h tk F2 N2 oY2
                dsimp only
                have up : ∀ p ∈ r, p ∈ (Y2, listOf ys.toArray ys.length) :: (Y1, listOf [Value.ref b0, .ref b1].toArray 2) :: r := fun p hp => .tail _ (.tail _ hp)
                have hDa : DatIn ((Y2, listOf ys.toArray ys.length) :: (Y1, listOf [Value.ref b0, .ref b1].toArray 2) :: r) (.ref Y1) (.list [domD (ivs q2), domD (ivs q3)]) := DatIn.list (.tail _ (.head _)) (.cons (D0.mono fun p hp => up _ (R _ (RX _ hp))) (.cons (D1.mono fun p hp => up _ (R _ (RX _ hp))) .nil))
                have hDb : DatIn ((Y2, listOf ys.toArray ys.length) :: (Y1, listOf [Value.ref b0, .ref b1].toArray 2) :: r) (.ref Y2) (.list [domD (ivs q2), domD (ivs q3)]) := DatIn.list (.head _) (Dy.mono up)
                k_steps
                unfold Stop
                k_dflt (refine' dat_ne ?n9 hDa ?sa hDb ?sb (doms_ok _ _) (doms_ok _ _) ?u9 ?_; (case n9 => k_asm); (case sa => (intro q9 hq9; (repeat (first | exact hq9 | refine List.mem_cons_of_mem _ ?_)))); (case sb => (intro q9 hq9; (repeat (first | exact hq9 | refine List.mem_cons_of_mem _ ?_)))); (case u9 => ktr_units))
                intro t9 ht9
                have e9 : t9 = false := bool_no ht9 (fun h => h rfl)
                subst e9
                k_steps
                (rename Fr _ _ _ _ => F9; rename News _ _ _ _ => N9)
                obtain ⟨ho9, nx', hs9, hL9, hw9⟩ := lawS_out hS'
                refine InvEndG.intro F9 N9 ⟨fun y h1 h2 => by simp only [if_neg h1, if_neg h2], hL9⟩ hw9 (fun p hp => ?_) (fun p hp => ?_)
                · have hz := R _ (RX _ (hs9 p hp))
                  repeat (first | exact hz | refine List.mem_cons_of_mem _ ?_)
                · have hz := R _ (RX _ (ho9 p hp))
                  repeat (first | exact hz | refine List.mem_cons_of_mem _ ?_)
        case done =>
          clear F3 N6 hS0 hR dC ho3 oO8
          intro u v nx h tk hS F2 N2
          refine lawS_e hS fun sp st1 ca a0 a1 n1 n2 nm nq nk tv mv kv no1 of1 oC1 ml1 nd1 ol1 l0 l1 k tr ms q0 q1 hs stk rest e9 c1 c2 c3 c4 c5 c6 c7 c8 s1 s2 s3 s4 => ?_
          clear hS
          subst e9
          obtain ⟨g, TI, hg⟩ : ∃ g : Led → Led, TailIs ((stk ++ []) ++ rest) rest rest g ∧ ∀ x, g x = (stk ++ []) ++ x := ⟨_, tailIs_app, fun _ => rfl⟩
          rw [← hg] at N2
          refine offs_9 s1 fun u1 u2 u3 u4 u5 u6 u7 u8 u9 => ?_
          have v1 := (offL_append.mp u1).2
          have v2 := (offL_append.mp u2).2
          have v3 := (offL_append.mp u3).2
          have v5 := (offL_append.mp u5).2
          refine sep_9 s1 fun ap1 ap2 ap3 ap4 ap5 ap6 ap7 ap8 y1 bp1 bp2 bp3 bp4 bp5 bp6 bp7 y2 cp1 cp2 cp3 cp4 cp5 cp6 y3 dp1 dp2 dp3 dp4 dp5 y4 ep1 ep2 ep3 ep4 y5 fp1 fp2 fp3 y6 xp1 xp2 y7 kp1 y8 y9 => ?_
          clear y1 y2 y3 y4 y5 y6 y7 y8 y9
          have hlen20 : hs.length ≤ 20 := by k_extra "OM"
          have hkl := c8.len
          have hkv20 : kv.length ≤ 20 := by k_extra "OM"
          have tcs := s4 _ jcs
          have tsi := s4 _ jsi
          have tfl := s4 _ jfl
          have tf0 := jf0.mono s4
          have tf1 := jf1.mono s4
          k_steps
          unfold Stop
          k_dflt (refine' Call.cps (popAll_c (n := kv.length) ?p1 ?p2 ?p3 ?p4 ?ti ?si c5 c6 ?fl ?f0 ?f1 ?len ?hn) t_and ?b9 ?f9 ?x9 ?t9 ?k9 ?d9 ?u9 ?n9 ?_; ktr_rel; (case p1 => k_updF); (case p2 => k_updF); (case p3 => k_updF); (case p4 => k_updF); (case ti => tb_rel); (case si => exact tsi); (case fl => exact tfl); (case f0 => exact tf0); (case f1 => exact tf1); (case len => exact hlen20); (case hn => exact hkl))
          intro h9 tk9 F9 nw9 hp9 N9
          refine el_7_4 hp9 fun ca' b0 b1 j1 ml' nd' rest' hsub hR E0 E1 => ?_
          clear hp9
          have hZ9 : ∃ NX : Led, News T0.heap S1.heap.objs.size h9 NX ∧ (sd, sdO w K dl fl tl ml' nd' sp st1 false ca') ∈ NX ∧ (dl, listOf [Value.ref b0, .ref b1].toArray j1) ∈ NX ∧ (∀ p ∈ rest', p ∈ NX) := ⟨_, fun p hp => N9 p (hsub p hp), .head _, .tail _ (.head _), fun p hp => .tail _ (.tail _ hp)⟩
          refine el_1_4 hZ9 fun NX NN k1 k2 hR' => ?_
          clear hZ9
          have up4 : ∀ p ∈ fz4, p ∈ NX := fun p hp => hR' _ (hR _ (s4 p hp))
          replace E0 := E0.mono hR'
          replace E1 := E1.mono hR'
          clear N9 hsub hR hR' s4 c1 c2 c3 c4 c5 c6 c8 s2 s3 u1 u2 u3 u4 u5 u6 u7 u8 u9 v1 v2 v3 v5 ap1 ap2 ap3 ap4 ap5 ap6 ap7 ap8 bp1 bp2 bp3 bp4 bp5 bp6 bp7 cp1 cp2 cp3 cp4 cp5 cp6 dp1 dp2 dp3 dp4 dp5 ep1 ep2 ep3 ep4 fp1 fp2 fp3 xp1 xp2 kp1 tcs tsi tfl tf0 tf1 TI hg
          have tcs := up4 _ jcs
          have tsi := up4 _ jsi
          have tfi := up4 _ jfi
          have tm0 := up4 _ jm0
          have tm1 := up4 _ jm1
          have cut : CutHere := True.intro
          k_steps
          unfold Stop
          k_dflt (refine Mine.ListComp_tup (_F₀ := by k_asm) (by with_unfolding_all rfl) (by decide) (by rfl) (by decide) (by rfl) ?_)
          k_steps
          rename_i T1 _ FT NT lT1 _
          refine ⟨_, _, _, _, rfl, rfl, FT, NT, ?sz, .head _, ?_⟩
          case sz => exact (show (2 : Nat) ≤ sizeLine by rw [sizeLine_eq]; decide)
          rintro _ ⟨_, rfl⟩
          refine rest_inv (fun i ys nw => nw = _ ∧ ys = [Value.ref b0, .ref b1].take i) ⟨rfl, rfl⟩ ?_ ?_
          · clear FT NT
            rintro i v ys _ I oI C oC D m₂ h tk E' hi8 hv ⟨rfl, rfl⟩ hC hx' F2 N2 off ne
            obtain ⟨x, t', rfl, hx, ht⟩ := two_ints hv
            k_steps
            unfold Stop
            (rename Fr _ _ _ _ => F9; rename News _ _ _ _ => N9)
            exact CompEnd.intro F9 N9 _ (by kqd_sub) (Off3.of off) ⟨_, .head _⟩ ⟨rfl, by rw [ht, ← sel_app (fun a => Value.ref a)]⟩
          · rintro ys9 _ ⟨rfl, rfl⟩
            clear FT NT
            unfold FinE
            intro Y1 h tk F2 N2 oY
            dsimp only
            replace N2 : News T0.heap S1.heap.objs.size h ((Y1, lst [Value.ref b0, .ref b1]) :: NX) := fun p hp => N2 p (by rcases List.mem_cons.mp hp with e | hp; exact e ▸ .head _; exact .tail _ (.tail _ hp))
            replace oY : OffL NX Y1 := fun p hp => off1_mem oY p (.tail _ hp)
            k_steps
            unfold Stop
            k_dflt (refine ListComp_U (F₀ := by k_asm) (by with_unfolding_all rfl) (by decide) (by rfl) (by decide) (by rfl) ?_)
            k_steps
            unfold Stop
            (rename Fr _ _ _ _ => FT; rename News _ _ _ _ => NT)
            refine CompSrc.ledger rfl FT NT (by k_mem) (by exact (show (2 : Nat) ≤ sizeLine by rw [sizeLine_eq]; decide)) fun g8 => rest_inv (fun i ys nw => ∃ r, nw = (Y1, lst [Value.ref b0, .ref b1]) :: r ∧ (∀ p ∈ NX, p ∈ r) ∧ OffL r Y1 ∧ DatAll r ys ([domD (ivs p0), domD (ivs p1)].take i)) ⟨NX, rfl, fun _ h => h, oY, .nil⟩ ?_ ?_
            · clear FT NT
              rintro i v ys nw I oI C oC D m₂ h tk E' hi8 hv ⟨r, rfl, R, oYr, Dy⟩ hC hx' F2 N2 off ne
              obtain ⟨ra, iv, iin, ns, rfl, hm, hi, gd, ht⟩ : ∃ ra iv iin ns, v = .ref ra ∧ (ra, listOf iv.toArray iin) ∈ r ∧ IntsAre iv ns ∧ Good ns ∧ [domD (ivs p0), domD (ivs p1)].take (i + 1) = [domD (ivs p0), domD (ivs p1)].take i ++ [domD (ivs ns)] := by
                rcases two_items hv with ⟨rfl, rfl⟩ | ⟨rfl, rfl⟩
                · exact ⟨ra0, iv0, in0, p0, rfl, R _ tm0, ii0, gp0, rfl⟩
                · exact ⟨ra1, iv1, in1, p1, rfl, R _ tm1, ii1, gp1, rfl⟩
              have TIr : TailIs r r r (fun y => y) := .nil
              have RN : Run ([] : Led) NX r := ⟨R, fun _ h => nomatch h⟩
              have tfi' := R _ tfi
              have hql := gd.len
              have hqs := gd.asc
              have hql' : ns.length < 64 := by k_extra "OM"
              have oI' : OffL r I := fun p hp => (off p (.tail _ hp)).1
              have oC' : OffL r C := fun p hp => (off p (.tail _ hp)).2.1
              have oD' : OffL r D := fun p hp => (off p (.tail _ hp)).2.2
              have offY := off _ (.head _)
              clear off hv
              k_steps
              unfold Stop
              (rename Fr _ _ _ _ => F9; rename News _ _ _ _ => N9; rename Run _ _ _ => R9; rename Led => r9; rename DatIn _ _ (domD (ivs ns)) => D9; rename OffL _ I => oI9; rename OffL _ C => oC9; rename OffL _ D => oD9)
              refine CompEnd.intro F9 N9 ((Y1, lst [Value.ref b0, .ref b1]) :: r9) (by kqd_sub) ⟨offY, Off3.of fun p hp => ⟨oI9 p hp, oC9 p hp, oD9 p hp⟩⟩ (.inr ⟨_, .tail _ (R9.sub _ tfi), rfl, _, rfl⟩) ⟨r9, rfl, R9.sub, by assumption, ?_⟩
              rw [ht]
              exact datAll_push (by assumption) D9
            · rintro ys nw ⟨r, rfl, R, oYr, Dy⟩
              clear FT NT
              replace Dy : DatAll r ys [domD (ivs p0), domD (ivs p1)] := Dy
              unfold FinE
              intro Y2 h tk F2 N2 oY2
              dsimp only
              have up : ∀ p ∈ r, p ∈ (Y2, listOf ys.toArray ys.length) :: (Y1, listOf [Value.ref b0, .ref b1].toArray 2) :: r := fun p hp => .tail _ (.tail _ hp)
              have hDa : DatIn ((Y2, listOf ys.toArray ys.length) :: (Y1, listOf [Value.ref b0, .ref b1].toArray 2) :: r) (.ref Y1) (.list [domD (ivs p0), domD (ivs p1)]) := DatIn.list (.tail _ (.head _)) (.cons (E0.mono fun p hp => up _ (R _ hp)) (.cons (E1.mono fun p hp => up _ (R _ hp)) .nil))
              have hDb : DatIn ((Y2, listOf ys.toArray ys.length) :: (Y1, listOf [Value.ref b0, .ref b1].toArray 2) :: r) (.ref Y2) (.list [domD (ivs p0), domD (ivs p1)]) := DatIn.list (.head _) (Dy.mono up)
              have tcs' := R _ tcs
              have tsi' := R _ tsi
              have k1' := R _ k1
              k_steps
              unfold Stop
              k_dflt (refine' dat_eq ?n9 hDa ?sa hDb ?sb (doms_ok _ _) (doms_ok _ _) ?u9 ?_; (case n9 => k_asm); (case sa => (intro q9 hq9; (repeat (first | exact hq9 | refine List.mem_cons_of_mem _ ?_)))); (case sb => (intro q9 hq9; (repeat (first | exact hq9 | refine List.mem_cons_of_mem _ ?_)))); (case u9 => ktr_units))
              intro t9 ht9
              have e9 : t9 = true := ht9.mpr rfl
              subst e9
              k_steps))
end Mine
theorem PySem.Challenge.cw_nz0013_01_holds : PySem.Challenge.rw_nz0013_01.Holds :=
  Mine.law_holds
